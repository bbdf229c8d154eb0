/- Models, operations, lists, maps, arrays, ranges over functions. Conditions: none. -/
import Derived.Test.YtihapemckcdicaaGreatDoorQYLgA
import Derived.Laws.RangeAny
namespace Go.Lg
open Go.Conc
def fV{S O:Type}(body:S→Option (S ⊕ O)):Nat→S→Option O
 | 0,_=>none
 | n+1,s=>match body s with
  | none=>none
  | some (.inl s')=>fV body n s'
  | some (.inr o)=>some o
open Classical in
noncomputable def a6{S O:Type}(body:S→Option (S ⊕ O))(s:S):Option O:=if h:∃ o n,fV body n s=some o then some h.choose else none
theorem wz{S O:Type}{body:S→Option (S ⊕ O)}:∀ {n m:Nat} {s:S} {o:O},n≤m→fV body n s=some o→fV body m s=some o
 | 0,_,_,_,_,h=>by cases h
 | n+1,0,_,_,hm,_=>by omega
 | n+1,m+1,s,o,hm,h=>by
  simp only [fV] at h ⊢
  cases hb:body s with
  | none=>rw [hb] at h; cases h
  | some x=>cases x with
   | inl s'=>rw [hb] at h; exact wz (by omega) h
   | inr o'=>rw [hb] at h; exact h
theorem wB{S O:Type}{body:S→Option (S ⊕ O)}{n:Nat}{s:S}{o:O}(h:fV body n s=some o):a6 body s=some o:=by
 have hex:∃ o n,fV body n s=some o:=⟨o,n,h⟩
 unfold a6
 rw [dif_pos hex]
 obtain ⟨m,hm⟩:=hex.choose_spec
 have h1:=wz (Nat.le_max_left n m) h
 have h2:=wz (Nat.le_max_right n m) hm
 rw [h1] at h2
 exact h2.symm
theorem wA{S O:Type}{body:S→Option (S ⊕ O)}{s:S}{o:O}(h:a6 body s=some o):∃ n,fV body n s=some o:=by
 unfold a6 at h
 split at h
 ·rename_i hex
  cases h
  exact hex.choose_spec
 ·cases h
theorem fF{S O:Type}{body:S→Option (S ⊕ O)}{s:S}{o:O}(h:body s=some (.inr o)):a6 body s=some o :=
 wB (n:=1) (by simp [fV,h])
theorem j1{S O:Type}{body:S→Option (S ⊕ O)}{s s':S}(h:body s=some (.inl s')):a6 body s=a6 body s':=by
 cases f:a6 body s' with
 | some o =>
  obtain ⟨n,b⟩:=wA f
  exact wB (n:=n+1) (by simp [fV,h,b])
 | none =>
  cases h2:a6 body s with
  | none=>rfl
  | some o =>
   obtain ⟨n,b⟩:=wA h2
   cases n with
   | zero=>cases b
   | succ n =>
    simp only [fV,h] at b
    rw [wB b] at f
    cases f
theorem ag{α β:Type}{o:Option α}{f:α→Option β}{r:β}(h:o.bind f=some r):∃ x,o=some x∧f x=some r:=by
 cases o with
 | none=>cases h
 | some x=>exact ⟨x,rfl,h⟩
def af{α:Type}(t:Bool)(a b:Option α):Option α:=match t with | true=>a | false=>b
theorem a7{α:Type}{t:Bool}{a b:Option α}{r:α}{G:Prop}(h:af t a b=some r)(h1:t=true→a=some r→G)(h2:t=false→b=some r→G):G:=by
 cases t with
 | true=>exact h1 rfl h
 | false=>exact h2 rfl h
theorem ay{α:Type}{a b:α}(h:some a=some b):a=b:=ed h
def idx{α:Type}(xs:List α)(i:Int):Option α:=if 0≤i then xs[i.toNat]? else none
def dD{α:Type}(xs ys:List α):Option (List α):=if xs.length+ys.length≤16777216 then some (xs++ys) else none
def e7{α:Type}(xs:List α)(lo hi:Int):Option (List α):=if 0≤lo∧lo≤hi∧hi≤xs.length then some ((xs.take hi.toNat).drop lo.toNat) else none
theorem jl{α:Type}{xs:List α}{i:Int}{x:α}(h:idx xs i=some x):0≤i∧i < xs.length∧xs[i.toNat]? = some x:=by
 unfold idx at h
 split at h
 ·have:=(dU.1 h).1
  exact ⟨‹_›,by omega,h⟩
 ·cases h
theorem El{α:Type}{xs ys b:List α}(h:dD xs ys=some b):xs.length+ys.length≤16777216∧b=xs++ys:=by
 unfold dD at h
 split at h
 ·cases h; exact ⟨‹_›,rfl⟩
 ·cases h
section
variable {P:Program} {B:Base} {main:Bool} {ab:Jd P B main} {c:Ctx} {R:ax} {H:ai} {st st':St} {k:List Item}
theorem U.a6{S O j:Type}{body:S→Option (S ⊕ O)}{cont:O→Option j}{s0:S}{r:j}{code:Code}(f:(a6 body s0).bind cont=some r)(I:S→ax→ai→St→Prop)
  (z:∀ s R H st,I s R H st→∀ x,body s=some x→(∀ s',x = .inl s'→∀ R' H' st',I s' R' H' st'→U ab c R' H' st' (.inLoop code::k))→(∀ o,x = .inr o→cont o=some r)→U ab c R H st (.code code :: .inLoop code::k))
  (p:I s0 R H st):U ab c R H st (.code (.loop code)::k):=by
 obtain ⟨o,hl,F⟩:=ag f
 obtain ⟨n,G⟩:=wA hl
 clear f hl
 have key:∀ n s R H st,fV body n s=some o→I s R H st→U ab c R H st (.code code :: .inLoop code::k):=by
  intro n
  induction n with
  | zero=>intro s R H st h; cases h
  | succ n J =>
   intro s R H st h u
   simp only [fV] at h
   cases hb:body s with
   | none=>rw [hb] at h; cases h
   | some x =>
    rw [hb] at h
    refine z s R H st u x hb (λ s' b R' H' st' w=>?_) (λ o' b=>?_)
    ·subst b; exact U.inLoop (J s' R' H' st' h w)
    ·subst b; cases h; exact F
 exact U.enterLoop (key n s0 R H st G p)
theorem U.known{t:Nat}{x b:Bool}{todo:List Item}(j:st.lookup t=some (.bool x))(hb:x=b)(h:U ab c R H ((t,.bool b)::st) todo):U ab c R H st todo:=by
 subst hb; exact λ tmps f=>h tmps (f.CU j)
theorem Any.cb{S:Nat→ai}{ops:Array Oper}{n:Nat}{rem:List Nat}{t:Nat}{x b:Bool}(j:st.lookup t=some (.bool x))(hb:x=b)(h:Any ab c S ops k n rem R H ((t,.bool b)::st)):Any ab c S ops k n rem R H st:=by
 subst hb; exact ⟨h.1,λ tmps f=>h.2 tmps (f.CU j)⟩
theorem U.c5{x:Operand}{th el:Code}{t:Bool}(f:aU st x=some (.bool t))(b:t=true)(h:U ab c R H st (.code th::k)):U ab c R H st (.code (.cond x th el)::k):=by subst b; exact U.cond_true f h
theorem U.cw{x:Operand}{th el:Code}{t:Bool}(f:aU st x=some (.bool t))(b:t=false)(h:U ab c R H st (.code el::k)):U ab c R H st (.code (.cond x th el)::k):=by subst b; exact U.cond_false f h
end
abbrev bH(α:Type):=ax→α→List Value→Prop
class CM {α:Type} (C:bH α):Prop where
 mono:∀ {R R':ax} {x:α} {es:List Value},aJ R R'→C R x es→C R' x es
 one:∀ {R:ax} {x:α} {es:List Value},C R x es→∀ u∈es,u.oneCell'=true
def CI(kd:IntKind):bH Int:=λ _ x es=>es=[.int kd x]
def CS:bH ByteArray:=λ _ x es=>es=[.string x]
instance {kd:IntKind}:CM (CI kd):=⟨λ _ h=>h,λ h=>by cases h; simp [Value.oneCell']⟩
instance:CM CS:=⟨λ _ h=>h,λ h=>by cases h; simp [Value.oneCell']⟩
structure a3 {α:Type} (C:bH α) (k:Nat) (R:ax) (xs:List α) (es:List Value):Prop where
 len:es.length=xs.length * k
 at_:∀ (i:Nat) (x:α),xs[i]? = some x→∃ e1:List Value,C R x e1∧e1.length=k∧∀ (j:Nat) (w:Value),e1[j]? = some w→es[i * k+j]? = some w
theorem a3.nil{α:Type}{C:bH α}{k:Nat}{R:ax}:a3 C k R [] []:=⟨by simp,by simp⟩
theorem a3.mono{α:Type}{C:bH α}[CM C]{k:Nat}{R R':ax}{xs:List α}{es:List Value}(h:a3 C k R xs es)(b:aJ R R'):a3 C k R' xs es :=
 ⟨h.len,λ i x f=>by obtain ⟨e1,h1,h2,h3⟩:=h.at_ i x f; exact ⟨e1,CM.mono b h1,h2,h3⟩⟩
theorem a3.append{α:Type}{C:bH α}{k:Nat}{R:ax}{xs ys:List α}{es p:List Value}(h:a3 C k R xs es)(g:a3 C k R ys p):a3 C k R (xs++ys) (es++p):=by
 refine ⟨by rw [fg,fg,h.len,g.len,Nat.add_mul],λ i x b=>?_⟩
 by_cases hi:i < xs.length
 ·rw [gg hi] at b
  obtain ⟨e1,h1,h2,h3⟩:=h.at_ i x b
  refine ⟨e1,h1,h2,λ j w f=>?_⟩
  have:=h3 j w f
  rw [gg (dU.1 this).1]
  exact this
 ·rw [ff (by omega)] at b
  obtain ⟨e1,h1,h2,h3⟩:=g.at_ _ x b
  refine ⟨e1,h1,h2,λ j w f=>?_⟩
  have:=h3 j w f
  have e:i * k+j=es.length+((i - xs.length) * k+j):=by
   rw [h.len]
   have:i=xs.length+(i - xs.length):=by omega
   rw [← Nat.add_assoc,← Nat.add_mul,← this]
  rw [e,ff (by omega),Nat.add_sub_cancel_left]
  exact this
theorem a3.single{α:Type}{C:bH α}{k:Nat}{R:ax}{x:α}{es:List Value}(h:C R x es)(b:es.length=k):a3 C k R [x] es:=by
 refine ⟨by simp [b],λ i y f=>?_⟩
 cases i with
 | zero=>cases f; exact ⟨es,h,b,λ j w p=>by simpa using p⟩
 | succ i=>simp at f
theorem a3.one{α:Type}{C:bH α}[CM C]{k:Nat}{R:ax}{xs:List α}{es:List Value}(h:a3 C k R xs es):∀ u∈es,u.oneCell'=true:=by
 intro u hu
 obtain ⟨j,f⟩:=List.getElem?_of_mem hu
 have b:=(dU.1 f).1
 rw [h.len] at b
 have p:0 < k:=by cases k with | zero=>simp at b | succ k=>omega
 have hi:j / k < xs.length:=Nat.div_lt_of_lt_mul (by rw [Nat.mul_comm]; exact b)
 obtain ⟨e1,h1,h2,h3⟩:=h.at_ (j / k) _ (ez hi)
 have hm:j % k < e1.length:=by rw [h2]; exact Nat.mod_lt _ p
 have:=h3 (j % k) _ (ez hm)
 rw [show j / k * k+j % k=j by rw [Nat.mul_comm]; exact Nat.div_add_mod j k,f] at this
 cases this
 exact CM.one h1 _ (List.getElem_mem hm)
theorem a3.drop{α:Type}{C:bH α}{k n:Nat}{R:ax}{xs:List α}{es:List Value}(h:a3 C k R xs es):a3 C k R (xs.drop n) (es.drop (n * k)):=by
 refine ⟨by simp [h.len,Nat.sub_mul],λ i x b=>?_⟩
 rw [List.getElem?_drop] at b
 obtain ⟨e1,h1,h2,h3⟩:=h.at_ _ x b
 refine ⟨e1,h1,h2,λ j w f=>?_⟩
 rw [List.getElem?_drop,← h3 j w f,Nat.add_mul,Nat.add_assoc]
theorem a3.take{α:Type}{C:bH α}{k n:Nat}{R:ax}{xs:List α}{es:List Value}(h:a3 C k R xs es):a3 C k R (xs.take n) (es.take (n * k)):=by
 refine ⟨by simp only [fh,h.len]; exact Nat.mul_min_mul_right _ _ _,λ i x b=>?_⟩
 rw [List.getElem?_take] at b
 split at b
 ·rename_i hi
  obtain ⟨e1,h1,h2,h3⟩:=h.at_ _ x b
  refine ⟨e1,h1,h2,λ j w f=>?_⟩
  have p:j < k:=by rw [← h2]; exact (dU.1 f).1
  rw [List.getElem?_take,if_pos,h3 j w f]
  calc i * k+j < i * k+k:=by omega
   _=(i+1) * k:=by rw [Nat.add_mul,Nat.one_mul]
   _≤n * k:=Nat.mul_le_mul_right k hi
 ·cases b
def aa{α:Type}(C:bH α)(k:Nat)(R:ax)(v:Value)(xs:List α):Prop :=
 ∃ A cap es,v = .slice A xs.length cap∧a3 C k R xs es∧xs.length≤cap∧(xs≠[]→∃ b o arr e f,A=some ⟨b,o,none⟩∧R b=some (.cells arr e f)∧∀ (j:Nat) (w:Value),es[j]? = some w→arr[o+j]? = some w)
theorem aa.mono{α:Type}{C:bH α}[CM C]{k:Nat}{R R':ax}{v:Value}{xs:List α}(h:aa C k R v xs)(f:aJ R R'):aa C k R' v xs:=by
 obtain ⟨A,cap,es,h1,h2,w,h3⟩:=h
 refine ⟨A,cap,es,h1,h2.mono f,w,λ z=>?_⟩
 obtain ⟨b,o,arr,e,j,p,s,u⟩:=h3 z
 exact ⟨b,o,arr,e,j,p,f _ _ s,u⟩
theorem aa.nil{α:Type}{C:bH α}{k:Nat}{R:ax}{A:Option Addr}{cap:Nat}:aa C k R (.slice A 0 cap) []:=⟨A,cap,[],rfl,.nil,Nat.zero_le _,λ h=>absurd rfl h⟩
def ej{α:Type}(C:bH α)(k:Nat):bH (List α):=λ R xs es=>∃ v,es=[v]∧aa C k R v xs
instance {α:Type} {C:bH α} [CM C] {k:Nat}:CM (ej C k):=⟨λ b ⟨v,h1,h2⟩=>⟨v,h1,h2.mono b⟩,λ ⟨v,h1,A,cap,es,h2,_⟩=>by subst h1; subst h2; simp [Value.oneCell']⟩
def aZ{α:Type}(C:bH α)(k e:Nat)(R:ax)(v:Value)(xs:List α)(Hs:ai):Prop :=
 (∃ A,v = .slice A 0 0∧xs=[]∧Hs=[])∨∃ b cap cs es,v = .slice (some ⟨b,0,none⟩) xs.length cap∧Hs=[(b,.cells cs e (0,0))]∧cs.size=cap * k∧xs.length≤cap∧a3 C k R xs es∧∀ (j:Nat) (w:Value),es[j]? = some w→cs[j]? = some w
theorem aZ.mono{α:Type}{C:bH α}[CM C]{k e:Nat}{R R':ax}{v:Value}{xs:List α}{Hs:ai}(h:aZ C k e R v xs Hs)(f:aJ R R'):aZ C k e R' v xs Hs:=by
 rcases h with h | ⟨b,cap,cs,es,h1,h2,h3,h4,h5,h6⟩
 ·exact .inl h
 ·exact .inr ⟨b,cap,cs,es,h1,h2,h3,h4,h5.mono f,h6⟩
theorem aZ.nil{α:Type}{C:bH α}{k e:Nat}{R:ax}{A:Option Addr}:aZ C k e R (.slice A 0 0) [] []:=.inl ⟨A,rfl,rfl,rfl⟩
def hQ{α:Type}(C:bH α)(k:Nat)(R:ax)(H:ai)(v:Value)(ys:List α):Prop :=
 ∃ A cap es,v = .slice A ys.length cap∧a3 C k R ys es∧(ys≠[]→∃ b o,A=some ⟨b,o,none⟩∧aH R H b o es)
theorem aa.arg{α:Type}{C:bH α}{k:Nat}{R:ax}{H:ai}{v:Value}{xs:List α}(h:aa C k R v xs):hQ C k R H v xs:=by
 obtain ⟨A,cap,es,h1,h2,_,h3⟩:=h
 refine ⟨A,cap,es,h1,h2,λ F=>?_⟩
 obtain ⟨b,o,arr,e,f,p,s,u⟩:=h3 F
 exact ⟨b,o,p,λ j w z=>⟨rfl,arr,e,f,.inl s,u j w z⟩⟩
theorem hQ.lit{α:Type}{C:bH α}{k e n cap b:Nat}{R:ax}{H:ai}{ys:List α}{cs:Array Value}{f:Nat × Nat}(hm:(b,Obj.cells cs e f)∈H)(h:a3 C k R ys cs.toList)(s:ys.length=n):hQ C k R H (.slice (some ⟨b,0,none⟩) n cap) ys:=by
 subst s
 exact ⟨_,cap,cs.toList,rfl,h,λ _=>⟨b,0,rfl,λ j w p=>⟨rfl,cs,e,f,.inr hm,by simpa using p⟩⟩⟩
def fj(G:ai→ai):Prop:=∃ A D,∀ X,G X=A++(X++D)
theorem fj.set{G:ai→ai}(f:fj G){b:Nat}{o o':Obj}:cF (G [(b,o)]) b o o' (G [(b,o')]):=by
 obtain ⟨A,D,h⟩:=f
 rw [h,h]
 clear h
 induction A with
 | nil=>exact .here
 | cons p A j=>exact .there j
end Go.Lg
namespace Go.Lg
open Go.Conc
section
variable {P:Program} {B:Base} {main:Bool} {ab:Jd P B main} {c:Ctx} {R:ax} {H H':ai} {st st':St} {o:Oper} {C:ax→ai→St→Prop}
def ks(P:Program)(t:TypeId)(v:Value)(i:Int)(b n:Nat):Prop:=∀ kd,ah P (Instr.indexAt t v (.int kd i)) (.pointer (some ⟨b,n,none⟩))
theorem aa.elem{α:Type}{K:bH α}{k t e:Nat}{v:Value}{xs:List α}{i:Int}{x:α}(h:aa K k R v xs)(J:fB P t e k)(hi:idx xs i=some x) :
  ∃ b n es,K R x es∧aH R [] b n es∧ks P t v i b n:=by
 obtain ⟨h1,h2,h3⟩:=jl hi
 obtain ⟨A,cap,es,rfl,z,_,F⟩:=h
 obtain ⟨b,o,arr,f,p,rfl,s,u⟩:=F (by rintro rfl; simp at h3)
 obtain ⟨e1,f1,f2,f3⟩:=z.at_ _ _ h3
 refine ⟨b,o+i.toNat * k,e1,f1,λ j w G=>⟨rfl,arr,f,p,.inl s,?_⟩,λ kd=>?_⟩
 ·have:=u _ _ (f3 j w G)
  simpa [Nat.add_assoc] using this
 ·have:=xV (P:=P) (b:=b) (m:=o) (cap:=cap) (kd:=kd) J (j:=i.toNat) (len:=xs.length) (by omega)
  rwa [Int.toNat_of_nonneg h1] at this
theorem Ox.sS{x y:Operand}{t:TypeId}{v:Value}{kd:IntKind}{i:Int}{b n:Nat}(j:o.op = .indexAddr t x y)(z:aU st x=some v)(F:aU st y=some (.int kd i))(w:ks P t v i b n)
  (hd:bA o.dst c.n) (u:aA (bC o.dst (.pointer (some ⟨b,n,none⟩)) st) st') (h:C R H st'):aS P B c o R H st C :=
 Ox.fb (s:=λ f=>Instr.indexAt t (f x) (f y)) (by rw [j]; rfl) hd (λ f=>by simp only [execOp,j]) (λ f p=>by rw [p x _ z,p y _ F]; exact w kd) u h
theorem Az{t e len k b m:Nat}{i:Int}(f:jb P t len e k)(hi:0≤i∧i < len):ks P t (.pointer (some ⟨b,m,none⟩)) i b (m+i.toNat * k):=λ kd=>by
 have:=PS (P:=P) (b:=b) (m:=m) (kd:=kd) f (j:=i.toNat) (by omega)
 rwa [Int.toNat_of_nonneg hi.1] at this
theorem Ox.gX{α:Type}{K:bH α}{k:Nat}{x:Operand}{t e:TypeId}{v:Value}{xs:List α}(b:o.op = .call ⟨.builtin .len,#[x],#[t]⟩)(p:aU st x=some v)(hl:aa K k R v xs)(j:P.underlying t=some (.slice e))
  (hd:bA o.dst c.n) (f:aA (bC o.dst (.int .i64 (xs.length:Int)) st) st') (h:C R H st'):aS P B c o R H st C:=by
 obtain ⟨A,cap,es,rfl,_⟩:=hl
 exact Ox.len b p j hd f h
theorem Ox.s4{α:Type}{K:bH α}{k u:Nat}{x:Operand}{t e:TypeId}{v:Value}{xs:List α}{Hs:ai}(f:o.op = .call ⟨.builtin .len,#[x],#[t]⟩)(s:aU st x=some v)(hl:aZ K k u R v xs Hs)(p:P.underlying t=some (.slice e))
  (hd:bA o.dst c.n) (j:aA (bC o.dst (.int .i64 (xs.length:Int)) st) st') (h:C R H st'):aS P B c o R H st C:=by
 rcases hl with ⟨A,rfl,rfl,_⟩ | ⟨b,cap,cs,es,rfl,_⟩
 ·exact Ox.len f s p hd j h
 ·exact Ox.len f s p hd j h
def i64(z:Int):Int:=IntKind.wrap .i64 z
theorem sN{z:Int}(h : -9223372036854775808≤z∧z≤9223372036854775807):i64 z=z:=DO h
theorem Ox.ar{x y:Operand}{bo:BinOp}{t u:TypeId}{a b z:Int}{kd:IntKind}(j:o.op = .binOp bo t x y u)(G:aU st x=some (.int kd a))(J:aU st y=some (.int kd b))(p:uJ bo a b=some z)
  (hd:bA o.dst c.n) (F:aA (bC o.dst (.int kd (kd.wrap z)) st) st') (h:C R H st'):aS P B c o R H st C :=
 Ox.fb (s:=λ f=>do eqGuard bo t x y (f x) (f y); binOp bo t (f x) (f y)) (by rw [j]; rfl) hd (λ f=>by simp only [execOp,j]) (λ f w=>by
  rw [w x _ G,w y _ J]
  refine ah.ba (mQ _ _ _ _ _ _ _ _) ?_
  cases bo <;> simp only [uJ,eh,reduceCtorEq] at p <;> subst p <;> simp only [binOp,ne_eq,eK,if_false,Op.intArith] <;> exact ah.a0 _) F h
def lp(a b:Int):Option Int:=if b=0 then none else some (a.tmod b)
def gv(a b:Int):Option Int:=if b=0 then none else some (i64 (a.tdiv b))
theorem Ox.rem{x y:Operand}{t u:TypeId}{a b z:Int}{kd:IntKind}(p:o.op = .binOp .rem t x y u)(G:aU st x=some (.int kd a))(J:aU st y=some (.int kd b))(j:lp a b=some z)
  (hd:bA o.dst c.n) (F:aA (bC o.dst (.int kd z) st) st') (h:C R H st'):aS P B c o R H st C :=
 Ox.fb (s:=λ f=>do eqGuard .rem t x y (f x) (f y); binOp .rem t (f x) (f y)) (by rw [p]; rfl) hd (λ f=>by simp only [execOp,p]) (λ f w=>by
  rw [w x _ G,w y _ J]
  refine ah.ba (mQ _ _ _ _ _ _ _ _) ?_
  unfold lp at j
  split at j
  ·cases j
  ·cases j; simp only [binOp,ne_eq,eK,if_false,Op.intDiv, *]; exact ah.a0 _) F h
theorem Ox.quo{x y:Operand}{t u:TypeId}{a b z:Int}(p:o.op = .binOp .quo t x y u)(G:aU st x=some (.int .i64 a))(J:aU st y=some (.int .i64 b))(j:gv a b=some z)
  (hd:bA o.dst c.n) (F:aA (bC o.dst (.int .i64 z) st) st') (h:C R H st'):aS P B c o R H st C :=
 Ox.fb (s:=λ f=>do eqGuard .quo t x y (f x) (f y); binOp .quo t (f x) (f y)) (by rw [p]; rfl) hd (λ f=>by simp only [execOp,p]) (λ f w=>by
  rw [w x _ G,w y _ J]
  refine ah.ba (mQ _ _ _ _ _ _ _ _) ?_
  unfold gv at j
  split at j
  ·cases j
  ·cases j; simp only [binOp,ne_eq,eK,if_false,Op.intDiv, *]; exact ah.a0 _) F h
def jL(kd:IntKind)(a b:Int):Option Int:=if b < 0 then none else some (kd.wrap (a * 2 ^ (min b.toNat kd.bits)))
def fa(kd:IntKind)(a b:Int):Option Int:=if b < 0 then none else some (a.fdiv (2 ^ (min b.toNat kd.bits)))
theorem Ox.shl{x y:Operand}{t u:TypeId}{a b z:Int}{kd K:IntKind}(p:o.op = .binOp .shl t x y u)(G:aU st x=some (.int kd a))(J:aU st y=some (.int K b))(j:jL kd a b=some z)
  (hd:bA o.dst c.n) (F:aA (bC o.dst (.int kd z) st) st') (h:C R H st'):aS P B c o R H st C :=
 Ox.fb (s:=λ f=>do eqGuard .shl t x y (f x) (f y); binOp .shl t (f x) (f y)) (by rw [p]; rfl) hd (λ f=>by simp only [execOp,p]) (λ f w=>by
  rw [w x _ G,w y _ J]
  refine ah.ba (mQ _ _ _ _ _ _ _ _) ?_
  unfold jL at j
  split at j
  ·cases j
  ·cases j; simp only [binOp,Op.shift,if_false, *]; exact ah.a0 _) F h
theorem Ox.shr{x y:Operand}{t u:TypeId}{a b z:Int}{kd K:IntKind}(p:o.op = .binOp .shr t x y u)(G:aU st x=some (.int kd a))(J:aU st y=some (.int K b))(j:fa kd a b=some z)
  (hd:bA o.dst c.n) (F:aA (bC o.dst (.int kd z) st) st') (h:C R H st'):aS P B c o R H st C :=
 Ox.fb (s:=λ f=>do eqGuard .shr t x y (f x) (f y); binOp .shr t (f x) (f y)) (by rw [p]; rfl) hd (λ f=>by simp only [execOp,p]) (λ f w=>by
  rw [w x _ G,w y _ J]
  refine ah.ba (mQ _ _ _ _ _ _ _ _) ?_
  unfold fa at j
  split at j
  ·cases j
  ·cases j; simp only [binOp,Op.shift,if_false, *]; exact ah.a0 _) F h
def cO(bo:BinOp)(kd:IntKind)(a b:Int):Option Int :=
 let a:=BitVec.ofInt kd.bits a
 let b:=BitVec.ofInt kd.bits b
 match bo with
 | .and=>some (kd.wrap (a &&& b).toNat)
 | .or=>some (kd.wrap (a ||| b).toNat)
 | .xor=>some (kd.wrap (a ^^^ b).toNat)
 | .andNot=>some (kd.wrap (a &&& ~~~b).toNat)
 | _=>none
theorem Ox.bits{x y:Operand}{bo:BinOp}{t u:TypeId}{a b z:Int}{kd:IntKind}(j:o.op = .binOp bo t x y u)(G:aU st x=some (.int kd a))(J:aU st y=some (.int kd b))(p:cO bo kd a b=some z)
  (hd:bA o.dst c.n) (F:aA (bC o.dst (.int kd z) st) st') (h:C R H st'):aS P B c o R H st C :=
 Ox.fb (s:=λ f=>do eqGuard bo t x y (f x) (f y); binOp bo t (f x) (f y)) (by rw [j]; rfl) hd (λ f=>by simp only [execOp,j]) (λ f w=>by
  rw [w x _ G,w y _ J]
  refine ah.ba (mQ _ _ _ _ _ _ _ _) ?_
  cases bo <;> simp only [cO,eh,reduceCtorEq] at p <;> subst p <;> simp only [binOp,ne_eq,eK,if_false,Op.intBits] <;> exact ah.a0 _) F h
def zk:BinOp→ByteArray→ByteArray→Option Bool
 | .eql,x,y=>some (x.toList == y.toList)
 | .neq,x,y=>some (!(x.toList == y.toList))
 | _,_,_=>none
theorem PR(op:BinOp)(t:TypeId)(x y:Operand)(a b:ByteArray):ah P (eqGuard op t x y (.string a) (.string b)) ():=by
 unfold eqGuard
 cases op <;> exact ah.a0 _
theorem Ox.zl{x y:Operand}{bo:BinOp}{t u:TypeId}{a b:ByteArray}{r:Bool}(j:o.op = .binOp bo t x y u)(F:aU st x=some (.string a))(G:aU st y=some (.string b))(p:zk bo a b=some r)
  (hd:bA o.dst c.n) (z:aA (bC o.dst (.bool r) st) st') (h:C R H st'):aS P B c o R H st C :=
 Ox.fb (s:=λ f=>do eqGuard bo t x y (f x) (f y); binOp bo t (f x) (f y)) (by rw [j]; rfl) hd (λ f=>by simp only [execOp,j]) (λ f w=>by
  rw [w x _ F,w y _ G]
  refine ah.ba (PR _ _ _ _ _ _) ?_
  cases bo <;> simp only [zk,eh,reduceCtorEq] at p <;> subst p <;> simp only [binOp,Op.stringOp] <;> exact ah.a0 _) z h
def p9:BinOp→Bool→Bool→Option Bool
 | .eql,x,y=>some (x == y)
 | .neq,x,y=>some (!(x == y))
 | _,_,_=>none
theorem PQ(op:BinOp)(t:TypeId)(x y:Operand)(a b:Bool):ah P (eqGuard op t x y (.bool a) (.bool b)) ():=by
 unfold eqGuard
 cases op <;> exact ah.a0 _
theorem PM{t:TypeId}(f:P.underlying t=some .bool)(a b:Bool):ah P (Op.equal t (.bool a) (.bool b)) (a == b):=by
 unfold Op.equal Op.maxDepth
 rw [Op.equalIn]
 exact ah.ba (ah.underlying f) (ah.a0 _)
theorem Ox.rX{x y:Operand}{bo:BinOp}{t u:TypeId}{a b r:Bool}(j:o.op = .binOp bo t x y u)(G:aU st x=some (.bool a))(J:aU st y=some (.bool b))(F:P.underlying t=some .bool)(p:p9 bo a b=some r)
  (hd:bA o.dst c.n) (z:aA (bC o.dst (.bool r) st) st') (h:C R H st'):aS P B c o R H st C :=
 Ox.fb (s:=λ f=>do eqGuard bo t x y (f x) (f y); binOp bo t (f x) (f y)) (by rw [j]; rfl) hd (λ f=>by simp only [execOp,j]) (λ f w=>by
  rw [w x _ G,w y _ J]
  refine ah.ba (PQ _ _ _ _ _ _) ?_
  cases bo <;> simp only [p9,eh,reduceCtorEq] at p <;> subst p <;> simp only [binOp] <;> exact ah.ba (PM F a b) (ah.a0 _)) z h
theorem Ox.oo{x y:Operand}{bo:BinOp}{t u:TypeId}{a b:Array Value}{q:Bool}(p:o.op = .binOp bo t x y u)(K:aU st x=some (.agg a))(L:aU st y=some (.agg b))(F:P.eqGuardType P.depth t=false)(w:ah P (Op.equal t (.agg a) (.agg b)) q){r:Bool}(j:p9 bo q true=some r)
  (hd:bA o.dst c.n) (J:aA (bC o.dst (.bool r) st) st') (h:C R H st'):aS P B c o R H st C :=
 Ox.fb (s:=λ f=>do eqGuard bo t x y (f x) (f y); binOp bo t (f x) (f y)) (by rw [p]; rfl) hd (λ f=>by simp only [execOp,p]) (λ f z=>by
  rw [z x _ K,z y _ L]
  have G:ah P (eqGuard bo t x y (.agg a) (.agg b)) ():=by
   unfold eqGuard
   cases bo <;> simp only [p9,reduceCtorEq] at j <;> exact ah.ba ah.program (ah.ba ah.program (by simp only [F]; exact ah.a0 _))
  refine ah.ba G ?_
  cases bo <;> simp only [p9,eh,reduceCtorEq] at j <;> subst j <;> simp only [binOp]
  ·exact ah.ba w (by cases q <;> exact ah.a0 _)
  ·exact ah.ba w (by cases q <;> exact ah.a0 _)) J h
def jA:Int→List Int→Int
 | x,[]=>x
 | x,y::r=>jA (if y > x then y else x) r
def q1:Int→List Int→Int
 | x,[]=>x
 | x,y::r=>q1 (if y < x then y else x) r
theorem Dt{kd:IntKind}:∀ (l:List Int) (x:Int),ah P ((l.map (Value.int kd)).foldlM Builtin.max2 (.int kd x)) (.int kd (jA x l))
 | [],x=>ah.a0 _
 | y::r,x=>by
  simp only [List.map_cons,List.foldlM_cons,jA]
  exact ah.ba (a:=.int kd (if y > x then y else x)) (ah.a0 _) (Dt r _)
theorem Du{kd:IntKind}:∀ (l:List Int) (x:Int),ah P ((l.map (Value.int kd)).foldlM Builtin.min2 (.int kd x)) (.int kd (q1 x l))
 | [],x=>ah.a0 _
 | y::r,x=>by
  simp only [List.map_cons,List.foldlM_cons,q1]
  exact ah.ba (a:=.int kd (if y < x then y else x)) (ah.a0 _) (Du r _)
theorem Ox.max{xs:Array Operand}{ts:Array TypeId}{kd:IntKind}{a:Int}{l:List Int}(b:o.op = .call ⟨.builtin .max,xs,ts⟩)(p:ev st xs.toList=some (.int kd a::l.map (Value.int kd)))
  (hd:bA o.dst c.n) (j:aA (bC o.dst (.int kd (jA a l)) st) st') (h:C R H st'):aS P B c o R H st C :=
 Ox.val (by rw [b]; rfl) hd (λ f s=>by
  simp only [execOp,b]
  refine ah.ba (a:=⟨.builtin .max ts o.type (xs.map λ | .const _=>true | _=>false),xs.map f⟩) (ah.a0 _) ?_
  simp only [invoke,builtin,Builtin.max_]
  have e:(xs.map f).toList = .int kd a::l.map (Value.int kd):=by simpa using m2 s _ _ p
  rw [e]
  exact ah.ba (Dt l a) (ah.a0 _)) j h
theorem Ox.min{xs:Array Operand}{ts:Array TypeId}{kd:IntKind}{a:Int}{l:List Int}(b:o.op = .call ⟨.builtin .min,xs,ts⟩)(p:ev st xs.toList=some (.int kd a::l.map (Value.int kd)))
  (hd:bA o.dst c.n) (j:aA (bC o.dst (.int kd (q1 a l)) st) st') (h:C R H st'):aS P B c o R H st C :=
 Ox.val (by rw [b]; rfl) hd (λ f s=>by
  simp only [execOp,b]
  refine ah.ba (a:=⟨.builtin .min ts o.type (xs.map λ | .const _=>true | _=>false),xs.map f⟩) (ah.a0 _) ?_
  simp only [invoke,builtin,Builtin.min_]
  have e:(xs.map f).toList = .int kd a::l.map (Value.int kd):=by simpa using m2 s _ _ p
  rw [e]
  exact ah.ba (Du l a) (ah.a0 _)) j h
theorem Ox.r5{x:Operand}{t u:TypeId}{kd G F:IntKind}{a:Int}(f:o.op = .convert t u x)(w:aU st x=some (.int G a))(p:P.underlying t=some (.int F))(hu:P.underlying u=some (.int kd))
  (hd:bA o.dst c.n) (j:aA (bC o.dst (.int kd (kd.wrap a)) st) st') (h:C R H st'):aS P B c o R H st C :=
 Ox.fb (s:=λ b=>convert t u (b x)) (by rw [f]; rfl) hd (λ b=>by simp only [execOp,f]) (λ b z=>by
  rw [z x _ w]
  unfold convert
  refine ah.ba (ah.underlying p) (ah.ba (ah.underlying hu) ?_)
  exact ah.a0 _) j h
theorem qb{α:Type}{xs ys:List α}{lo hi:Int}(h:e7 xs lo hi=some ys):0≤lo∧lo≤hi∧hi≤xs.length∧ys=(xs.take hi.toNat).drop lo.toNat:=by
 unfold e7 at h
 split at h
 ·cases h; rename_i h; exact ⟨h.1,h.2.1,h.2.2,rfl⟩
 ·cases h
def qs(st:St):Option Operand→Option Int
 | none=>some 0
 | some x=>match aU st x with | some (.int _ i)=>some i | _=>none
def qn(st:St)(n:Nat):Option Operand→Option Int
 | none=>some n
 | some x=>match aU st x with | some (.int _ i)=>some i | _=>none
theorem uq{kd:IntKind}{i:Int}{y:Nat}{b:BoundsCode}(h:0≤i∧i≤y):ah P (Instr.sliceBound (.int kd i) y b) i.toNat:=by
 unfold Instr.sliceBound
 refine ah.ba (a:=(kd,i)) (ah.a0 _) ?_
 simp only [h,and_self,if_true]
 exact ah.a0 _
theorem uu{j:Operand→Value}(p:Knows st j){len cap:Nat}{lo hi:Option Operand}{l h:Int}(hl:qs st lo=some l)(f:qn st len hi=some h)(hb:0≤l∧l≤h∧h≤len)(s:len≤cap) :
  ah P (Instr.sliceBounds true len cap (lo.map j) (hi.map j) none) (l.toNat,h.toNat,cap):=by
 have h1:(lo=none∧l=0)∨∃ x kd,lo=some x∧j x = .int kd l:=by
  cases lo with
  | none=>simp only [qs,eh] at hl; exact .inl ⟨rfl,hl.symm⟩
  | some x =>
   simp only [qs] at hl
   cases b:aU st x with
   | none=>simp [b] at hl
   | some v =>
    cases v <;> simp [b] at hl
    subst hl
    exact .inr ⟨x,_,rfl,p x _ b⟩
 have h2:(hi=none∧h=len)∨∃ x kd,hi=some x∧j x = .int kd h:=by
  cases hi with
  | none=>simp only [qn,eh] at f; exact .inl ⟨rfl,f.symm⟩
  | some x =>
   simp only [qn] at f
   cases b:aU st x with
   | none=>simp [b] at f
   | some v =>
    cases v <;> simp [b] at f
    subst f
    exact .inr ⟨x,_,rfl,p x _ b⟩
 unfold Instr.sliceBounds
 rcases h1 with ⟨rfl,rfl⟩ | ⟨x,w,rfl,b⟩ <;> rcases h2 with ⟨rfl,rfl⟩ | ⟨y,z,rfl,u⟩ <;> simp only [Option.map_none,Option.map_some, *]
 ·exact ah.ba (a:=cap) (ah.a0 _) (ah.ba (a:=(len:Int).toNat) (by rw [cp]; exact ah.a0 _) (ah.ba (a:=(0:Int).toNat) (ah.a0 _) (ah.a0 _)))
 ·exact ah.ba (a:=cap) (ah.a0 _) (ah.ba (a:=h.toNat) (uq ⟨by omega,by omega⟩) (ah.ba (a:=(0:Int).toNat) (ah.a0 _) (ah.a0 _)))
 ·exact ah.ba (a:=cap) (ah.a0 _) (ah.ba (a:=(len:Int).toNat) (by rw [cp]; exact ah.a0 _) (ah.ba (a:=l.toNat) (uq ⟨by omega,by omega⟩) (ah.a0 _)))
 ·exact ah.ba (a:=cap) (ah.a0 _) (ah.ba (a:=h.toNat) (uq ⟨by omega,by omega⟩) (ah.ba (a:=l.toNat) (uq ⟨by omega,by omega⟩) (ah.a0 _)))
end
theorem mE:∀ (vs:List Value) (cs:Array Value) (o j:Nat),o+vs.length≤cs.size→(dc cs o vs)[j]? = if o≤j∧j < o+vs.length then vs[j - o]? else cs[j]?
 | [],cs,o,j,_=>by
  simp only [dc,List.length_nil,Nat.add_zero]
  rw [if_neg (by omega)]
 | v::r,cs,o,j,h=>by
  simp only [List.length_cons] at h
  simp only [dc]
  rw [mE r _ (o+1) j (by simp; omega)]
  by_cases h1:o+1≤j∧j < o+1+r.length
  ·rw [if_pos h1,if_pos (by simp only [List.length_cons]; omega)]
   have:j - o=(j - (o+1))+1:=by omega
   rw [this]; simp
  ·rw [if_neg h1]
   by_cases h2:o=j
   ·subst h2
    rw [if_pos (by simp only [List.length_cons]; omega)]
    rw [iZ (by omega)]
    simp
   ·rw [if_neg (by simp only [List.length_cons]; omega),fN h2]
structure ja (P:Program) (t e k:Nat):Prop where
 sl:P.underlying t=some (.slice e)
 size:ah P (sizeOf e) k
 info:∃ i,P.info? e=some i∧i.bytes≤65536
 zero:∃ z,ah P (zeroValue e) z∧z.cells.size=k
section
variable {P:Program} {B:Base} {main:Bool} {ab:Jd P B main} {c:Ctx} {R:ax} {H H':ai} {st st':St} {o:Oper}
theorem aF.weaken{α:Type}{s:Sem α}{K b:α→ax→ai→Prop}(h:aF P B R H s K)(p:∀ a R' H',K a R' H'→∃ bR cq,(∀ w,Fits B R' H' w→dg B R' H' w bR cq w)∧b a bR cq):aF P B R H s b:=by
 intro w hw
 obtain ⟨a,w',R',H',h1,h2,h3,h4⟩:=h w hw
 obtain ⟨bR,cq,f,j⟩:=p a R' H' h4
 exact ⟨a,w',bR,cq,h1,h2,h3.trans (f w' h3.fits),j⟩
theorem aF.firstCells{α:Type}{K:bH α}{k:Nat}{u:Value}{ys:List α}{Q:Array Value→ax→ai→Prop}(hu:hQ K k R H u ys)(h:∀ es:List Value,a3 K k R ys es→Q es.toArray R H):aF P B R H (Builtin.firstCells k ys.length u) Q:=by
 obtain ⟨A,cap,es,rfl,f,p⟩:=hu
 cases ys with
 | nil =>
  have j:es=[]:=by have:=f.len; simpa using this
  subst j
  cases A with
  | none=>exact aF.cf (h [] f)
  | some a =>
   simp only [Builtin.firstCells,List.length_nil,Nat.zero_mul,loadCells]
   exact aF.cf (h [] f)
 | cons y ys =>
  obtain ⟨b,o,rfl,s⟩:=p (by simp)
  simp only [Builtin.firstCells,loadCells]
  rw [← f.len]
  exact aF.loadCellsFrom es 0 #[] (by simpa using s) (by simpa using h es f)
theorem aZ.arg{α:Type}{K:bH α}{k e:Nat}{G:ai→ai}(f:fj G){v:Value}{xs:List α}{Hs:ai}(h:aZ K k e R v xs Hs):hQ K k R (G Hs) v xs:=by
 rcases h with ⟨A,rfl,rfl,_⟩ | ⟨b,cap,cs,es,rfl,rfl,h3,h4,h5,h6⟩
 ·exact ⟨A,0,[],rfl,.nil,λ h=>absurd rfl h⟩
 ·refine ⟨_,cap,es,rfl,h5,λ _=>⟨b,0,rfl,λ j w s=>⟨rfl,cs,e,(0,0),.inr ?_,by simpa using h6 j w s⟩⟩⟩
  obtain ⟨A,D,p⟩:=f
  rw [p]; simp
theorem M7{n m:Nat}(h:m < n)(p:n≤16777216):Builtin.nextslicecap n m≤67108864:=by
 unfold Builtin.nextslicecap
 split
 ·omega
 ·split
  ·omega
  ·have:∀ (r c:Nat),c≤16777216→Builtin.growBy n r c≤67108864:=by
    intro r
    induction r with
    | zero=>intro c b; simp only [Builtin.growBy]; omega
    | succ r f =>
     intro c b
     simp only [Builtin.growBy]
     split
     ·omega
     ·rename_i j
      by_cases h2:c+(c+768) / 4≤16777216
      ·exact f _ h2
      ·
       cases r with
       | zero=>simp only [Builtin.growBy]; omega
       | succ r=>simp only [Builtin.growBy]; rw [if_pos (by omega)]; omega
   exact this 4 m (by omega)
theorem aF.append{α:Type}{K:bH α}[CM K]{k t e ag T:Nat}{G:ai→ai}(X:fj G){v u:Value}{xs ys:List α}{Hs:ai}{V:TypeDesc}(M:ja P t e k)(aw:P.underlying ag=some V)(am:∀ kd,V ≠ .int kd)
  (Y:aZ K k e R v xs Hs) (hu:hQ K k R (G Hs) u ys) (hl:xs.length+ys.length≤16777216) {Q:Value→ax→ai→Prop} (Z:∀ v' aa,aZ K k e R v' (xs++ys) aa→Q v' R (G aa)) :
  aF P B R (G Hs) (Builtin.append_ #[t,ag] T #[v,u]) Q:=by
 obtain ⟨A2,aC,aE,au⟩:=id hu
 have av:∃ base cap,v = .slice base xs.length cap:=by
  rcases Y with ⟨A,rfl,rfl,_⟩ | ⟨b,cap,cs,es,rfl,_⟩
  ·exact ⟨A,0,rfl⟩
  ·exact ⟨_,cap,rfl⟩
 obtain ⟨base,cap,rfl⟩:=av
 obtain ⟨i,hi,al⟩:=M.info
 obtain ⟨z,az,aA⟩:=M.zero
 have hlen:ah P (Builtin.lenOf u) ys.length:=by rw [au.1]; exact ah.a0 _
 have run:aF P B R (G Hs) (do
   let dY:=xs.length+ys.length
   if dY≤cap then do
    let new ← Builtin.firstCells k ys.length u
    if let some a:=base then storeCells (a.add (xs.length * k)) new.toList
    Pure.pure (Value.slice base dY cap)
   else do
    if (dY:Int) > IntKind.i64.max∧(false=true∨(← typeInfo e).bytes=0) then runtimePanic (.error "growslice: len out of range")
    if Builtin.nextslicecap dY cap * (← typeInfo e).bytes > 2 ^ 48 then (if false=true then runtimePanic (.error "growslice: len out of range") else do
     if !(← Builtin.mayShare k xs.length ys.length base u) then mark .noRoom
     unsupported (.resourceLimit "append: a slice or a string whose bytes no memory bears"))
    let p ← Go.choose (Question.appendCap dY cap e)
    askRoom (p * (← typeInfo e).bytes)
    let old ← Builtin.firstCells k xs.length (.slice base xs.length cap)
    let new ← Builtin.firstCells k ys.length u
    let rest:=Builtin.zeroCells (← zeroValue e).cells (p - dY)
    Pure.pure (Value.slice (some (← newRow e (old++new++rest))) dY p)) Q:=by
  dsimp only
  by_cases F:xs.length+ys.length≤cap
  ·rw [if_pos F]
   refine aF.b9 (aF.firstCells hu λ es J=>?_)
   rcases Y with ⟨A,e1,rfl,rfl⟩ | ⟨b,aB,cs,s,e1,rfl,h3,h4,h5,h6⟩
   ·injection e1 with e1 aD W
    subst e1; subst W
    have ay:ys=[]:=by simpa using F
    subst ay
    have aj:es=[]:=by have:=J.len; simpa using this
    subst aj
    have key:Q (.slice base ([]:List α).length 0) R (G []):=Z _ [] (.inl ⟨base,rfl,by simp,rfl⟩)
    cases base with
    | none=>exact aF.b9 (aF.cf (aF.cf key))
    | some a=>exact aF.b9 (aF.cf (aF.cf key))
   ·injection e1 with e1 _ W
    subst e1; subst W
    dsimp only
    rw [show (⟨b,0,none⟩:Addr).add (xs.length * k)=⟨b,0+xs.length * k,none⟩ from hT _ _ _,Nat.zero_add]
    refine aF.given λ ap=>aF.b9 (aF.rm es cs (xs.length * k) 0 (G [(b,.cells cs e (0,0))]) (G [(b,.cells (dc cs (xs.length * k) es) e (0,0))]) J.one ?_ (by simpa using fj.set X) ap (aF.cf ?_))
    ·rw [h3,J.len,Nat.add_zero,← Nat.add_mul]; exact Nat.mul_le_mul_right k F
    ·have an:xs.length * k+es.length≤cs.size:=by rw [h3,J.len,← Nat.add_mul]; exact Nat.mul_le_mul_right k F
     refine Z _ _ (.inr ⟨b,cap,dc cs (xs.length * k) es,s++es,by rw [fg],rfl,by rw [q8]; exact h3,by rw [fg]; exact F,h5.append J,λ j w f=>?_⟩)
     rw [mE es cs _ _ an]
     by_cases ao:j < s.length
     ·rw [gg ao] at f
      rw [if_neg (by rw [← h5.len]; omega)]
      exact h6 j w f
     ·rw [ff (by omega)] at f
      have:=(dU.1 f).1
      rw [if_pos (by rw [← h5.len]; omega),← h5.len]
      exact f
  ·rw [if_neg F]
   have aH:Builtin.nextslicecap (xs.length+ys.length) cap * i.bytes≤2 ^ 48:=by
    have h1:=M7 (n:=xs.length+ys.length) (m:=cap) (by omega) hl
    calc _≤67108864 * 65536:=Nat.mul_le_mul h1 al
     _≤2 ^ 48:=by decide
   have aq:¬ (((xs.length+ys.length:Nat):Int) > IntKind.i64.max∧(false=true∨i.bytes=0)):=by
    intro h
    have:IntKind.i64.max=9223372036854775807:=by decide
    omega
   refine ah.cr (ah.typeInfo hi) ?_
   rw [if_neg aq]
   refine ah.cr (ah.typeInfo hi) ?_
   rw [if_neg (by omega)]
   refine (aF.b9 (aF.choose λ tape=>ah.cr (ah.typeInfo hi) (aF.b9 ?_)))
   have ak:∀ (n:Nat) (U:Unit→ax→ai→Prop),U () R (G Hs)→aF P B R (G Hs) (askRoom n) U:=by
    intro n U af
    unfold askRoom
    split
    ·exact aF.MR af
    ·exact aF.cf af
   refine ak _ _ ?_
   simp only [Question.forced,fi,if_false,Question.cut]
   generalize aG:xs.length+ys.length+tape % (2 ^ 63 - (xs.length+ys.length))=p
   refine aF.b9 (aF.firstCells (aZ.arg X Y) λ s ac=>aF.b9 (aF.firstCells hu λ L ad=>ah.cr az ?_))
   simp only [newRow]
   refine aF.b9 (aF.b9 (aF.weaken (aF.new (K:=λ r R' H'=>R'=R∧H'=(r,.cells (s.toArray++L.toArray++Builtin.zeroCells z.cells (p - (xs.length+ys.length))) e (0,0))::G Hs) λ r _ _=>⟨rfl,rfl⟩) λ r R' H' ar=>?_))
   obtain ⟨rfl,rfl⟩:=ar
   refine ⟨R',G [(r,.cells (s.toArray++L.toArray++Builtin.zeroCells z.cells (p - (xs.length+ys.length))) e (0,0))],λ w hw=>?_,aF.cf (aF.cf (Z _ _ (.inr ⟨r,p,_,s++L,by rw [fg],rfl,?_,by rw [fg]; omega,ac.append ad,λ j w f=>?_⟩)))⟩
   ·obtain ⟨A,D,ae⟩:=X
    rw [ae,ae] at *
    have h1:=xT (H':=A++(Hs++((r,.cells (s.toArray++L.toArray++Builtin.zeroCells z.cells (p - (xs.length+ys.length))) e (0,0))::D))) (by simpa using List.perm_middle (l₁:=A++Hs)) hw
    refine h1.trans (uo ?_ h1.fits)
    exact List.Sublist.append_left (List.sublist_append_right _ _) _
   ·simp only [Array.size_append,List.size_toArray,ac.len,ad.len,Builtin.zeroCells,Array.size_map,Array.size_range,aA]
    rw [← Nat.add_mul,← Nat.add_mul]
    congr 1; omega
   ·have:=(dU.1 f).1
    rw [Array.getElem?_append_left (by simpa using this)]
    simpa using f
 unfold Builtin.append_
 refine ah.cr (ah.underlying M.sl) (ah.cr M.size (ah.cr (ah.underlying aw) (ah.cr (a:=false) (by cases V <;> first | exact ah.a0 _ | exact absurd rfl (am _)) ?_)))
 exact ah.cr hlen run
theorem Ox.append{α:Type}{K:bH α}[CM K]{k t e f:Nat}(G:ai→ai){x y:Operand}{v u:Value}{xs ys w:List α}{Hs:ai}{j:TypeDesc}{C:ax→ai→St→Prop}(p:o.op = .call ⟨.builtin .append,#[x,y],#[t,f]⟩)(V:aU st x=some v)(X:aU st y=some u)
  (U:ja P t e k) (W:P.underlying f=some j) (M:∀ kd,j ≠ .int kd) (F:fj G) (J:aZ K k e R v xs Hs) (hu:hQ K k R (G Hs) u ys) (hl:dD xs ys=some w) (hd:bA o.dst c.n)
  (hC:∀ v' b,aZ K k e R v' w b→∃ st',aA (bC o.dst v' st) st'∧C R (G b) st'):aS P B c o R (G Hs) st C:=by
 obtain ⟨Q,rfl⟩:=El hl
 refine ⟨by rw [p]; rfl,hd,λ z s=>?_⟩
 simp only [execOp,p]
 refine ah.cr (a:=⟨.builtin .append #[t,f] o.type (#[x,y].map λ | .const _=>true | _=>false),#[x,y].map z⟩) (ah.a0 _) ?_
 simp only [invoke,builtin]
 have e:(#[x,y].map z)=#[v,u]:=by simp [s x _ V,s y _ X]
 rw [e]
 refine aF.b9 (aF.append F U W M J hu Q λ v' b L=>aF.cf ?_)
 obtain ⟨st',T,h⟩:=hC v' b L
 exact ⟨v',.inl rfl,st',T,h⟩
theorem U.gE{α:Type}{K:bH α}[CM K]{k e:Nat}{todo:List Item}(G:ai→ai)(p:fj G){v:Value}{xs:List α}{Hs H2:ai}(h2:G []=H2)(u:aZ K k e R v xs Hs)(h:∀ R',aJ R R'→aa K k R' v xs→U ab c R' H2 st todo):U ab c R (G Hs) st todo:=by
 subst h2
 rcases u with ⟨A,rfl,rfl,rfl⟩ | ⟨b,cap,cs,es,rfl,rfl,h3,h4,h5,h6⟩
 ·exact h R (aJ.refl R) .nil
 ·obtain ⟨A,D,s⟩:=p
  rw [s] at h ⊢
  refine U.perm (H':=(b,.cells cs e (0,0))::(A++([]++D))) (by simpa using List.perm_middle.symm) (U.freeze λ R' f hb=>h R' f ?_)
  exact ⟨_,cap,es,rfl,h5.mono f,h4,λ _=>⟨b,0,cs,e,(0,0),rfl,hb,λ j w z=>by simpa using h6 j w z⟩⟩
theorem U.hz{α:Type}{K:bH α}[CM K]{k e b n:Nat}{todo:List Item}(G:ai→ai)(s:fj G){H2:ai}(h2:G []=H2){ys:List α}{cs:Array Value}(p:a3 K k R ys cs.toList)(F:ys.length=n)(h:∀ R',aJ R R'→aa K k R' (.slice (some ⟨b,0,none⟩) n n) ys→U ab c R' H2 st todo):U ab c R (G [(b,.cells cs e (0,0))]) st todo:=by
 subst F h2
 obtain ⟨A,D,u⟩:=s
 rw [u] at h ⊢
 refine U.perm (H':=(b,.cells cs e (0,0))::(A++([]++D))) (by simpa using List.perm_middle.symm) (U.freeze λ R' f hb=>h R' f ?_)
 exact ⟨_,ys.length,cs.toList,rfl,p.mono f,b6 _,λ _=>⟨b,0,cs,e,(0,0),rfl,hb,λ j w z=>by simpa using z⟩⟩
theorem aZ.lit{α:Type}{K:bH α}{k e b n:Nat}{ys:List α}{cs:Array Value}(f:a3 K k R ys cs.toList)(p:ys.length=n):aZ K k e R (.slice (some ⟨b,0,none⟩) n n) ys [(b,.cells cs e (0,0))]:=by
 subst p
 exact .inr ⟨b,_,cs,cs.toList,rfl,rfl,by simpa using f.len,b6 _,f,λ j w h=>by simpa using h⟩
end
theorem aA.one{dst:Option Tmp}{d:Tmp}{v:Value}{st:St}(h:dst=some d):aA (bC dst v st) [(d,v)]:=by
 subst h
 intro t u hu
 simp only [List.lookup_cons,List.lookup_nil] at hu
 simp only [bC,List.lookup_cons]
 split at hu
 ·exact hu
 ·cases hu
theorem cF.skip{f H H':ai}{b:Nat}{o o':Obj}(h:cF H b o o' H'):cF (f++H) b o o' (f++H'):=by
 induction f with
 | nil=>exact h
 | cons p f j=>exact .there j
theorem aH.box{R:ax}{H:ai}{b:Nat}{e:TypeId}{f:Nat × Nat}{L:List Value}(hm:(b,Obj.cells L.toArray e f)∈H):aH R H b 0 L:=λ j v h=>⟨rfl,_,e,f,.inr hm,by simpa using h⟩
theorem fj.id{D:ai}:fj (λ X=>X++D):=⟨[],D,λ _=>rfl⟩
theorem fj.cons{p:Nat × Obj}{G:ai→ai}(h:fj G):fj (λ X=>p::G X):=by
 obtain ⟨A,D,h⟩:=h
 exact ⟨p::A,D,λ X=>by show p::G X=_; rw [h]; rfl⟩
theorem fj.app{L:ai}{G:ai→ai}(h:fj G):fj (λ X=>L++G X):=by
 obtain ⟨A,D,h⟩:=h
 exact ⟨L++A,D,λ X=>by show L++G X=_; rw [h,List.append_assoc]⟩
theorem hv{place:Nat→Option (Nat × Nat)}{cells:Array Value}:Instr.fill place cells []=some cells:=rfl
theorem NL(b:List Value):∀ (cells:Array Value) (off j:Nat),(b.zipIdx j).foldl (λ cs (c,i)=>cs.setIfInBounds (off+i) c) cells=dc cells (off+j) b:=by
 induction b with
 | nil=>intro cells off j; rfl
 | cons v r f=>intro cells off j; simp only [List.zipIdx_cons,List.foldl_cons,dc]; rw [f]; rfl
theorem NM(b cells:Array Value)(off:Nat):b.zipIdx.foldl (λ cs (c,i)=>cs.setIfInBounds (off+i) c) cells=dc cells off b.toList:=by
 have h:=NL b.toList cells off 0
 rw [Nat.add_zero] at h
 rw [← h,← Array.foldl_toList]
 simp
theorem gD{place:Nat→Option (Nat × Nat)}{cells cells' out b:Array Value}{i off size:Nat}{v:Value}{rest:List (Nat × Value)}(p:place i=some (off,size))(j:v.cells=b)
  (f:(b.size == size && Nat.ble (off+b.size) cells.size)=true) (s:dc cells off b.toList=cells') (h:Instr.fill place cells' rest=some out):Instr.fill place cells ((i,v)::rest)=some out:=by
 subst j
 rw [cM] at f
 have h1:v.cells.size=size:=by simpa using f.1
 have h2:off+v.cells.size≤cells.size:=by simpa [Nat.ble_eq] using f.2
 simp only [Instr.fill,p]
 rw [if_neg (by simp [h1]; omega),NM,s]
 exact h
theorem bB:∀ u∈([]:List Value),u.oneCell'=true:=λ _ h=>by cases h
theorem bh{v:Value}{l:List Value}(h:v.oneCell'=true)(t:∀ u∈l,u.oneCell'=true):∀ u∈v::l,u.oneCell'=true:=λ u hu=>by
 rcases cJ.1 hu with rfl | hu
 ·exact h
 ·exact t u hu
theorem cx{l m:List Value}(h:∀ u∈l,u.oneCell'=true)(t:∀ u∈m,u.oneCell'=true):∀ u∈l++m,u.oneCell'=true:=λ u hu=>(List.mem_append.1 hu).elim (h u) (t u)
theorem eT{α:Type}{f:α→Value}{xs:List α}(h:∀ x,(f x).oneCell'=true):∀ u∈xs.map f,u.oneCell'=true:=λ u hu=>by
 obtain ⟨x,_,rfl⟩:=List.mem_map.1 hu
 exact h x
theorem aH.part{R:ax}{H:ai}{b o j n:Nat}{L vs:List Value}(h:aH R H b o L)(f:(L.drop j).take n=vs):aH R H b (o+j) vs:=by
 intro i v hi
 subst f
 rw [List.getElem?_take] at hi
 split at hi
 ·rw [List.getElem?_drop] at hi
  have:=h _ _ hi
  simpa [Nat.add_assoc] using this
 ·cases hi
theorem aH.arr{α:Type}{R:ax}{H:ai}{b o k:Nat}{f:α→Value}{pre post:List Value}{xs:List α}{i:Int}{x:α}(h:aH R H b o (pre++(xs.map f++post)))(hi:idx xs i=some x)(j:pre.length=k):Cell R H ⟨b,o+k+i.toNat * 1,none⟩ (f x):=by
 obtain ⟨_,_,h3⟩:=jl hi
 have p:=(dU.1 h3).1
 have:=h (k+i.toNat) (f x) (by
  rw [ff (by omega),← j,Nat.add_sub_cancel_left,gg (by simpa using p)]
  simp [h3])
 simpa [Nat.add_assoc] using this
theorem aH.sub{R:ax}{H H':ai}{b o:Nat}{L:List Value}(h:aH R H b o L)(u:∀ p∈H,p∈H'):aH R H' b o L:=λ j v s=>by
 obtain ⟨h1,cs,e,f,h2,h3⟩:=h j v s
 exact ⟨h1,cs,e,f,h2.imp id (u _),h3⟩
theorem aH.le{R R':ax}{H:ai}{b o:Nat}{L:List Value}(h:aH R H b o L)(s:aJ R R'):aH R' H b o L:=λ j v p=>by
 obtain ⟨h1,cs,e,f,h2,h3⟩:=h j v p
 exact ⟨h1,cs,e,f,h2.imp (s _ _) id,h3⟩
theorem uN{α:Type}{f:α→Value}{pre post:List Value}{xs:List α}{i:Int}{x y:α}{k:Nat}(hi:idx xs i=some y)(b:pre.length=k):((pre++(xs.map f++post)).toArray).setIfInBounds (k+i.toNat * 1) (f x)=(pre++((xs.set i.toNat x).map f++post)).toArray:=by
 obtain ⟨_,_,h3⟩:=jl hi
 have h:=(dU.1 h3).1
 subst b
 simp only [Nat.mul_one,List.setIfInBounds_toArray,List.map_set]
 congr 1
 rw [List.set_append_right _ _ (by omega),Nat.add_sub_cancel_left,List.set_append_left _ _ (by simpa using h)]
theorem uL{α:Type}{f:α→Value}{pre post:List Value}{xs:List α}{i:Int}{y:α}{k:Nat}(hi:idx xs i=some y)(b:pre.length=k):Nat.blt (k+i.toNat * 1) ((pre++(xs.map f++post)).toArray).size=true:=by
 obtain ⟨_,_,h3⟩:=jl hi
 have h:=(dU.1 h3).1
 rw [Nat.blt_eq]
 simp
 omega
theorem cD{L:List Value}{n:Nat}(h:L.length=n):(L.drop 0).take n=L:=by subst h; simp
theorem Pu{pre mid post:List Value}{k n:Nat}(b:pre.length=k)(f:mid.length=n):((pre++(mid++post)).drop k).take n=mid:=by subst b; subst f; simp
theorem gF{P:Program}{α:Type}{t e len k b m:Nat}{i:Int}{xs:List α}{x:α}(f:jb P t len e k)(hl:xs.length=len)(hi:idx xs i=some x):ks P t (.pointer (some ⟨b,m,none⟩)) i b (m+i.toNat * k):=by
 obtain ⟨h1,h2,_⟩:=jl hi
 exact Az f ⟨h1,by omega⟩
theorem aa.one{α:Type}{C:bH α}{k:Nat}{R:ax}{v:Value}{xs:List α}(h:aa C k R v xs):v.oneCell'=true:=by
 obtain ⟨A,cap,es,rfl,_⟩:=h; rfl
theorem aa.cells{α:Type}{C:bH α}{k:Nat}{R:ax}{v:Value}{xs:List α}(h:aa C k R v xs):v.cells=#[v]:=by
 obtain ⟨A,cap,es,rfl,_⟩:=h; rfl
theorem aZ.cells{α:Type}{C:bH α}{k e:Nat}{R:ax}{v:Value}{xs:List α}{Hs:ai}(h:aZ C k e R v xs Hs):v.cells=#[v]:=by
 rcases h with ⟨A,rfl,_⟩ | ⟨b,cap,cs,es,rfl,_⟩ <;> rfl
theorem aZ.one{α:Type}{C:bH α}{k e:Nat}{R:ax}{v:Value}{xs:List α}{Hs:ai}(h:aZ C k e R v xs Hs):v.oneCell'=true:=by
 rcases h with ⟨A,rfl,_⟩ | ⟨b,cap,cs,es,rfl,_⟩ <;> rfl
theorem a3.cons{α:Type}{C:bH α}{k:Nat}{R:ax}{x:α}{xs:List α}{e1 es:List Value}(h:C R x e1)(b:e1.length=k)(g:a3 C k R xs es):a3 C k R (x::xs) (e1++es):=(a3.single h b).append g
theorem a3.le{α:Type}{C:bH α}{k:Nat}{R:ax}{xs:List α}{es b:List Value}(h:a3 C k R xs es)(e:es=b):a3 C k R xs b:=by subst e; exact h
section
variable {P:Program} {B:Base} {main:Bool} {ab:Jd P B main} {c:Ctx} {R:ax} {H H':ai} {st st':St} {o:Oper} {k:List Item}
inductive gT (P:Program) (R:ax) (H:ai) (st:St):List ResultVar→List Value→Prop
 | nil:gT P R H st [] []
 | tmp {t:Tmp} {v:Value} {r:List ResultVar} {vs:List Value}:st.lookup t=some v→gT P R H st r vs→gT P R H st (.tmp t::r) (v::vs)
 | one {a:Tmp} {t:TypeId} {b o:Nat} {v:Value} {r:List ResultVar} {vs:List Value}:st.lookup a=some (.pointer (some ⟨b,o,none⟩))→dn P t→Cell R H ⟨b,o,none⟩ v→gT P R H st r vs→gT P R H st (.cell a t::r) (v::vs)
 | agg {a:Tmp} {t:TypeId} {b o n:Nat} {us:List Value} {r:List ResultVar} {vs:List Value}:st.lookup a=some (.pointer (some ⟨b,o,none⟩))→fO P t n→us.length=n→aH R H b o us→gT P R H st r vs→gT P R H st (.cell a t::r) (.agg us.toArray::vs)
theorem OT{tmps:Array Value}{n:Nat}(u:bV n st tmps):∀ {l:List ResultVar} {vs:List Value},gT P R H st l vs→∀ {K:List Value→ax→ai→Prop},K vs R H →
  aF P B R H (l.mapM (m:=Sem) λ
   | .tmp t=>pure (tmps.getD t undef)
   | .cell a t=>do loadVar t (← asAddr (tmps.getD a undef))) K:=by
 intro l vs h
 induction h with
 | nil=>intro K f; exact aF.cf f
 | @tmp t v r vs hl _ j =>
  intro K f
  rw [List.mapM_cons]
  have:tmps.getD t undef=v:=by simp [Array.getD_eq_getD_getElem?,u.2 t v hl]
  refine ah.cr (a:=v) (by show ah P (pure (tmps.getD t undef)) v; rw [this]; exact ah.a0 _) (aF.b9 (j (K:=λ us R' H'=>K (v::us) R' H') f |>.mono λ us R' H' h=>aF.cf h))
 | @one a t b o v r vs hl p s _ j =>
  intro K f
  rw [List.mapM_cons]
  have:tmps.getD a undef = .pointer (some ⟨b,o,none⟩):=by simp [Array.getD_eq_getD_getElem?,u.2 a _ hl]
  simp only [this]
  refine aF.b9 (ah.cr (a:=⟨b,o,none⟩) (ah.a0 _) ?_)
  unfold loadVar
  refine ah.cr p.1 (aF.load s (aF.b9 (j (K:=λ us R' H'=>K (v::us) R' H') f |>.mono λ us R' H' h=>aF.cf h)))
 | @agg a t b o n us r vs hl p w s _ j =>
  intro K f
  rw [List.mapM_cons]
  have:tmps.getD a undef = .pointer (some ⟨b,o,none⟩):=by simp [Array.getD_eq_getD_getElem?,u.2 a _ hl]
  simp only [this]
  refine aF.b9 (ah.cr (a:=⟨b,o,none⟩) (ah.a0 _) ?_)
  unfold loadVar
  refine ah.cr p.1 ?_
  simp only [if_true]
  subst w
  refine ah.cr p.2 (aF.b9 (aF.loadCellsFrom us 0 #[] (by simpa using s) (aF.cf ?_)))
  simp only [List.append_toArray,List.nil_append]
  exact aF.b9 (j (K:=λ vs R' H'=>K (.agg us.toArray::vs) R' H') f |>.mono λ us R' H' h=>aF.cf h)
theorem tV{fn:Func}{tmps:Array Value}{n:Nat}{vs:List Value}(b:bV n st tmps)(h:gT P R H st fn.results.toList vs):aF P B R H (results fn tmps) λ v R' H'=>v=dZ vs∧R'=R∧H'=H:=by
 unfold results
 rw [← Array.toArray_toList (xs:=fn.results),List.mapM_toArray]
 refine aF.b9 (aF.map (OT b h ?_))
 cases vs with
 | nil=>exact aF.cf ⟨rfl,rfl,rfl⟩
 | cons v r=>cases r with
  | nil=>exact aF.cf ⟨rfl,rfl,rfl⟩
  | cons _ _=>exact aF.cf ⟨rfl,rfl,rfl⟩
theorem U.n2{fr:Frame}{cs:List Frame}{f:FuncId}{n:Nat}{fn:Func}{vs:List Value}(b:P.funcs[f]? = some fn)(j:gT P R H st fn.results.toList vs)(h:ab.J R H (aO (fr.finish (dZ vs)) cs)) :
  U ab ⟨f,.normal,none,n,[],fr::cs⟩ R H st (.code .ret::k):=λ tmps p=>by
 refine Jd.ctl (g':=aO { (aN ⟨f,.normal,none,n,[],fr::cs⟩ tmps (.code .ret::k)) with mode:=.returning } (fr::cs)) rfl (λ w=>by simp [stepG,stepG.exec,aO,aN])
  (ab.step rfl λ w hw=>?_)
 obtain ⟨v,w',R',H',h1,h2,h3,rfl,rfl,rfl⟩:=tV (P:=P) p j w hw
 refine ⟨aO (fr.finish (dZ vs)) cs,w',seen P f ((results fn tmps).events P w #[]),R',H',?_,λ e he=>h2 e (mem_seen he),h3,h⟩
 simp [stepG,unwind,doReturn,aO,aN,b,h1,GStep.after]
theorem U.kD{fr:Frame}{cs:List Frame}{f:FuncId}{n:Nat}{fn:Func}{vs:List Value}(b:P.funcs[f]? = some fn)(j:gT P R H st fn.results.toList vs)(h:ab.J R H (aO (fr.finish (dZ vs)) cs)) :
  U ab ⟨f,.normal,none,n,[],fr::cs⟩ R H st []:=λ tmps p=>by
 refine Jd.ctl (g':=aO { (aN ⟨f,.normal,none,n,[],fr::cs⟩ tmps []) with mode:=.returning } (fr::cs)) rfl (λ w=>by simp [stepG,stepG.exec,aO,aN])
  (ab.step rfl λ w hw=>?_)
 obtain ⟨v,w',R',H',h1,h2,h3,rfl,rfl,rfl⟩:=tV (P:=P) p j w hw
 refine ⟨aO (fr.finish (dZ vs)) cs,w',seen P f ((results fn tmps).events P w #[]),R',H',?_,λ e he=>h2 e (mem_seen he),h3,h⟩
 simp [stepG,unwind,doReturn,aO,aN,b,h1,GStep.after]
end
section
variable {P:Program} {B:Base} {main:Bool}
abbrev gl(α:Type):=ax→α→Value→Prop
def gk(ab:Jd P B main)(R:ax)(H:ai){α β:Type}(A:gl α)(D:gl β)(v:Value)(f:α→Option β):Prop :=
 ∃ b first captured,v = .func (.func b) first captured∧aV P b∧∀ R' H',aJ R R'→(∀ p∈H,p∈H')→∀ x r va,A R' x va→f x=some r→aP ab b (first++#[va]++captured) R' H' λ v bR cq=>aJ R' bR∧cq=H'∧D bR r v
def VI(kd:IntKind):gl Int:=λ _ x v=>v = .int kd x
def VB:gl Bool:=λ _ x v=>v = .bool x
def eA{α:Type}(C:bH α):gl α:=λ R x v=>∃ es,v = .agg (List.toArray es)∧C R x es
theorem gk.up{ab:Jd P B main}{R R':ax}{H H':ai}{α β:Type}{A:gl α}{D:gl β}{v:Value}{f:α→Option β}(h:gk ab R H A D v f)(u:aJ R R')(j:∀ p∈H,p∈H'):gk ab R' H' A D v f:=by
 obtain ⟨b,first,captured,h1,h2,h3⟩:=h
 exact ⟨b,first,captured,h1,h2,λ bR cq w s=>h3 bR cq (u.trans w) (λ p z=>s p (j p z))⟩
end
theorem iu{h l1 b:ai}(p:List.Sublist l1 b):List.Sublist (h++l1) (h++b):=List.Sublist.append (List.Sublist.refl _) p
theorem aW{h l1 b:ai}(p:List.Sublist l1 b):List.Sublist l1 (h++b):=by
 induction h with
 | nil=>exact p
 | cons a h f=>exact f.cons a
def gi{α:Type}(f:α→Value)(n:Nat):bH (List α):=λ _ xs es=>xs.length=n∧es=[]++(xs.map f++[])
theorem eE{vs:List Value}{cs:Array Value}(h:vs.length=cs.size):dc cs 0 vs=vs.toArray:=by
 have f:(dc cs 0 vs).size=cs.size:=q8 _ _ _
 apply Array.ext_getElem?
 intro j
 rw [mE vs cs 0 j (by omega)]
 by_cases b:j < vs.length
 ·rw [if_pos (by omega)]; simp
 ·rw [if_neg (by omega)]
  rw [Array.getElem?_eq_none (by omega)]
  simp [Nat.not_lt.1 b]
section
variable {P:Program} {B:Base} {main:Bool} {ab:Jd P B main} {c:Ctx} {R:ax} {H:ai} {st:St} {k:List Item} {o:Oper} {C:ax→ai→St→Prop}
theorem U.JU{S Q b:Type}{body:S→Option (S ⊕ Q)}{s0:S}{code:Code}{g:Q→Option b}{r:b}(j:(Go.Lg.a6 body s0).bind g=some r)(I:S→ax→ai→St→Prop)(f:I s0 R H st)(hb:∀ s R H st,I s R H st→∀ x,body s=some x→(∀ s',x=Sum.inl s'→∀ R' H' st',I s' R' H' st'→U ab c R' H' st' (.inLoop code::k))→(∀ p,x=(Sum.inr p)→g p=some r)→U ab c R H st (.code code :: .inLoop code::k)):U ab c R H st (.code (.loop code)::k):=U.a6 j I (λ s R H st h x w again out=>hb s R H st h x w again (λ _ u=>out _ u)) f
theorem U.dq{S b j:Type}{body:S→Option (S ⊕ b)}{s0:S}{code:Code}{f0:b→Option j}{r:j}{f:List Item}(F:(Go.Lg.a6 body s0).bind f0=some r)(I:S→ax→ai→St→Prop)(h:b→ax→ai→St→Prop)(L:Nat)(_:exitTo L k=some f)(u:I s0 R H st)(G:∀ p R H st,h p R H st→f0 p=some r→U ab c R H st f)(hb:∀ s R H st,I s R H st→∀ x,body s=some x→(∀ s',x=Sum.inl s'→∀ R' H' st',I s' R' H' st'→U ab c R' H' st' (.inLoop code::k))→(∀ p,x=(Sum.inr p)→∀ R' H' st',h p R' H' st'→U ab c R' H' st' f)→U ab c R H st (.code code :: .inLoop code::k)):U ab c R H st (.code (.loop code)::k):=U.a6 F I (λ s R H st z x K again out=>hb s R H st z x K again (λ p J R' H' st' w=>G p R' H' st' w (out _ J))) u
theorem U.cT{S b Q j:Type}{body:S→Option (S ⊕ (b ⊕ Q))}{s0:S}{code:Code}{f0:b→Option j}{g:Q→Option j}{r:j}{h:List Item}(G:(Go.Lg.a6 body s0).bind (Sum.elim f0 g)=some r)(I:S→ax→ai→St→Prop)(u:b→ax→ai→St→Prop)(L:Nat)(_:exitTo L k=some h)(w:I s0 R H st)(J:∀ p R H st,u p R H st→f0 p=some r→U ab c R H st h)(hb:∀ s R H st,I s R H st→∀ x,body s=some x→(∀ s',x=Sum.inl s'→∀ R' H' st',I s' R' H' st'→U ab c R' H' st' (.inLoop code::k))→(∀ p,x=(Sum.inr (Sum.inl p))→∀ R' H' st',u p R' H' st'→U ab c R' H' st' h)→(∀ p,x=(Sum.inr (Sum.inr p))→g p=some r)→U ab c R H st (.code code :: .inLoop code::k)):U ab c R H st (.code (.loop code)::k):=U.a6 G I (λ s R H st F x K again out=>hb s R H st F x K again (λ p f R' H' st' z=>J p R' H' st' z (out _ f)) (λ _ f=>out _ f)) w
theorem U.dp{b h:Type}{A:Option b}{it:Item}{f0:b→Option h}{r:h}(s:A.bind f0=some r)(f:b→ax→ai→St→Prop)(u:∀ p R H st,f p R H st→f0 p=some r→U ab c R H st k)(hb:∀ x,A=some x→(∀ p,x=p→∀ R' H' st',f p R' H' st'→U ab c R' H' st' k)→U ab c R H st (it::k)):U ab c R H st (it::k):=by
 obtain ⟨x,h1,h2⟩:=ag s
 exact hb x h1 (λ p w R' H' st' j=>u p R' H' st' j (by subst w; exact h2))
theorem U.IH{b Q h:Type}{A:Option (b ⊕ Q)}{it:Item}{f0:b→Option h}{g:Q→Option h}{r:h}(u:A.bind (Sum.elim f0 g)=some r)(j:b→ax→ai→St→Prop)(w:∀ p R H st,j p R H st→f0 p=some r→U ab c R H st k)(hb:∀ x,A=some x→(∀ p,x=(Sum.inl p)→∀ R' H' st',j p R' H' st'→U ab c R' H' st' k)→(∀ p,x=(Sum.inr p)→g p=some r)→U ab c R H st (it::k)):U ab c R H st (it::k):=by
 obtain ⟨x,h1,h2⟩:=ag u
 exact hb x h1 (λ p f R' H' st' s=>w p R' H' st' s (by subst f; exact h2)) (λ p f=>by subst f; exact h2)
theorem Ox.iC{α β:Type}{A:gl α}{D:gl β}{f:α→Option β}{x y:Operand}{ts:Array TypeId}{v va:Value}{a:α}{r:β}{b:ai}(h:gk ab R b A D v f)
  (F:o.op = .call ⟨.value x,#[y],ts⟩) (G:aU st x=some v) (J:aU st y=some va) (j:A R a va) (u:f a=some r) (hd:bA o.dst c.n) (s:∀ p∈b,p∈H)
  (hC:∀ w R',aJ R R'→D R' r w→∃ st',aA (bC o.dst w st) st'∧C R' H st'):gS ab c o R H st C:=by
 obtain ⟨K,first,captured,rfl,he,z⟩:=h
 refine Ox.cd (vs:=[va]) F rfl G (by simp [ev,J]) he rfl hd ((z R H (aJ.refl _) s a r va j u).mono λ w R' H' h=>?_)
 obtain ⟨h1,rfl,h3⟩:=h
 exact hC w R' h1 h3
end
def bO{α:Type}(C:bH α)(k:Nat)(R:ax)(H:ai)(v:Value)(xs:List α):Prop :=
 ∃ A cap es,v = .slice A xs.length cap∧a3 C k R xs es∧xs.length≤cap∧(xs≠[]→∃ b o,A=some ⟨b,o,none⟩∧aH R H b o es)
theorem bO.le{α:Type}{C:bH α}[CM C]{k:Nat}{R R':ax}{H:ai}{v:Value}{xs:List α}(h:bO C k R H v xs)(f:aJ R R'):bO C k R' H v xs:=by
 obtain ⟨A,cap,es,h1,h2,h3,h4⟩:=h
 refine ⟨A,cap,es,h1,h2.mono f,h3,λ s=>?_⟩
 obtain ⟨b,o,j,p⟩:=h4 s
 exact ⟨b,o,j,p.le f⟩
theorem bO.sub{α:Type}{C:bH α}{k:Nat}{R:ax}{H H':ai}{v:Value}{xs:List α}(h:bO C k R H v xs)(s:∀ p∈H,p∈H'):bO C k R H' v xs:=by
 obtain ⟨A,cap,es,h1,h2,h3,h4⟩:=h
 refine ⟨A,cap,es,h1,h2,h3,λ u=>?_⟩
 obtain ⟨b,o,f,j⟩:=h4 u
 exact ⟨b,o,f,j.sub s⟩
theorem aa.rd{α:Type}{C:bH α}{k:Nat}{R:ax}{H:ai}{v:Value}{xs:List α}(h:aa C k R v xs):bO C k R H v xs:=by
 obtain ⟨A,cap,es,h1,h2,z,h3⟩:=h
 refine ⟨A,cap,es,h1,h2,z,λ G=>?_⟩
 obtain ⟨b,o,arr,e,f,p,s,u⟩:=h3 G
 exact ⟨b,o,p,λ j w F=>⟨rfl,arr,e,f,.inl s,u j w F⟩⟩
theorem aZ.rd{α:Type}{C:bH α}{k e:Nat}{R:ax}{H:ai}{v:Value}{xs:List α}{Hs:ai}(h:aZ C k e R v xs Hs)(s:∀ p∈Hs,p∈H):bO C k R H v xs:=by
 rcases h with ⟨A,rfl,rfl,rfl⟩ | ⟨b,cap,cs,es,rfl,rfl,h3,h4,h5,h6⟩
 ·exact ⟨A,0,[],rfl,.nil,b6 _,λ h=>absurd rfl h⟩
 ·exact ⟨_,cap,es,rfl,h5,h4,λ _=>⟨b,0,rfl,λ j w f=>⟨rfl,cs,e,(0,0),.inr (s _ (by simp)),by simpa using h6 j w f⟩⟩⟩
theorem bO.lit{α:Type}{C:bH α}{k e n b:Nat}{R:ax}{H:ai}{ys:List α}{cs:Array Value}{f:Nat × Nat}(hm:(b,Obj.cells cs e f)∈H)(h:a3 C k R ys cs.toList)(s:ys.length=n):bO C k R H (.slice (some ⟨b,0,none⟩) n n) ys:=by
 subst s
 exact ⟨_,ys.length,cs.toList,rfl,h,b6 _,λ _=>⟨b,0,rfl,λ j w p=>⟨rfl,cs,e,f,.inr hm,by simpa using p⟩⟩⟩
theorem bO.arg{α:Type}{C:bH α}{k:Nat}{R:ax}{H:ai}{v:Value}{xs:List α}(h:bO C k R H v xs):hQ C k R H v xs:=by
 obtain ⟨A,cap,es,h1,h2,_,h3⟩:=h
 exact ⟨A,cap,es,h1,h2,h3⟩
theorem bO.elem{P:Program}{α:Type}{K:bH α}{k t e:Nat}{R:ax}{H:ai}{v:Value}{xs:List α}{i:Int}{x:α}(h:bO K k R H v xs)(z:fB P t e k)(hi:idx xs i=some x) :
  ∃ b n es,K R x es∧aH R H b n es∧ks P t v i b n:=by
 obtain ⟨h1,h2,h3⟩:=jl hi
 obtain ⟨A,cap,es,rfl,p,_,s⟩:=h
 obtain ⟨b,o,rfl,f⟩:=s (by rintro rfl; simp at h3)
 obtain ⟨e1,f1,f2,f3⟩:=p.at_ _ _ h3
 refine ⟨b,o+i.toNat * k,e1,f1,λ j w u=>?_,λ kd=>?_⟩
 ·have:=f _ _ (f3 j w u)
  simpa [Nat.add_assoc] using this
 ·have:=xV (P:=P) (b:=b) (m:=o) (cap:=cap) (kd:=kd) z (j:=i.toNat) (len:=xs.length) (by omega)
  rwa [Int.toNat_of_nonneg h1] at this
theorem hP(a b:Nat × Obj)(l:ai):List.Perm (a::b::l) (b::a::l):=List.Perm.swap _ _ _
section
variable {P:Program} {B:Base} {main:Bool} {ab:Jd P B main} {c:Ctx} {R:ax} {H H':ai} {st st':St} {o:Oper} {C:ax→ai→St→Prop} {k:List Item}
theorem Ox.wy{α:Type}{K:bH α}{k:Nat}{x:Operand}{t e:TypeId}{v:Value}{xs:List α}{b:ai}(f:o.op = .call ⟨.builtin .len,#[x],#[t]⟩)(s:aU st x=some v)(hl:bO K k R b v xs)(p:P.underlying t=some (.slice e))
  (hd:bA o.dst c.n) (j:aA (bC o.dst (.int .i64 (xs.length:Int)) st) st') (h:C R H st'):aS P B c o R H st C:=by
 obtain ⟨A,cap,es,rfl,_⟩:=hl
 exact Ox.len f s p hd j h
theorem U.cut{it:Item}(E:ax→ai→St→Prop)(h1:∀ R' H' st',E R' H' st'→U ab c R' H' st' k)(h2:(∀ R' H' st',E R' H' st'→U ab c R' H' st' k)→U ab c R H st (it::k)):U ab c R H st (it::k):=h2 h1
theorem Any.PC{S:Nat→ai}{ops:Array Oper}{n:Nat}{rem ra rb:List Nat}{i j:Nat}{a b:Oper}(s:ops[i]? = some a)(hb:ops[j]? = some b)(h:rem.filter (ga ops rem)=[i,j])(F:bQ ops st a=some true)(G:bQ ops st b=some true)(u:rem.Nodup)(w:rem.erase i=ra)(z:rem.erase j=rb)
  (h1:gS ab c a R H st λ R' H' st'=>aJ R R'∧(∀ p∈S i,p∈H→p∈H')∧Any ab c S ops k n ra R' H' st')
  (h2:gS ab c b R H st λ R' H' st'=>aJ R R'∧(∀ p∈S j,p∈H→p∈H')∧Any ab c S ops k n rb R' H' st'):Any ab c S ops k (n+1) rem R H st:=by
 subst w z
 refine ⟨u,λ tmps f=>.inr ⟨(λ e=>by rw [e] at h; cases h),λ _ x J K=>?_⟩⟩
 have:x∈rem.filter (ga ops rem):=List.mem_filter.2 ⟨J,K⟩
 rw [h] at this
 simp only [cJ,List.not_mem_nil,or_false] at this
 rcases this with rfl | rfl
 ·exact h1.po s (e2 f F) f
 ·exact h2.po hb (e2 f G) f
theorem Any.ui{S:Nat→ai}{ops:Array Oper}{n:Nat}{rem ra rb rc:List Nat}{i j l:Nat}{a b d:Oper}(s:ops[i]? = some a)(hb:ops[j]? = some b)(hd:ops[l]? = some d)(h:rem.filter (ga ops rem)=[i,j,l])(G:bQ ops st a=some true)(J:bQ ops st b=some true)(K:bQ ops st d=some true)(u:rem.Nodup)(w:rem.erase i=ra)(z:rem.erase j=rb)(F:rem.erase l=rc)
  (h1:gS ab c a R H st λ R' H' st'=>aJ R R'∧(∀ p∈S i,p∈H→p∈H')∧Any ab c S ops k n ra R' H' st')
  (h2:gS ab c b R H st λ R' H' st'=>aJ R R'∧(∀ p∈S j,p∈H→p∈H')∧Any ab c S ops k n rb R' H' st')
  (h3:gS ab c d R H st λ R' H' st'=>aJ R R'∧(∀ p∈S l,p∈H→p∈H')∧Any ab c S ops k n rc R' H' st'):Any ab c S ops k (n+1) rem R H st:=by
 subst w z F
 refine ⟨u,λ tmps f=>.inr ⟨(λ e=>by rw [e] at h; cases h),λ _ x L M=>?_⟩⟩
 have:x∈rem.filter (ga ops rem):=List.mem_filter.2 ⟨L,M⟩
 rw [h] at this
 simp only [cJ,List.not_mem_nil,or_false] at this
 rcases this with rfl | rfl | rfl
 ·exact h1.po s (e2 f G) f
 ·exact h2.po hb (e2 f J) f
 ·exact h3.po hd (e2 f K) f
end
section
variable {P:Program} {d:Nat} {xs ys:Array Value}
inductive pG (P:Program) (d:Nat) (xs ys:Array Value):List Field→Bool→Prop
 | nil:pG P d xs ys [] true
 | cons {f:Field} {rest:List Field} {a b:Value} {r r':Bool}:(f.name == "_")=false→ah P (part f.type xs f.offset) a→ah P (part f.type ys f.offset) b→ah P (Op.equalIn d f.type a b) r→pG P d xs ys rest r'→pG P d xs ys (f::rest) (r && r')
def ik(r:Bool):Option Bool × Unit:=(if r then none else some false,())
theorem PO{j:List Field}{r:Bool}(h:pG P d xs ys j r) :
  ah P (forIn j ((none:Option Bool),()) λ f (_:Option Bool × Unit) =>
      if f.name ≠ "_" then do
       let a ← part f.type xs f.offset
       let b ← part f.type ys f.offset
       let q ← Op.equalIn d f.type a b
       if (!q)=true then pure (ForInStep.done (some false,())) else pure (ForInStep.yield (none,()))
      else pure (ForInStep.yield (none,()))) (ik r):=by
 induction h with
 | nil=>rw [List.forIn_nil]; exact ah.a0 _
 | @cons f rest a b r r' s p hb w _ z =>
  have u:f.name ≠ "_":=by simpa using s
  rw [List.forIn_cons]
  simp only [u,ne_eq,not_false_iff,if_true,bind_assoc]
  refine ah.ba p (ah.ba hb (ah.ba w ?_))
  cases r with
  | false=>simp only [Bool.not_false,if_true,pure_bind,Bool.false_and]; exact ah.a0 _
  | true =>
   simp only [Bool.not_true,fi,if_false,pure_bind,Bool.true_and]
   simpa only [ne_eq] using z
theorem xU{t:TypeId}{fields:Array Field}{r:Bool}(hu:P.underlying t=some (.struct fields))(b:P.stoodInHeld t=false)(h:pG P d xs ys fields.toList r):ah P (Op.equalIn (d+1) t (.agg xs) (.agg ys)) r:=by
 rw [Op.equalIn]
 refine ah.ba (ah.underlying hu) ?_
 dsimp only
 refine ah.ba ah.program ?_
 simp only [b,fi,if_false]
 rw [← Array.forIn_toList]
 refine ah.ba (PO h) ?_
 cases r <;> exact ah.a0 _
theorem oa{t:TypeId}{kd:IntKind}{a b:Int}(hu:P.underlying t=some (.int kd)):ah P (Op.equalIn (d+1) t (.int kd a) (.int kd b)) (a == b):=by
 rw [Op.equalIn]
 refine ah.ba (ah.underlying hu) ?_
 simp only [if_true]
 exact ah.a0 _
theorem uw{t:TypeId}{a b:Bool}(hu:P.underlying t=some .bool):ah P (Op.equalIn (d+1) t (.bool a) (.bool b)) (a == b):=by
 rw [Op.equalIn]
 exact ah.ba (ah.underlying hu) (ah.a0 _)
inductive pF (P:Program) (d:Nat) (elem:TypeId) (n:Nat) (xs ys:Array Value):List Nat→Bool→Prop
 | nil:pF P d elem n xs ys [] true
 | cons {i:Nat} {rest:List Nat} {a b:Value} {r r':Bool}:ah P (part elem xs (i * n)) a→ah P (part elem ys (i * n)) b→ah P (Op.equalIn d elem a b) r→pF P d elem n xs ys rest r'→pF P d elem n xs ys (i::rest) (r && r')
theorem PN{elem:TypeId}{n:Nat}{is:List Nat}{r:Bool}(h:pF P d elem n xs ys is r) :
  ah P (forIn is ((none:Option Bool),()) λ i (_:Option Bool × Unit)=>do
      let a ← part elem xs (i * n)
      let b ← part elem ys (i * n)
      let q ← Op.equalIn d elem a b
      if (!q)=true then pure (ForInStep.done (some false,())) else pure (ForInStep.yield (none,()))) (ik r):=by
 induction h with
 | nil=>rw [List.forIn_nil]; exact ah.a0 _
 | @cons i rest a b r r' f hb j _ p =>
  rw [List.forIn_cons]
  simp only [bind_assoc]
  refine ah.ba f (ah.ba hb (ah.ba j ?_))
  cases r with
  | false=>simp only [Bool.not_false,if_true,pure_bind,Bool.false_and]; exact ah.a0 _
  | true =>
   simp only [Bool.not_true,fi,if_false,pure_bind,Bool.true_and]
   exact p
theorem Dq{n len:Nat}{t elem:TypeId}{r:Bool}(hu:P.underlying t=some (.array len elem))(b:ah P (sizeOf elem) n)(h:pF P d elem n xs ys (List.range len) r):ah P (Op.equalIn (d+1) t (.agg xs) (.agg ys)) r:=by
 rw [Op.equalIn]
 refine ah.ba (ah.underlying hu) ?_
 dsimp only
 refine ah.ba b ?_
 rw [Std.Legacy.Range.forIn_eq_forIn_range']
 simp only [Std.Legacy.Range.size,Nat.sub_zero,Nat.add_sub_cancel,Nat.div_one]
 rw [← List.range_eq_range']
 refine ah.ba (PN h) ?_
 cases r <;> exact ah.a0 _
end
def dT(s:ByteArray):List Int:=s.data.toList.map λ b=>(b.toNat:Int)
def jM(s:ByteArray)(i:Int):Option Int:=idx (dT s) i
section
variable {P:Program} {B:Base} {main:Bool} {ab:Jd P B main} {c:Ctx} {R:ax} {H H':ai} {st st':St} {o:Oper} {C:ax→ai→St→Prop} {k:List Item}
theorem Ox.sR{x y:Operand}{t:TypeId}{s:ByteArray}{kd:IntKind}{i z:Int}(j:o.op = .index t x y)(G:aU st x=some (.string s))(J:aU st y=some (.int kd i))(F:P.underlying t=some .string)(K:jM s i=some z)
  (hd:bA o.dst c.n) (w:aA (bC o.dst (.int .u8 z) st) st') (h:C R H st'):aS P B c o R H st C :=
 Ox.fb (s:=λ f=>Instr.index t (f x) (f y)) (by rw [j]; rfl) hd (λ f=>by simp only [execOp,j]) (λ f p=>by
  rw [p x _ G,p y _ J]
  obtain ⟨h1,h2,h3⟩:=jl K
  unfold dT at h3
  rw [List.getElem?_map] at h3
  obtain ⟨b,hb,rfl⟩:=Option.map_eq_some_iff.1 h3
  unfold Instr.index
  refine ah.ba (a:=(kd,i)) (ah.a0 _) (ah.ba (ah.underlying F) ?_)
  have e:(if 0≤i then s[i.toNat]? else none)=some b:=by
   rw [if_pos h1]
   have u:s.data[i.toNat]? = some b:=by simpa using hb
   rw [← u]
   rfl
  simp only [e]
  exact ah.a0 _) w h
def yd(P:Program)(t:TypeId)(z:Array Value):Prop:=eu P t z∧∃ n e m,P.underlying t=some (.array n e)∧ah P (sizeOf e) m
theorem Ox.rI{t:TypeId}{z:Array Value}(b:o.op = .build t #[])(j:yd P t z)
  (hd:bA o.dst c.n) (f:aA (bC o.dst (.agg z) st) st') (h:C R H st'):aS P B c o R H st C :=
 Ox.fb (s:=λ _=>Instr.build t #[]) (by rw [b]; rfl) hd (λ u=>by simp [execOp,b]) (λ u w=>by
  obtain ⟨⟨z0,p,rfl⟩,n,e,m,h1,h2⟩:=j
  unfold Instr.build
  exact ah.ba p (ah.ba (ah.underlying h1) (ah.ba h2 (ah.a0 _)))) f h
def od(P:Program)(t _:Nat)(v:Value)(len l h:Int)(v':Value):Prop :=
 ∀ (b:Operand→Value) (st:St) (x:Operand) (lo hi:Option Operand),Knows st b→b x=v→qs st lo=some l→qn st len.toNat hi=some h→ah P (Instr.sliceAt t (b x) (lo.map b) (hi.map b) none) v'
theorem bO.cut{α:Type}{K:bH α}{k t e:Nat}{xs ys:List α}{v:Value}{l h:Int}{s:ai}(J:bO K k R s v xs)(p:fB P t e k)(L:e7 xs l h=some ys):∃ v',bO K k R s v' ys∧od P t k v (xs.length:Int) l h v':=by
 obtain ⟨h1,h2,h3,rfl⟩:=qb L
 obtain ⟨A,cap,es,rfl,G,M,hm⟩:=J
 refine ⟨(.slice (if cap=l.toNat then A else A.map (·.add (l.toNat * k))) (h.toNat - l.toNat) (cap - l.toNat)),?_,?_⟩
 ·have z:((xs.take h.toNat).drop l.toNat).length=h.toNat - l.toNat:=by
   simp only [List.length_drop,fh]
   omega
  refine ⟨(if cap=l.toNat then A else A.map (·.add (l.toNat * k))),cap - l.toNat,(es.take (h.toNat * k)).drop (l.toNat * k),by rw [z],G.take.drop,by rw [z]; omega,λ Q=>?_⟩
  have V:l.toNat < h.toNat:=by
   apply Classical.byContradiction
   intro W
   apply Q
   apply List.eq_nil_of_length_eq_zero
   simp only [List.length_drop,fh]
   omega
  obtain ⟨b,o',rfl,F⟩:=hm (by rintro rfl; simp at h3; omega)
  refine ⟨b,o'+l.toNat * k,?_,λ j w f=>?_⟩
  ·rw [if_neg (by omega)]; simp [hT]
  ·rw [List.getElem?_drop,List.getElem?_take] at f
   split at f
   ·have:=F _ _ f
    simpa [Nat.add_assoc] using this
   ·cases f
 ·intro X st x lo hi U T hl u
  rw [cp] at u
  rw [T]
  unfold Instr.sliceAt
  refine ah.ba (ah.underlying p.1) ?_
  unfold Instr.slice
  refine ah.ba (ah.underlying p.1) (ah.ba (uu U hl u ⟨h1,h2,h3⟩ M) (ah.ba p.2 (ah.a0 _)))
theorem aa.cut{α:Type}{K:bH α}{k t e:Nat}{xs ys:List α}{v:Value}{l h:Int}(M:aa K k R v xs)(p:fB P t e k)(Q:e7 xs l h=some ys):∃ v',aa K k R v' ys∧od P t k v (xs.length:Int) l h v':=by
 obtain ⟨h1,h2,h3,rfl⟩:=qb Q
 obtain ⟨A,cap,es,rfl,L,T,hm⟩:=M
 refine ⟨(.slice (if cap=l.toNat then A else A.map (·.add (l.toNat * k))) (h.toNat - l.toNat) (cap - l.toNat)),?_,?_⟩
 ·have u:((xs.take h.toNat).drop l.toNat).length=h.toNat - l.toNat:=by
   simp only [List.length_drop,fh]
   omega
  refine ⟨(if cap=l.toNat then A else A.map (·.add (l.toNat * k))),cap - l.toNat,(es.take (h.toNat * k)).drop (l.toNat * k),by rw [u],L.take.drop,by rw [u]; omega,λ U=>?_⟩
  have X:l.toNat < h.toNat:=by
   apply Classical.byContradiction
   intro Y
   apply U
   apply List.eq_nil_of_length_eq_zero
   simp only [List.length_drop,fh]
   omega
  obtain ⟨b,o',arr,z,F,rfl,G,J⟩:=hm (by rintro rfl; simp at h3; omega)
  refine ⟨b,o'+l.toNat * k,arr,z,F,?_,G,λ j w f=>?_⟩
  ·rw [if_neg (by omega)]; simp [hT]
  ·rw [List.getElem?_drop,List.getElem?_take] at f
   split at f
   ·have:=J _ _ f
    simpa [Nat.add_assoc] using this
   ·cases f
 ·intro Z st x lo hi W V hl s
  rw [cp] at s
  rw [V]
  unfold Instr.sliceAt
  refine ah.ba (ah.underlying p.1) ?_
  unfold Instr.slice
  refine ah.ba (ah.underlying p.1) (ah.ba (uu W hl s ⟨h1,h2,h3⟩ T) (ah.ba p.2 (ah.a0 _)))
theorem Ox.qc{x:Operand}{t k:Nat}{lo hi:Option Operand}{v v':Value}{len l h:Int}(f:o.op = .slice t x lo hi none)(z:aU st x=some v)(hl:qs st lo=some l)(u:qn st len.toNat hi=some h)(p:od P t k v len l h v')(hd:bA o.dst c.n)
  (w:aA (bC o.dst v' st) st') (hC:C R H st'):aS P B c o R H st C :=
 Ox.fb (s:=λ b=>Instr.sliceAt t (b x) (lo.map b) (hi.map b) none) (by rw [f]; rfl) hd (λ b=>by simp only [execOp,f]; rfl) (λ b j=>p b st x lo hi j (j x _ z) hl u) w hC
theorem aZ.dN{α:Type}{K:bH α}{k t e:Nat}{v:Value}{xs:List α}{Hs:ai}{i:Int}{x:α}(h:aZ K k e R v xs Hs)(W:fB P t e k)(hi:idx xs i=some x) :
  ∃ b cs es,K R x es∧Hs=[(b,.cells cs e (0,0))]∧aH R Hs b (i.toNat * k) es∧(∀ (j:Nat) (w:Value),es[j]? = some w→cs[i.toNat * k+j]? = some w)∧ks P t v i b (i.toNat * k)∧es.length=k∧i.toNat * k+k≤cs.size ∧
   ∀ x' p,K R x' p→p.length=k→aZ K k e R v (xs.set i.toNat x') [(b,.cells (dc cs (i.toNat * k) p) e (0,0))]:=by
 obtain ⟨h1,h2,h3⟩:=jl hi
 rcases h with ⟨A,rfl,rfl,rfl⟩ | ⟨b,cap,cs,es,rfl,rfl,J,L,u,z⟩
 ·simp at h3
 obtain ⟨e1,f1,f2,f3⟩:=u.at_ _ _ h3
 have Q:i.toNat < xs.length:=(dU.1 h3).1
 have ad:i.toNat * k+k≤xs.length * k:=by
  calc i.toNat * k+k=(i.toNat+1) * k:=by rw [Nat.add_mul,Nat.one_mul]
   _≤xs.length * k:=Nat.mul_le_mul_right k Q
 have aa:xs.length * k≤cs.size:=by rw [J]; exact Nat.mul_le_mul_right k L
 refine ⟨b,cs,e1,f1,rfl,λ j w f=>⟨rfl,cs,e,(0,0),.inr (by simp),z _ _ (f3 j w f)⟩,λ j w f=>z _ _ (f3 j w f),λ kd=>?_,f2,by omega,λ x' p X hl'=>?_⟩
 ·have:=xV (P:=P) (b:=b) (m:=0) (cap:=cap) (kd:=kd) W (j:=i.toNat) (len:=xs.length) Q
  rw [Int.toNat_of_nonneg h1] at this
  simpa using this
 ·refine .inr ⟨b,cap,_,(es.take (i.toNat * k))++(p++es.drop (i.toNat * k+k)),by rw [List.length_set],rfl,by rw [q8]; exact J,by rw [List.length_set]; exact L,?_,?_⟩
  ·have s:=u.len
   refine ⟨?_,λ j y F=>?_⟩
   ·simp only [fg,fh,List.length_drop,List.length_set,hl',s]
    omega
   ·rw [List.getElem?_set] at F
    split at F
    ·rename_i M
     subst M
     cases F
     refine ⟨p,X,hl',λ a w hw=>?_⟩
     have G:=(dU.1 hw).1
     rw [ff (by simp only [fh]; omega)]
     simp only [fh,s]
     rw [show i.toNat * k+a - min (i.toNat * k) (xs.length * k)=a by omega,gg G]
     exact hw
    ·rename_i M
     obtain ⟨V,Y,U,Z⟩:=u.at_ _ _ F
     refine ⟨V,Y,U,λ a w hw=>?_⟩
     have G:=(dU.1 hw).1
     rw [U] at G
     have hold:=Z a w hw
     rcases Nat.lt_or_ge j i.toNat with T | ac
     ·have:j * k+k≤i.toNat * k:=by
       calc j * k+k=(j+1) * k:=by rw [Nat.add_mul,Nat.one_mul]
        _≤i.toNat * k:=Nat.mul_le_mul_right k T
      rw [gg (by simp only [fh,s]; omega),List.getElem?_take,if_pos (by omega)]
      exact hold
     ·have:i.toNat * k+k≤j * k:=by
       calc i.toNat * k+k=(i.toNat+1) * k:=by rw [Nat.add_mul,Nat.one_mul]
        _≤j * k:=Nat.mul_le_mul_right k (by omega)
      rw [ff (by simp only [fh]; omega),ff (by simp only [fh,s,hl']; omega),List.getElem?_drop]
      simp only [fh,s,hl']
      rw [show i.toNat * k+k+(j * k+a - min (i.toNat * k) (xs.length * k) - k)=j * k+a by omega]
      exact hold
  ·intro j w f
   have s:=u.len
   rw [mE p cs (i.toNat * k) j (by rw [hl']; omega)]
   rw [List.getElem?_append] at f
   simp only [fh,s] at f
   split at f
   ·rename_i T
    rw [List.getElem?_take] at f
    split at f
    ·rw [if_neg (by omega)]
     exact z _ _ f
    ·cases f
   ·rw [List.getElem?_append] at f
    split at f
    ·rename_i h5 h6
     rw [if_pos (by omega),← f]
     congr 1
     omega
    ·rename_i h5 h6
     rw [hl'] at h6
     rw [if_neg (by rw [hl']; omega)]
     rw [List.getElem?_drop,hl'] at f
     have:=z _ _ f
     rwa [show i.toNat * k+k+(j - min (i.toNat * k) (xs.length * k) - k)=j by omega] at this
theorem xo:∀ (vs ws:List Value) (cs:Array Value) (o:Nat),dc cs o (vs++ws)=dc (dc cs o vs) (o+vs.length) ws
 | [],ws,cs,o=>by simp [dc]
 | v::vs,ws,cs,o=>by
  simp only [List.cons_append,dc,List.length_cons]
  rw [xo vs ws]
  congr 1
  omega
theorem xp:∀ (vs:List Value) (cs:Array Value) (o:Nat),(∀ j w,vs[j]? = some w→cs[o+j]? = some w)→dc cs o vs=cs
 | [],cs,o,_=>rfl
 | v::vs,cs,o,h=>by
  have f:cs[o]? = some v:=h 0 v rfl
  have p:=(Array.getElem?_eq_some_iff.1 f).1
  have e:cs.setIfInBounds o v=cs:=by
   apply Array.ext_getElem?
   intro j
   by_cases b:o=j
   ·subst b; rw [iZ p,f]
   ·rw [fN b]
  simp only [dc,e]
  exact xp vs cs (o+1) λ j w b=>by
   have:=h (j+1) w (by simpa using b)
   rwa [show o+(j+1)=o+1+j by omega] at this
theorem Ox.dQ{α:Type}{K:bH α}{k e t b j n:Nat}{x y:Operand}{G:ai→ai}{v w:Value}{xs:List α}{i:Int}{x':α}{cs:Array Value}{pre mid post vs:List Value}(V:fj G)
  (T:o.op = .store t x y) (ae:aU st x=some (.pointer (some ⟨b,i.toNat * k+j,none⟩))) (af:aU st y=some w) (hw:w.cells.toList=vs) (ad:ah P (sizeOf t) n) (J:vs.length=n) (h1:∀ u∈vs,u.oneCell'=true)
  (Q:∀ (j:Nat) (w:Value),(pre++(mid++post))[j]? = some w→cs[i.toNat * k+j]? = some w) (Y:pre.length=j) (hm:mid.length=n) (F:(pre++(mid++post)).length=k) (aj:i.toNat * k+k≤cs.size)
  (X:∀ x' z,K R x' z→z.length=k→aZ K k e R v (xs.set i.toNat x') [(b,.cells (dc cs (i.toNat * k) z) e (0,0))]) (W:K R x' (pre++(vs++post)))
  (hd:o.dst=none) (aa:aA st st') (h:∀ L,aZ K k e R v (xs.set i.toNat x') L→C R (G L) st'):aS P B c o R (G [(b,.cells cs e (0,0))]) st C:=by
 have Z:dc cs (i.toNat * k+j) vs=dc cs (i.toNat * k) (pre++(vs++post)):=by
  rw [xo,xp pre cs _ (λ a u f=>Q a u (by rw [gg (dU.1 f).1]; exact f)),xo,Y,J]
  rw [xp post]
  intro a u f
  have h2:=Q (j+n+a) u (by
   rw [ff (by omega),ff (by omega)]
   rw [show j+n+a - pre.length - mid.length=a by omega]
   exact f)
  have ag:=(Array.getElem?_eq_some_iff.1 h2).1
  rw [mE vs cs (i.toNat * k+j) _ (by rw [J]; have:=F; simp only [fg] at this; omega),if_neg (by omega)]
  rwa [show i.toNat * k+(j+n+a)=i.toNat * k+j+n+a by omega] at h2
 have hlen:(pre++(vs++post)).length=k:=by
  simp only [fg] at F ⊢
  omega
 have M:=X x' _ W hlen
 rw [← Z] at M
 refine Ox.tB (s:=λ p=>Instr.storeAt t (p x) (p y)) (by rw [T]; rfl) hd (λ p=>by simp only [execOp,T]) aa (λ p U=>?_)
 rw [U x _ ae,U y _ af]
 simp only [Instr.storeAt,Instr.sureAddr]
 refine ah.cr (ah.a0 _) ?_
 have ac:w.cells.size=n:=by rw [← J,← hw]; simp
 refine aF.storeVar (cs:=cs) (e:=e) ad ac (by rw [hw]; exact h1) (by simp only [fg] at F; omega) ?_ (h _ M)
 rw [hw]
 exact V.set
def gB{α:Type}(xs ys:List α):List α:=ys.take xs.length++xs.drop ys.length
theorem ot{α:Type}{xs ys:List α}{n:Nat}(h:xs.length=n):(gB xs ys).length=n:=by
 simp only [gB,fg,fh,List.length_drop]; omega
theorem Ox.O0{x:Operand}{t len e n b off:Nat}(j:o.op = .slice t x none none none)(w:aU st x=some (.pointer (some ⟨b,off,none⟩)))(p:jb P t len e n)
  (hd:bA o.dst c.n) (u:aA (bC o.dst (.slice (some ⟨b,off,none⟩) len len) st) st') (h:C R H st'):aS P B c o R H st C :=
 Ox.fb (s:=λ f=>Instr.sliceAt t (f x) none none none) (by rw [j]; rfl) hd (λ f=>by simp only [execOp,j]; rfl) (λ f z=>by
  rw [z x _ w]
  unfold Instr.sliceAt
  refine ah.ba (ah.underlying p.1) ?_
  dsimp only
  unfold Instr.sliceBounds
  refine ah.ba (a:=(⟨b,off,none⟩:Addr)) (ah.a0 _) (ah.ba (a:=((0:Nat),len,len)) (ah.ba (a:=len) (ah.a0 _) (ah.ba (a:=len) (ah.a0 _) (ah.ba (a:=(0:Nat)) (ah.a0 _) (ah.a0 _)))) (ah.ba p.2 ?_))
  dsimp only
  rw [Nat.zero_mul,hT]
  simp only [Nat.add_zero,ite_self,Nat.sub_zero]
  exact ah.a0 _) u h
theorem Ox.ET{x y:Operand}{t e t2 b off n T:Nat}{U:TypeDesc}{v:Value}{xs ys:List Int}{pre post:List Value}(F:o.op = .call ⟨.builtin .copy,#[x,y],#[t,t2]⟩)(ak:aU st x=some (.slice (some ⟨b,off,none⟩) n n))(al:aU st y=some v)(J:fB P t e 1)(_:P.underlying t2=some U)
  (W:bO (CI .i64) 1 R H v ys) (hl:xs.length=n) (af:cF H b (.cells ((pre++(xs.map (Value.int .i64)++post)).toArray) T (0,0)) (.cells ((pre++((gB xs ys).map (Value.int .i64)++post)).toArray) T (0,0)) H') (G:pre.length=off)
  (hd:bA o.dst c.n) (ag:aA (bC o.dst (goInt (Nat.min ys.length n)) st) st') (h:C R H' st'):aS P B c o R H st C:=by
 refine ⟨by rw [F]; rfl,hd,λ M L=>?_⟩
 simp only [execOp,F]
 refine ah.cr (a:=⟨.builtin .copy #[t,t2] o.type (#[x,y].map λ | .const _=>true | _=>false),#[x,y].map M⟩) (ah.a0 _) ?_
 simp only [invoke,builtin]
 have e1:(#[x,y].map M)=#[.slice (some ⟨b,off,none⟩) n n,v]:=by simp [L x _ ak,L y _ al]
 rw [e1]
 obtain ⟨A,cap,es,rfl,s,an,hm⟩:=W
 have X:es=ys.map (Value.int .i64):=by
  apply List.ext_getElem?
  intro j
  rw [List.getElem?_map]
  rcases Nat.lt_or_ge j ys.length with f | f
  ·obtain ⟨q,ac,ao,ae⟩:=s.at_ j _ (ez f)
   have ad:q=[.int .i64 ys[j]]:=ac
   subst ad
   have:=ae 0 _ rfl
   rw [Nat.mul_one,Nat.add_zero] at this
   rw [this,ez f]
   rfl
  ·rw [List.getElem?_eq_none (by rw [s.len]; omega),List.getElem?_eq_none f]
   rfl
 subst X
 have aa:dc ((pre++(xs.map (Value.int .i64)++post)).toArray) off ((ys.map (Value.int .i64)).take n)=(pre++((gB xs ys).map (Value.int .i64)++post)).toArray:=by
  subst G
  apply Array.ext_getElem?
  intro j
  rw [mE _ _ _ _ (by simp; omega)]
  simp only [fh,List.length_map,gB,List.map_append,List.map_take,List.map_drop,List.getElem?_toArray,hl]
  by_cases h1:pre.length≤j∧j < pre.length+Min.min n ys.length
  ·rw [if_pos h1,ff h1.1,gg (by simp; omega),gg (by simp; omega)]
  ·rw [if_neg h1]
   rcases Nat.lt_or_ge j pre.length with h2 | h2
   ·rw [gg h2,gg h2]
   ·rw [ff h2,ff h2]
    rcases Nat.lt_or_ge (j - pre.length) n with h3 | h3
    ·rw [gg (by simp; omega),gg (by simp; omega),ff (by simp; omega),List.getElem?_drop]
     simp only [fh,List.length_map]
     congr 1
     omega
    ·rw [ff (by simp; omega),ff (by simp; omega)]
     simp only [fg,fh,List.length_map,List.length_drop]
     congr 1
     omega
 have fin:∀ K:Unit→ax→ai→Prop,K () R H'→aF P B R H (storeCells ⟨b,off,none⟩ ((ys.map (Value.int .i64)).take n)) K:=λ K V=>by
  refine aF.given λ Z=>aF.rm _ ((pre++(xs.map (Value.int .i64)++post)).toArray) off 0 H H' (λ u hu=>?_) (by subst G; simp; omega) (by rw [Nat.add_zero,aa]; exact af) Z V
  obtain ⟨z,_,rfl⟩:=List.mem_map.1 (List.mem_of_mem_take hu)
  rfl
 refine aF.b9 ?_
 unfold Builtin.copy_
 refine ah.cr (ah.underlying J.1) ?_
 dsimp only
 refine ah.cr (a:=ys.length) (ah.a0 _) (ah.cr J.2 ?_)
 have last:aF P B R H (do storeCells ⟨b,off,none⟩ ((ys.map (Value.int .i64)).take n); pure (goInt (Nat.min ys.length n))) λ a R' H'=>aF P B R' H' (pure (Next.value a)) λ nx R' H'=>∃ v,(nx = .value v∨(nx = .skip∧v=undef))∧∃ st',aA (bC o.dst v st) st'∧C R' H' st' :=
  aF.b9 (fin _ (aF.cf (aF.cf ⟨_,.inl rfl,st',ag,h⟩)))
 have aj:(ys.map (Value.int .i64)).take n=(ys.map (Value.int .i64)).take (Nat.min ys.length n * 1):=by
  rw [Nat.mul_one]
  rcases Nat.le_total ys.length n with h1 | h1
  ·rw [show Nat.min ys.length n=ys.length from Nat.min_eq_left h1,List.take_of_length_le (by simpa using h1),List.take_of_length_le (by simp)]
  ·rw [show Nat.min ys.length n=n from Nat.min_eq_right h1]
 cases A with
 | none =>
  have am:ys=[]:=by
   apply Classical.byContradiction
   intro p
   obtain ⟨Q,o',h1,_⟩:=hm p
   cases h1
  subst am
  simp only [Builtin.firstCells]
  refine ah.cr (a:=#[]) (ah.a0 _) ?_
  simpa using last
 | some A =>
  have w:aH R H A.block A.off ((ys.map (Value.int .i64)).take n)∧(ys≠[]→A=⟨A.block,A.off,none⟩):=by
   by_cases p:ys=[]
   ·subst p; exact ⟨λ j u f=>by simp at f,λ h=>absurd rfl h⟩
   ·obtain ⟨Q,o',h1,h2⟩:=hm p
    cases h1
    refine ⟨λ j u f=>?_,λ _=>rfl⟩
    rw [List.getElem?_take] at f
    split at f
    ·exact h2 j u f
    ·cases f
  simp only [Builtin.firstCells,loadCells]
  by_cases p:ys=[]
  ·subst p
   simp only [List.length_nil,Nat.zero_mul,show Nat.min 0 n=0 from Nat.zero_min n]
   refine ah.cr (a:=#[]) (ah.a0 _) ?_
   simpa using last
  ·rw [w.2 p]
   have Y:((ys.map (Value.int .i64)).take n).length=Nat.min ys.length n * 1:=by rw [aj]; simp [Nat.min_le_left]
   refine aF.b9 ?_
   rw [← Y]
   refine aF.loadCellsFrom _ 0 #[] (by simpa using w.1) ?_
   simpa using last
end
section
variable {P:Program} {B:Base} {main:Bool} {ab:Jd P B main} {c:Ctx} {R:ax} {H:ai} {st:St} {k:List Item}
theorem aF.getLoop{l:Nat}{r:Loop}{K:Loop→ax→ai→Prop}(h:(l,Obj.loop r)∈H)(b:K r R H):aF P B R H (Instr.getLoop l) K:=by
 unfold Instr.getLoop
 exact aF.b9 (aF.getObj rfl (.inr h) (aF.cf b))
theorem cF.at_{b:Nat}{o o':Obj}{T:ai}:∀ {Hs:ai},cF (Hs++(b,o)::T) b o o' (Hs++(b,o')::T)
 | []=>.here
 | _::_=>.there cF.at_
def pM(ab:Jd P B main)(v:Value)(args:Array Value)(R:ax)(H:ai)(Post:Value→ax→ai→Prop):Prop :=
 ∃ l r,v = .func (.yield l) #[] #[]∧(l,Obj.loop r)∈H∧r.params.size=args.size ∧
  ∀ fr cs,(∀ w R' H',Post w R' H'→ab.J R' H' (aO (fr.finish w) cs)) →
   ab.J R H (aO (Frame.round l r.fn ((r.params.zip args).foldl (λ tmps (t,a)=>tmps.setIfInBounds t a) r.tmps) r.assign r.body .normal) (fr::cs))
theorem pM.mono{v:Value}{args:Array Value}{Post b:Value→ax→ai→Prop}(h:pM ab v args R H Post)(j:∀ w R' H',Post w R' H'→b w R' H'):pM ab v args R H b:=by
 obtain ⟨l,r,h1,h2,h3,h4⟩:=h
 exact ⟨l,r,h1,h2,h3,λ fr cs f=>h4 fr cs λ w R' H' hw=>f w R' H' (j _ _ _ hw)⟩
theorem Em{fr:Frame}{cs:List Frame}{s:Sem Next}{w w':World}{l:Nat}{f:FuncId}{tmps:Array Value}{assign body:Code}(b:fr.kind ≠ .early)(j:s.run P w = .ok (.round l f tmps assign body) w') :
  stepG.apply P true fr cs none s w = .go (aO (Frame.round l f tmps assign body .normal) (fr::cs)) w' (seen P fr.fn (s.events P w #[])):=by
 have h:(fr.kind == CallKind.early)=false:=by simpa using b
 simp [stepG.apply,j,aO,h,GStep.after]
theorem U.Da{ops:Array Oper}{i:Nat}{rest:List Nat}{o:Oper}{b:Call}{x:Operand}{v:Value}{vs:List Value}(ho:ops[i]? = some o)(hw:bQ ops st o=some true)(K:(c.kind == CallKind.early)=false)
  (p:o.op = .call b) (F:b.callee = .value x) (W:aU st x=some v) (s:ev st b.args.toList=some vs) (G:bA o.dst c.n)
  (h:pM ab v vs.toArray R H λ w R' H'=>∃ st',aA (bC o.dst w st) st'∧U ab c R' H' st' (.inRegion ops rest::k)) :
  U ab c R H st (.inRegion ops (i::rest)::k):=by
 intro tmps f
 obtain ⟨l,r,rfl,hl,T,J⟩:=h
 have j:=f.knows c (.inRegion ops (i::rest)::k)
 have hd:fU o.op=false:=by rw [p]; rfl
 have M:aF P B R H (execOp (aN c tmps (.inRegion ops (i::rest)::k)).eval o) λ nx R' H'=>nx = .round l r.fn ((r.params.zip vs.toArray).foldl (λ tmps (t,a)=>tmps.setIfInBounds t a) r.tmps) r.assign r.body∧R'=R∧H'=H:=by
  simp only [execOp,p,resolve,F,j x _ W,Deferred.ofValue]
  have e:b.args.map (aN c tmps (.inRegion ops (i::rest)::k)).eval=vs.toArray:=by apply Array.ext'; simpa using m2 j _ _ s
  refine ah.cr (a:=⟨.fn (.yield l) #[],#[]++vs.toArray⟩) (by rw [e]; exact ah.a0 _) ?_
  simp only [invoke,Instr.yield]
  refine aF.b9 (aF.getLoop hl ?_)
  simp only [Array.empty_append,T,ne_eq,eK,if_false]
  exact aF.cf ⟨rfl,rfl,rfl⟩
 refine ab.step rfl λ w V=>?_
 obtain ⟨nx,w',R',H',h1,h2,h3,rfl,rfl,rfl⟩:=M w V
 refine ⟨_,w',seen P c.fn ((execOp (aN c tmps (.inRegion ops (i::rest)::k)).eval o).events P w #[]),R',H',?_,λ e he=>h2 e (mem_seen he),h3,J (aN c tmps (.inRegion ops (i::rest)::k)) c.cs λ u bR cq L=>?_⟩
 ·rw [g7 ho (e2 f hw) hd]
  exact Em (by simpa [aN] using K) h1
 ·obtain ⟨st',Q,z⟩:=L
  rw [hx ho]
  exact z _ ((f.put u G).sub Q)
structure fz (ab:Jd P B main) (R:ax) {α S:Type} (A:gl α) (v:Value) (y:α→S→Option (S × Bool)) (Inv:S→ax→ai→Prop):Prop where
 fn:∃ l,v = .func (.yield l) #[] #[]
 mono:∀ {s:S} {R1 R2:ax} {Hy:ai},aJ R R1→aJ R1 R2→Inv s R1 Hy→Inv s R2 Hy
 call:∀ (Hf:ai) {R':ax} {Hy:ai} {s:S} {x:α} {va:Value} {z:S × Bool},aJ R R'→Inv s R' Hy→A R' x va→y x s=some z →
  pM ab v #[va] R' (Hf++Hy) λ w bR cq=>aJ R' bR∧w = .bool z.2∧∃ lO,Inv z.1 bR lO∧cq=Hf++lO
theorem fz.up{R':ax}{α S:Type}{A:gl α}{v:Value}{y:α→S→Option (S × Bool)}{Inv:S→ax→ai→Prop}(h:fz ab R A v y Inv)(b:aJ R R'):fz ab R' A v y Inv :=
 ⟨h.fn,λ h1 h2=>h.mono (b.trans h1) h2,λ Hf=>λ h1=>h.call Hf (b.trans h1)⟩
theorem fz.cells{α S:Type}{A:gl α}{v:Value}{y:α→S→Option (S × Bool)}{Inv:S→ax→ai→Prop}(h:fz ab R A v y Inv):v.cells=#[v]:=by
 obtain ⟨l,rfl⟩:=h.fn; rfl
def cY{α S O:Type}(body:α→S→Option (S ⊕ O))(x:α):S ⊕ O→Option ((S ⊕ O) × Bool)
 | .inl s=>(body x s).map λ z=>(z,z.isLeft)
 | .inr _=>none
def Shape(I:ax→ai→ai→Prop):Prop:=∀ R T H,I R T H→∃ Hs,H=Hs++T∧∀ R' T',aJ R R'→I R' T' (Hs++T')
theorem OR{l:Nat}{jump:Option Code}{r:Loop}{Hs T:ai}:aF P B R (Hs++(l,.loop r)::T) (Instr.endRound l jump) λ v R' H'=>v = .bool jump.isNone∧R'=R∧H'=Hs++(l,.loop { r with state:=if jump.isNone then .ready else .done,pending:=jump })::T:=by
 unfold Instr.endRound
 exact aF.b9 (aF.getLoop (by simp) (aF.b9 (aF.setObj rfl rfl cF.at_ (aF.cf ⟨rfl,rfl,rfl⟩))))
theorem OQ{l:Nat}{r:Loop}{Hs T:ai}(hb:(r.state == .busy)=false):aF P B R (Hs++(l,.loop r)::T) (Instr.endLoop l) λ v R' H'=>v=r.pending∧R'=R∧H'=Hs++(l,.loop { r with state:=.exhausted })::T:=by
 unfold Instr.endLoop
 refine aF.b9 (aF.getLoop (r:=r) (by simp) ?_)
 simp only [hb]
 exact aF.b9 (aF.setObj rfl rfl cF.at_ (aF.cf ⟨rfl,rfl,rfl⟩))
theorem OP{l:Nat}{r:Loop}{H':ai}(b:cF H l (.loop r) (.loop { r with state:=.busy }) H')(f:r.state = .ready):aF P B R H (do Instr.beginRound l; pure Next.skip) λ v bR cq=>v = .skip∧bR=R∧cq=H':=by
 unfold Instr.beginRound
 refine aF.b9 (aF.b9 (aF.getLoop b.mem (aF.b9 (aF.setObj rfl rfl b ?_))))
 simp only [f]
 exact aF.cf (aF.cf ⟨rfl,rfl,rfl⟩)
theorem U.beginRound{l:Nat}{r:Loop}{H':ai}(j:c.ro=some l)(b:(c.kind == CallKind.early)=false)(p:cF H l (.loop r) (.loop { r with state:=.busy }) H')(f:r.state = .ready)(h:U ab c R H' st k):U ab c R H st (.beginRound::k):=λ tmps s=>by
 refine ab.step rfl λ w hw=>?_
 obtain ⟨v,w',R',cq,h1,h2,h3,rfl,rfl,rfl⟩:=OP (P:=P) p f w hw
 refine ⟨aO (aN c tmps k) c.cs,w',seen P c.fn ((do Instr.beginRound l; pure Next.skip:Sem Next).events P w #[]),R',cq,?_,λ e he=>h2 e (mem_seen he),h3,h tmps s⟩
 have e:=uI (P:=P) (fr:=aN c tmps (.beginRound::k)) (cs:=c.cs) (by simpa [aN] using b) h1
 simpa [stepG,stepG.exec,aO,aN,j,Frame.finish] using e
def Leaves(todo:List Item)(jump:Option Code):Prop :=
 (todo=[]∧jump=none)∨(∃ b,todo = .code .ret::b∧jump=some .ret)∨(∃ id b,todo = .code (.exit id)::b∧exitTo id b=none∧jump=some (.exit id))
theorem AT{l f:Nat}{n:Nat}{cs:List Frame}{fr:Frame}{tmps:Array Value}{todo:List Item}{jump:Option Code}{r:Loop}{Hs T:ai}(hl:Leaves todo jump)
  (h:ab.J R (Hs++(l,.loop { r with state:=if jump.isNone then .ready else .done,pending:=jump })::T) (aO (fr.finish (.bool jump.isNone)) cs)) :
  ab.J R (Hs++(l,.loop r)::T) (aO (aN ⟨f,.normal,some l,n,[],fr::cs⟩ tmps todo) (fr::cs)):=by
 refine ab.step rfl λ w hw=>?_
 obtain ⟨v,w',R',H',h1,h2,h3,rfl,rfl,rfl⟩:=OR (P:=P) (jump:=jump) w hw
 refine ⟨aO (fr.finish (.bool jump.isNone)) cs,w',seen P f ((Instr.endRound l jump).events P w #[]),R',_,?_,λ e he=>h2 e (mem_seen he),h3,h⟩
 rcases hl with ⟨rfl,rfl⟩ | ⟨j,rfl,rfl⟩ | ⟨id,j,rfl,b,rfl⟩
 ·simp at h1; simp [stepG,stepG.exec,aN,h1,doReturn,GStep.after,aO]
 ·simp at h1; simp [stepG,stepG.exec,aN,h1,doReturn,GStep.after,aO]
 ·simp at h1; simp [stepG,stepG.exec,aN,h1,b,doReturn,GStep.after,aO]
def jo(fn:FuncId)(tmps:Array Value)(t:Tmp)(assign body:Code)(d:Nat):Loop:={ state:=.ready,pending:=none,fn,tmps,params:=#[t],assign,body,defers:=d }
theorem xn{p:Nat × Obj}{Hf Hs D:ai}:List.Perm (Hs++p::(Hf++D)) (Hf++(Hs++p::D)):=by
 have h1:List.Perm (Hs++p::(Hf++D)) (p::(Hs++(Hf++D))):=List.perm_middle
 have h2:List.Perm (Hf++(Hs++p::D)) (p::(Hf++(Hs++D))):=by
  rw [← List.append_assoc,← List.append_assoc]
  exact List.perm_middle
 refine h1.trans (List.Perm.trans (List.Perm.cons _ ?_) h2.symm)
 rw [← List.append_assoc,← List.append_assoc]
 exact List.perm_append_comm.append_right D
section
variable {α S O:Type} {A:gl α} {body:α→S→Option (S ⊕ O)} {t:Tmp} {assign eL:Code}
 (I:S→ax→ai→ai→Prop) (E:O→ax→ai→ai→Prop) (jc:O→Code)
def RInv(R:ax)(l:Nat)(r:Loop)(D:ai):S ⊕ O→ax→ai→Prop
 | .inl s,R',Hy=>aJ R R'∧I s R' ((l,.loop r)::D) Hy
 | .inr o,R',Hy=>aJ R R'∧E o R' ((l,.loop { r with state:=.done,pending:=some (jc o) })::D) Hy
def yi(ab:Jd P B main)(c:Ctx)(R:ax)(H:ai)(st:St)(A:gl α)(body:α→S→Option (S ⊕ O))(t:Tmp)(assign eL:Code):Prop :=
 ∀ (va:Value) (x:α) (s:S) (z:S ⊕ O) (R':ax) (T H':ai) (l:Nat) (ld:Loop) (cs:List Frame),aJ R R'→List.Sublist H T→A R' x va→I s R' ((l,.loop ld)::T) H'→ld.state = .ready→body x s=some z →
  (∀ s' bR cq b,z = .inl s'→aJ R' bR→I s' bR ((l,.loop { ld with state:=.busy })::T) cq→U ab ⟨c.fn,.normal,some l,c.n,[],cs⟩ bR cq b []) →
  (∀ o bR cq b f,z = .inr o→aJ R' bR→E o bR ((l,.loop { ld with state:=.busy })::T) cq→Leaves (.code (jc o)::f) (some (jc o))→U ab ⟨c.fn,.normal,some l,c.n,[],cs⟩ bR cq b (.code (jc o)::f)) →
  U ab ⟨c.fn,.normal,some l,c.n,[],cs⟩ R' H' ((t,va)::st) [.code assign,.beginRound,.code eL]
variable {I E jc}
theorem Ir{D:ai}{l:Nat}{d:Nat}{tmps:Array Value}(p:∀ s,Shape (I s))(K:∀ o,Shape (E o))(Y:bV c.n st tmps)(hd:Nat.blt t c.n=true)(U:List.Sublist H D)
  (hb:yi I E jc ab c R H st A body t assign eL) :
  fz ab R A (.func (.yield l) #[] #[]) (cY body) (RInv I E jc R l (jo c.fn tmps t assign eL d) D) where
 fn:=⟨l,rfl⟩
 mono:=by
  intro s R1 R2 Hy h1 h2 b
  cases s with
  | inl s =>
   obtain ⟨j,b⟩:=b
   obtain ⟨Hs,rfl,h⟩:=p s _ _ _ b
   exact ⟨j.trans h2,h _ _ h2⟩
  | inr o =>
   obtain ⟨j,b⟩:=b
   obtain ⟨Hs,rfl,h⟩:=K o _ _ _ b
   exact ⟨j.trans h2,h _ _ h2⟩
 call:=by
  intro Hf R' Hy s x va z u b Q F
  cases s with
  | inr o=>cases F
  | inl s =>
   simp only [cY,Option.map_eq_some_iff] at F
   obtain ⟨ad,Z,rfl⟩:=F
   obtain ⟨j,b⟩:=b
   obtain ⟨Hs,rfl,X⟩:=p s _ _ _ b
   refine ⟨l,jo c.fn tmps t assign eL d,rfl,by simp,rfl,λ fr cs L=>?_⟩
   refine J.perm (H':=Hs++(l,.loop (jo c.fn tmps t assign eL d))::(Hf++D)) xn ?_
   have W:bV c.n ((t,va)::st) (((jo c.fn tmps t assign eL d).params.zip #[va]).foldl (λ tmps (t,a)=>tmps.setIfInBounds t a) (jo c.fn tmps t assign eL d).tmps):=by
    have:=Y.put (dst:=some t) va hd
    simpa [jo,bC,c7] using this
   refine hb va x s ad R' (Hf++D) _ l (jo c.fn tmps t assign eL d) (fr::cs) u (U.trans (List.sublist_append_right _ _)) Q (X R' _ (aJ.refl _)) rfl Z (λ s' bR cq aa G f V=>?_) (λ o bR cq aa ae G f T hl=>?_) _ W
   ·subst G
    obtain ⟨M,rfl,w⟩:=p s' _ _ _ V
    intro ac _
    refine AT (jump:=none) (.inl ⟨rfl,rfl⟩) ?_
    refine J.perm xn.symm ?_
    exact L _ _ _ ⟨f,rfl,_,⟨u.trans f,w bR _ (aJ.refl _)⟩,rfl⟩
   ·subst G
    obtain ⟨M,rfl,w⟩:=K o _ _ _ T
    intro ac _
    refine AT (jump:=some (jc o)) hl ?_
    refine J.perm xn.symm ?_
    exact L _ _ _ ⟨f,rfl,_,⟨u.trans f,w bR _ (aJ.refl _)⟩,rfl⟩
theorem OS{fn:FuncId}{tmps:Array Value}{b:Array Tmp}{assign eL:Code}:aF P B R H (Instr.enterLoop fn tmps b assign eL none) λ q R' H'=>R'=R∧∃ r,q.2=[⟨.collected r,#[]⟩]∧H'=(q.1,.loop ⟨.ready,none,fn,tmps,b,assign,eL,r⟩)::(r,.deferred (some []))::H:=by
 unfold Instr.enterLoop
 refine aF.b9 (aF.new λ r _ _=>aF.b9 (aF.cf ?_))
 refine aF.b9 (aF.new λ l _ _=>aF.cf ?_)
 exact ⟨rfl,r,rfl,rfl⟩
theorem U.G7{x:Operand}{f:FuncId}{first cap:Array Value}(W:aU st x=some (.func (.func f) first cap))(he:aV P f)(M:(c.kind == CallKind.early)=false){K:Nat × List Deferred→ax→ai→Prop}
  (G:∀ tmps,aF P B R H (Instr.enterLoop c.fn tmps #[t] assign eL c.ro) λ q R' H'=>R'=R∧∃ d b,H'=(q.1,.loop (jo c.fn tmps t assign eL d))::b∧K q R b)
  (h:∀ l mark d b tmps,bV c.n st tmps→K (l,mark) R b→ab.J R ((l,.loop (jo c.fn tmps t assign eL d))::b) (aO (Frame.enter P f (first++#[.func (.yield l) #[] #[]]++cap) .normal) (aN ⟨c.fn,c.kind,c.ro,c.n,mark++c.defers,c.cs⟩ tmps (.inRangeFunc l::k)::c.cs))) :
  U ab c R H st (.code (.rangeFunc x #[t] assign eL)::k):=by
 intro tmps p
 refine ab.step rfl λ w hw=>?_
 obtain ⟨⟨l,mark⟩,w',R',H',h1,h2,h3,rfl,d,b,rfl,z⟩:=G tmps w hw
 have T:=p.knows ⟨c.fn,c.kind,c.ro,c.n,mark++c.defers,c.cs⟩ (.inRangeFunc l::k)
 have V:ah P (do let d ← resolve (aN ⟨c.fn,c.kind,c.ro,c.n,mark++c.defers,c.cs⟩ tmps (.inRangeFunc l::k)).eval { callee:=.value x,args:=#[.const (.func (.yield l) #[] #[])],argTypes:=#[] } 0; invoke d.target d.args) (.enter f (first++#[.func (.yield l) #[] #[]]++cap)):=by
  obtain ⟨fn,e1,s,u⟩:=he.ex
  simp only [resolve,T x _ W,Deferred.ofValue]
  refine ah.ba (a:=⟨.fn (.func f) cap,first++#[.func (.yield l) #[] #[]]⟩) (by simpa [Frame.eval] using ah.a0 _) ?_
  simp only [invoke]
  exact n9 e1 s u
 have L:=h l mark d b tmps p z
 refine ⟨_,w',seen P c.fn ((Instr.enterLoop c.fn tmps #[t] assign eL c.ro).events P w #[]),R',_,?_,λ e F=>h2 e (mem_seen F),h3,L⟩
 have j:=V w'
 simp only [aN] at j
 have Q:(c.kind == CallKind.early)=false:=M
 simp [stepG,stepG.exec,stepG.apply,aO,aN,h1,j.1,j.2,GStep.after,Q,seen]
theorem U.zB{l:Nat}{r:Loop}{Hs T:ai}{pend:Option Code}(hb:(r.state == .busy)=false)(b:r.pending=pend)(h:U ab c R (Hs++T) st ((pend.map Item.code).toList++k)):U ab c R (Hs++(l,.loop r)::T) st (.endRangeFunc l::k):=λ tmps f=>by
 subst b
 refine ab.step rfl λ w hw=>?_
 obtain ⟨v,w',R',H',h1,h2,h3,rfl,rfl,rfl⟩:=OQ (P:=P) hb w hw
 refine ⟨aO (aN c tmps ((r.pending.map Item.code).toList++k)) c.cs,w',seen P c.fn ((Instr.endLoop l).events P w #[]),R',_,?_,λ e he=>h2 e (mem_seen he),h3,J.drop ?_ (h tmps f)⟩
 ·simp [stepG,stepG.exec,aO,aN,h1,GStep.after]
 ·exact (List.sublist_cons_self _ _).append_left _
theorem H3{tmps:Array Value}{l:Nat}{w:Value}:(aN c tmps (.inRangeFunc l::k)).finish w=aN c tmps (.endRangeFunc l::k):=rfl
theorem U.Cy{Q:Type}{iL:(α→(S ⊕ O)→Option ((S ⊕ O) × Bool))→(S ⊕ O)→Option (S ⊕ O)}{cont:S ⊕ O→Option Q}{s0:S}{rr:Q}{x:Operand}{f:FuncId}{first cap:Array Value}{H1:ai}
  (W:(iL (cY body) (.inl s0)).bind cont=some rr) (ae:aU st x=some (.func (.func f) first cap)) (he:aV P f) (Z:(c.kind == CallKind.early)=false) (p:c.ro=none) (hd:Nat.blt t c.n=true)
  (I:S→ax→ai→ai→Prop) (E:O→ax→ai→ai→Prop) (jc:O→Code) (h:∀ s,Shape (I s)) (G:∀ o,Shape (E o))
  (aa:∀ v Inv Hy z,fz ab R A v (cY body) Inv→Inv (.inl s0) R Hy→iL (cY body) (.inl s0)=some z→aP ab f (first++#[v]++cap) R Hy λ _ R' H'=>aJ R R'∧Inv z R' H')
  (V:I s0 R H H1)
  (X:∀ r s R' H',aJ R R'→I s R' ((r,.deferred (some []))::H) H'→cont (.inl s)=some rr→U ab ⟨c.fn,c.kind,none,c.n,⟨.collected r,#[]⟩::c.defers,c.cs⟩ R' H' st k)
  (af:∀ r o R' H',aJ R R'→E o R' ((r,.deferred (some []))::H) H'→cont (.inr o)=some rr→U ab ⟨c.fn,c.kind,none,c.n,⟨.collected r,#[]⟩::c.defers,c.cs⟩ R' H' st (.code (jc o)::k))
  (hb:yi I E jc ab c R H st A body t assign eL) :
  U ab c R H1 st (.code (.rangeFunc x #[t] assign eL)::k):=by
 obtain ⟨z,hm,M⟩:=ag W
 refine U.G7 ae he Z (K:=λ q R' F=>∃ r,q.2=[⟨.collected r,#[]⟩]∧F=(r,.deferred (some []))::H1) (λ tmps=>?_) ?_
 ·rw [p]
  exact OS.mono λ q R' H' ⟨h1,r,h2,h3⟩=>⟨h1,r,_,h3,r,h2,rfl⟩
 rintro l mark d F tmps w ⟨r,j,rfl⟩
 have j:mark=[⟨.collected r,#[]⟩]:=j
 subst j
 obtain ⟨Hs,rfl,ac⟩:=h s0 _ _ _ V
 have Y:fz ab R A (.func (.yield l) #[] #[]) (cY body) (RInv I E jc R l (jo c.fn tmps t assign eL d) ((r,.deferred (some []))::H)):=Ir h G w hd (List.sublist_cons_self _ _) hb
 refine J.perm (H':=Hs++(l,.loop (jo c.fn tmps t assign eL d))::(r,.deferred (some []))::H) ?_ ?_
 ·exact List.perm_middle.trans (List.Perm.cons _ List.perm_middle)
 refine aa _ _ _ z Y ⟨aJ.refl R,ac R _ (aJ.refl R)⟩ hm _ _ λ v R' H' ad=>?_
 rw [H3]
 obtain ⟨L,b⟩:=ad
 cases z with
 | inl s =>
  obtain ⟨_,b⟩:=b
  obtain ⟨T,rfl,u⟩:=h s _ _ _ b
  rw [p]
  exact U.zB (c:=⟨c.fn,c.kind,none,c.n,⟨.collected r,#[]⟩::c.defers,c.cs⟩) rfl rfl (X r s R' _ L (u R' _ (aJ.refl R')) M) tmps w
 | inr o =>
  obtain ⟨_,b⟩:=b
  obtain ⟨T,rfl,u⟩:=G o _ _ _ b
  rw [p]
  exact U.zB (c:=⟨c.fn,c.kind,none,c.n,⟨.collected r,#[]⟩::c.defers,c.cs⟩) rfl rfl (af r o R' _ L (u R' _ (aJ.refl R')) M) tmps w
theorem U.xr{j:Type}{body:α→S→Option (S ⊕ Empty)}(iL:(α→(S ⊕ Empty)→Option ((S ⊕ Empty) × Bool))→(S ⊕ Empty)→Option (S ⊕ Empty)){f:S→Option j}{g:Empty→Option j}{s0:S}{rr:j}{x:Operand}{b:FuncId}{first cap:Array Value}{H1:ai}
  (F:(iL (cY body) (.inl s0)).bind (Sum.elim f g)=some rr) (M:aU st x=some (.func (.func b) first cap)) (he:aV P b) (J:(c.kind == CallKind.early)=false) (K:c.ro=none) (hd:Nat.blt t c.n=true)
  (I:S→ax→ai→ai→Prop) (w:∀ s,Shape (I s))
  (L:∀ v Inv Hy z,fz ab R A v (cY body) Inv→Inv (.inl s0) R Hy→iL (cY body) (.inl s0)=some z→aP ab b (first++#[v]++cap) R Hy λ _ R' H'=>aJ R R'∧Inv z R' H')
  (p:I s0 R H H1)
  (G:∀ r s R' H',aJ R R'→I s R' ((r,.deferred (some []))::H) H'→f s=some rr→U ab ⟨c.fn,c.kind,none,c.n,⟨.collected r,#[]⟩::c.defers,c.cs⟩ R' H' st k)
  (hb:∀ (va:Value) (x:α) (s:S) (R':ax) (T H':ai) (l:Nat) (ld:Loop) (cs:List Frame),aJ R R'→List.Sublist H T→A R' x va→I s R' ((l,.loop ld)::T) H'→ld.state = .ready→∀ z,body x s=some z →
   (∀ s',z = .inl s'→∀ bR cq h,aJ R' bR→I s' bR ((l,.loop { ld with state:=.busy })::T) cq→U ab ⟨c.fn,.normal,some l,c.n,[],cs⟩ bR cq h []) →
   U ab ⟨c.fn,.normal,some l,c.n,[],cs⟩ R' H' ((t,va)::st) [.code assign,.beginRound,.code eL]) :
  U ab c R H1 st (.code (.rangeFunc x #[t] assign eL)::k) :=
 U.Cy (iL:=iL) F M he J K hd I (λ o=>o.elim) (λ o=>o.elim) w (λ o=>o.elim) L p G (λ _ o=>o.elim)
  (λ va x s z R' T H' l ld cs h1 h2 h3 h4 h5 h6 u _=>hb va x s R' T H' l ld cs h1 h2 h3 h4 h5 z h6 λ s' Q bR cq h=>u s' bR cq h Q)
theorem U.tR{u:Type}(iL:(α→(S ⊕ O)→Option ((S ⊕ O) × Bool))→(S ⊕ O)→Option (S ⊕ O)){f:S→Option u}{g:O→Option u}{s0:S}{rr:u}{x:Operand}{p:FuncId}{first cap:Array Value}{H1:ai}(jc:Code)
  (L:(iL (cY body) (.inl s0)).bind (Sum.elim f g)=some rr) (X:aU st x=some (.func (.func p) first cap)) (he:aV P p) (Q:(c.kind == CallKind.early)=false) (V:c.ro=none) (hd:Nat.blt t c.n=true)
  (I:S→ax→ai→ai→Prop) (E:O→ax→ai→ai→Prop) (K:∀ s,Shape (I s)) (J:∀ s,Shape (E s))
  (W:∀ v Inv Hy z,fz ab R A v (cY body) Inv→Inv (.inl s0) R Hy→iL (cY body) (.inl s0)=some z→aP ab p (first++#[v]++cap) R Hy λ _ R' H'=>aJ R R'∧Inv z R' H')
  (w:I s0 R H H1)
  (M:∀ r s R' H',aJ R R'→I s R' ((r,.deferred (some []))::H) H'→f s=some rr→U ab ⟨c.fn,c.kind,none,c.n,⟨.collected r,#[]⟩::c.defers,c.cs⟩ R' H' st k)
  (h:∀ r o R' H',aJ R R'→E o R' ((r,.deferred (some []))::H) H'→g o=some rr→U ab ⟨c.fn,c.kind,none,c.n,⟨.collected r,#[]⟩::c.defers,c.cs⟩ R' H' st (.code jc::k))
  (hb:∀ (va:Value) (x:α) (s:S) (R':ax) (T H':ai) (l:Nat) (ld:Loop) (cs:List Frame),aJ R R'→List.Sublist H T→A R' x va→I s R' ((l,.loop ld)::T) H'→ld.state = .ready→∀ z,body x s=some z →
   (∀ s',z = .inl s'→∀ bR cq b,aJ R' bR→I s' bR ((l,.loop { ld with state:=.busy })::T) cq→U ab ⟨c.fn,.normal,some l,c.n,[],cs⟩ bR cq b []) →
   (∀ o,z = .inr o→∀ bR cq b j,aJ R' bR→E o bR ((l,.loop { ld with state:=.busy })::T) cq→Leaves (.code jc::j) (some jc)→U ab ⟨c.fn,.normal,some l,c.n,[],cs⟩ bR cq b (.code jc::j)) →
   U ab ⟨c.fn,.normal,some l,c.n,[],cs⟩ R' H' ((t,va)::st) [.code assign,.beginRound,.code eL]) :
  U ab c R H1 st (.code (.rangeFunc x #[t] assign eL)::k) :=
 U.Cy (iL:=iL) L X he Q V hd I E (λ _=>jc) K J W w M h
  (λ va x s z R' T H' l ld cs h1 h2 h3 h4 h5 h6 F G=>hb va x s R' T H' l ld cs h1 h2 h3 h4 h5 z h6 (λ s' h bR cq b=>F s' bR cq b h) (λ o h bR cq b j=>G o bR cq b j h))
theorem OU{r:Nat}{H':ai}(b:cF H r (.deferred (some [])) (.deferred none) H'):aF P B R H (Instr.takeDeferred r) λ v bR cq=>v=[]∧bR=R∧cq=H':=by
 unfold Instr.takeDeferred
 exact aF.b9 (aF.getObj rfl (.inr b.mem) (aF.b9 (aF.setObj rfl rfl b (aF.cf ⟨rfl,rfl,rfl⟩))))
theorem Of{fr:Frame}{cs:List Frame}{f:FuncId}{n r:Nat}{H':ai}{tmps:Array Value}{todo:List Item}(b:cF H r (.deferred (some [])) (.deferred none) H')
  (h:ab.J R H' (aO { (aN ⟨f,.normal,none,n,[],fr::cs⟩ tmps todo) with mode:=.returning } (fr::cs))) :
  ab.J R H (aO { (aN ⟨f,.normal,none,n,[⟨.collected r,#[]⟩],fr::cs⟩ tmps todo) with mode:=.returning } (fr::cs)):=by
 refine ab.step rfl λ w hw=>?_
 obtain ⟨v,w',R',H',h1,h2,h3,rfl,rfl,rfl⟩:=OU (P:=P) b w hw
 refine ⟨_,w',seen P f ((Instr.takeDeferred r).events P w #[]),R',_,?_,λ e he=>h2 e (mem_seen he),h3,h⟩
 simp [stepG,unwind,aO,aN,h1,GStep.after]
theorem Oe{fr:Frame}{cs:List Frame}{f:FuncId}{n:Nat}{fn:Func}{vs:List Value}{tmps:Array Value}{todo:List Item}(b:P.funcs[f]? = some fn)(p:bV n st tmps)(j:gT P R H st fn.results.toList vs)(h:ab.J R H (aO (fr.finish (dZ vs)) cs)) :
  ab.J R H (aO { (aN ⟨f,.normal,none,n,[],fr::cs⟩ tmps todo) with mode:=.returning } (fr::cs)):=by
 refine ab.step rfl λ w hw=>?_
 obtain ⟨v,w',R',H',h1,h2,h3,rfl,rfl,rfl⟩:=tV (P:=P) p j w hw
 refine ⟨aO (fr.finish (dZ vs)) cs,w',seen P f ((results fn tmps).events P w #[]),R',H',?_,λ e he=>h2 e (mem_seen he),h3,h⟩
 simp [stepG,unwind,doReturn,aO,aN,b,h1,GStep.after]
theorem U.jI{fr:Frame}{cs:List Frame}{f:FuncId}{n r:Nat}{H':ai}{fn:Func}{vs:List Value}(p:cF H r (.deferred (some [])) (.deferred none) H')(b:P.funcs[f]? = some fn)(j:gT P R H' st fn.results.toList vs)(h:ab.J R H' (aO (fr.finish (dZ vs)) cs)) :
  U ab ⟨f,.normal,none,n,[⟨.collected r,#[]⟩],fr::cs⟩ R H st (.code .ret::k):=λ tmps s=>by
 refine Jd.ctl (g':=aO { (aN ⟨f,.normal,none,n,[⟨.collected r,#[]⟩],fr::cs⟩ tmps (.code .ret::k)) with mode:=.returning } (fr::cs)) rfl (λ w=>by simp [stepG,stepG.exec,aO,aN]) ?_
 exact Of p (Oe b s j h)
end
theorem aP.hole{f:FuncId}{args:Array Value}{G:ai→ai}{Hs:ai}(j:fj G){Q:Value→ax→ai→Prop}(h:aP ab f args R (Hs++G []) λ v R' H'=>∃ b,Q v R' b∧H'=b++G []) :
  aP ab f args R (G Hs) λ v R' H'=>∃ b,Q v R' b∧H'=G b:=by
 obtain ⟨A,D,j⟩:=j
 have key:∀ X:ai,List.Perm (X++G []) (G X):=λ X=>by
  rw [j,j,List.nil_append,← List.append_assoc,← List.append_assoc]
  exact List.perm_append_comm.append_right D
 intro fr cs p
 refine J.perm (key Hs) (h fr cs λ v R' H' u=>?_)
 obtain ⟨b,s,rfl⟩:=u
 exact J.perm (key b).symm (p v R' _ ⟨b,s,rfl⟩)
theorem Ox.jU{x y:Operand}{t u e:TypeId}{o:Oper}{C:ax→ai→St→Prop}{A:Option Addr}{n cap:Nat}{b:Bool}{st':St}(j:o.op = .binOp .eql t x y u)(F:aU st x=some (.slice A n cap))(G:aU st y=some (.slice none 0 0))(z:P.underlying t=some (.slice e))(hb:A.isNone=b)
  (hd:bA o.dst c.n) (w:aA (bC o.dst (.bool b) st) st') (h:C R H st'):aS P B c o R H st C :=
 Ox.fb (s:=λ f=>do eqGuard .eql t x y (f x) (f y); binOp .eql t (f x) (f y)) (by rw [j]; rfl) hd (λ f=>by simp only [execOp,j]) (λ f p=>by
  rw [p x _ F,p y _ G]
  refine ah.ba (a:=()) (ah.a0 _) ?_
  simp only [binOp]
  refine ah.ba (a:=b) ?_ (ah.a0 _)
  unfold Op.equal Op.maxDepth Op.equalIn
  refine ah.ba (ah.underlying z) ?_
  cases A with
  | none=>subst hb; exact ah.a0 _
  | some a=>subst hb; exact ah.a0 _) w h
theorem bO.q4{α:Type}{K:bH α}{k:Nat}{v:Value}{xs:List α}(h:bO K k R H v xs):(∃ cap,v = .slice none 0 cap∧xs=[])∨∃ a n cap,v = .slice (some a) n cap:=by
 obtain ⟨A,cap,es,rfl,h2,h3,h4⟩:=h
 cases A with
 | some a=>exact .inr ⟨a,_,cap,rfl⟩
 | none =>
  cases xs with
  | nil=>exact .inl ⟨cap,rfl,rfl⟩
  | cons x xs =>
   obtain ⟨b,o,g,_⟩:=h4 (by simp)
   cases g
theorem Ox.nc{x y:Operand}{t e len:Nat}{cs:Array Value}{v:Value}{kd:IntKind}{i:Int}{o:Oper}{C:ax→ai→St→Prop}{st':St}(f:o.op = .index t x y)(z:aU st x=some (.agg cs))(F:aU st y=some (.int kd i))(j:jb P t len e 1)(he:ah P (isAgg e) false)(hi:0≤i∧i < len)(w:cs[i.toNat * 1]? = some v)
  (hd:bA o.dst c.n) (u:aA (bC o.dst v st) st') (h:C R H st'):aS P B c o R H st C :=
 Ox.fb (s:=λ b=>Instr.index t (b x) (b y)) (by rw [f]; rfl) hd (λ b=>by simp only [execOp,f]) (λ b p=>by
  rw [p x _ z,p y _ F]
  unfold Instr.index
  refine ah.ba (a:=(kd,i)) (ah.a0 _) (ah.ba (ah.underlying j.1) ?_)
  simp only [hi,and_self,if_true]
  refine ah.ba j.2 ?_
  unfold part
  refine ah.ba he ?_
  simp only [w]
  exact ah.a0 _) u h
theorem U.hy{todo:List Item}{b:Nat}{cs:Array Value}{e:TypeId}{j:Nat × Nat}(G:ai→ai)(f:fj G){H2:ai}(h2:G []=H2)(h:∀ R',aJ R R'→aH R' [] b 0 cs.toList→U ab c R' H2 st todo):U ab c R (G [(b,.cells cs e j)]) st todo:=by
 obtain ⟨A,D,f⟩:=f
 refine U.perm (H':=(b,.cells cs e j)::(A++D)) ?_ (U.freeze λ R' s hb=>?_)
 ·rw [f]; exact List.perm_middle.symm
 ·have p:A++D=H2:=by rw [← h2,f]; rfl
  rw [p]
  exact h R' s (aH.known (n:=cs.toList.length) hb (by rw [List.drop_zero,List.take_length]))
def mY(ab:Jd P B main)(R:ax){α S:Type}(A:gl α)(v:Value)(q:(α→S→Option (S × Bool))→S→Option S):Prop :=
 ∃ b first cap,v = .func (.func b) first cap∧aV P b∧∀ R',aJ R R'→∀ (w:Value) (y:α→S→Option (S × Bool)) (Inv:S→ax→ai→Prop) (Hy:ai) (s z:S),fz ab R' A w y Inv→Inv s R' Hy→q y s=some z →
  aP ab b (first++#[w]++cap) R' Hy λ _ bR H'=>aJ R' bR∧Inv z bR H'
theorem mY.mono{R':ax}{α S:Type}{A:gl α}{v:Value}{q:(α→S→Option (S × Bool))→S→Option S}(h:mY ab R A v q)(f:aJ R R'):mY ab R' A v q:=by
 obtain ⟨b,first,cap,h1,h2,h3⟩:=h
 exact ⟨b,first,cap,h1,h2,λ bR j=>h3 bR (f.trans j)⟩
theorem fz.frame{α S:Type}{A:gl α}{v:Value}{y:α→S→Option (S × Bool)}{Inv:S→ax→ai→Prop}(h:fz ab R A v y Inv)(Hf:ai):fz ab R A v y λ s R' H'=>∃ Hy,Inv s R' Hy∧H'=Hf++Hy where
 fn:=h.fn
 mono:=λ h1 h2 ⟨Hy,hi,e⟩=>⟨Hy,h.mono h1 h2 hi,e⟩
 call:=by
  intro H2 R' Hy s x va z j b f p
  obtain ⟨Hy,b,rfl⟩:=b
  have:=h.call (H2++Hf) j b f p
  rw [List.append_assoc] at this
  refine this.mono λ w bR cq ⟨h1,h2,lO,h3,h4⟩=>⟨h1,h2,Hf++lO,⟨lO,h3,rfl⟩,by rw [h4,List.append_assoc]⟩
theorem Ox.nilCheck{x:Operand}{a:Addr}{o:Oper}{C:ax→ai→St→Prop}{st':St}(b:o.op = .nilCheck x)(j:aU st x=some (.pointer (some a)))(hd:bA o.dst c.n)
  (f:aA (bC o.dst (.pointer (some a)) st) st') (h:C R H st'):aS P B c o R H st C :=
 Ox.val (by rw [b]; rfl) hd (λ s p=>by simp only [execOp,b,p x _ j]; exact ah.a0 _) f h
def many(a:ai):List (Nat × ai)→Nat→ai
 | [],_=>a
 | (q,l)::r,j=>if j=q then l else many a r j
section
variable {a N:ai} {ex:List (Nat × ai)} {rem D:List Nat} {i q:Nat} {l H':ai}
theorem a4(b:∀ p∈N,p∈a):∀ j∈rem,j≠i→j ∉ D→∀ p∈N,p∈many a [] j:=λ _ _ _ _ p f=>b p f
theorem aI(hd:(D.contains q || q == i || !rem.contains q)=true)(h:∀ j∈rem,j≠i→j ∉ D→∀ p∈N,p∈many a ex j):∀ j∈rem,j≠i→j ∉ D→∀ p∈N,p∈many a ((q,l)::ex) j:=by
 intro j b s f p u
 unfold many
 split
 ·subst_vars
  simp only [Bool.or_eq_true,Bool.not_eq_true',List.contains_iff_mem,beq_iff_eq] at hd
  rcases hd with (x | x) | x
  ·exact absurd x f
  ·exact absurd x s
  ·have:rem.contains j=true:=List.contains_iff_mem.2 b
   rw [this] at x; cases x
 ·exact h j b s f p u
theorem B4(hl:∀ p∈N,p∈l)(h:∀ j∈rem,j≠i→j ∉ D→∀ p∈N,p∈many a ex j):∀ j∈rem,j≠i→j ∉ D→∀ p∈N,p∈many a ((q,l)::ex) j:=by
 intro j f u s p b
 unfold many
 split
 ·exact hl p b
 ·exact h j f u s p b
theorem bZ(he:many a ex i=l)(h:∀ p∈l,p∈H'):∀ p∈many a ex i,p∈H→p∈H':=by
 rw [he]; exact λ p b _=>h p b
end
end
def di(p:Int):Value:=.int .i64 p
theorem sO{p b:Int}(h:di p=di b):p=b:=by
 simpa [di] using h
def fK(m:Int→Int)(p z:Int):Int→Int:=λ a=>if a=p then z else m a
structure lL (es:List MapEntry) (m:Int→Int) (clock:Nat):Prop where
 sj:∀ e∈es,∃ p,e.key=di p∧e.val = .int .i64 (m p)
 zero:∀ p,(∀ e∈es,e.key≠di p)→m p=0
 keys:∀ (i j:Nat) (a b:MapEntry),es[i]? = some a→es[j]? = some b→a.key=b.key→i=j
 old:∀ e∈es,e.born < clock
 yA:∀ (i j:Nat) (a b:MapEntry),es[i]? = some a→es[j]? = some b→a.born=b.born→i=j
def mU(v:Value)(m:Int→Int)(Hs:ai):Prop:=∃ b es clock,v = .map (some b)∧Hs=[(b,.map es clock)]∧lL es.toList m clock
structure rA (P:Program) (t kt et:TypeId):Prop where
 ty:P.underlying t=some (.map kt et)
 key:P.underlying kt=some (.int .i64)
 dM:∀ (e:Bool) (a:Int),ah P (Instr.checkKey e 10000 kt (di a)) ()
 zero:ah P (zeroValue et) (.int .i64 0)
section
variable {P:Program} {B:Base} {main:Bool} {ab:Jd P B main} {c:Ctx} {R:ax} {H:ai} {st st':St} {o:Oper} {C:ax→ai→St→Prop}
def DX(es:List MapEntry)(p:Int)(r:Option (Nat × Value)):Prop :=
 (r=none∧∀ e∈es,e.key≠di p)∨∃ (i:Nat) (e:MapEntry),es[i]? = some e∧e.key=di p∧r=some (i,e.val)
theorem Aq(p:Int):∀ (es:List MapEntry) (i:Nat),(∀ e∈es,∃ p,e.key=di p)→∃ r,Instr.findNow (.int .i64) (di p) es i=some r∧((r=none∧∀ e∈es,e.key≠di p)∨∃ (j:Nat) (e:MapEntry),es[j]? = some e∧e.key=di p∧r=some (i+j,e.val))
 | [],i,h=>⟨none,rfl,.inl ⟨rfl,λ e he=>(by cases he)⟩⟩
 | e::es,i,h=>by
  obtain ⟨w,b⟩:=h e (by simp)
  by_cases heq:p=w
  ·subst heq
   refine ⟨some (i,e.val),?_,.inr ⟨0,e,rfl,b,rfl⟩⟩
   unfold Instr.findNow
   rw [b]
   simp [di,Instr.sameNow]
  ·obtain ⟨r,u,f⟩:=Aq p es (i+1) (λ e he=>h e (by simp [he]))
   refine ⟨r,?_,?_⟩
   ·unfold Instr.findNow
    rw [b]
    simp only [di] at u ⊢
    have hb:(p == w)=false:=by simpa using heq
    simp [Instr.sameNow,hb,u]
   ·rcases f with ⟨rfl,f⟩ | ⟨j,z,h1,h2,rfl⟩
    ·refine .inl ⟨rfl,λ x s=>?_⟩
     rcases cJ.1 s with rfl | s
     ·intro F
      exact heq (sO (b.symm.trans F)).symm
     ·exact f x s
    ·exact .inr ⟨j+1,z,by simpa using h1,h2,by simp; omega⟩
theorem Dr{t kt et:TypeId}(z:rA P t kt et)(p:Int){es:List MapEntry}{m:Int→Int}{f:Nat}(h:lL es m f):∃ r,ah P (Instr.findKey kt (di p) es) r∧DX es p r:=by
 obtain ⟨r,w,b⟩:=Aq p es 0 (λ e he=>let ⟨p,u,_⟩:=h.sj e he; ⟨p,u⟩)
 refine ⟨r,?_,?_⟩
 ·unfold Instr.findKey
  refine ah.ba (ah.underlying z.key) ?_
  rw [w]
  exact ah.a0 _
 ·rcases b with b | ⟨j,s,h1,h2,h3⟩
  ·exact .inl b
  ·exact .inr ⟨j,s,h1,h2,by simpa using h3⟩
theorem Ox.MN{t:TypeId}(h:o.op = .makeMap t none)(hd:bA o.dst c.n)
  (hC:∀ v Hs,mU v (λ _=>0) Hs→∃ st',aA (bC o.dst v st) st'∧C R (Hs++H) st'):aS P B c o R H st C :=
 Ox.mem (s:=λ p=>Instr.makeMap t none) (by rw [h]; rfl) hd (λ p=>by simp only [execOp,h]; rfl) (λ p u=>by
  unfold Instr.makeMap
  refine aF.b9 (aF.new λ b _ _=>aF.cf ?_)
  exact hC (.map (some b)) [(b,.map #[] 0)] ⟨b,#[],0,rfl,rfl,⟨λ e he=>(by cases he),λ _ _=>rfl,λ i j a b f=>(by simp at f),λ e he=>(by cases he),λ i j a b f=>(by simp at f)⟩⟩)
theorem Ox.Ba{x y:Operand}{t kt et:TypeId}{v:Value}{m:Int→Int}{p:Int}{Hs:ai}(w:o.op = .lookup t x y false)(T:aU st x=some v)(U:aU st y=some (di p))(f:rA P t kt et)(hm:mU v m Hs)(G:∀ q∈Hs,q∈H)
  (hd:bA o.dst c.n) (u:aA (bC o.dst (.int .i64 (m p)) st) st') (h:C R H st'):aS P B c o R H st C :=
 Ox.mem (s:=λ j=>Instr.lookup t (j x) (j y) false) (by rw [w]; rfl) hd (λ j=>by simp only [execOp,w]) (λ j z=>by
  rw [z x _ T,z y _ U]
  unfold Instr.lookup
  refine ah.cr (ah.underlying f.ty) ?_
  obtain ⟨b,es,F,rfl,rfl,he⟩:=hm
  refine aF.b9 (aF.getObj rfl (.inr (G (b,.map es F) (by simp))) ?_)
  refine aF.b9 (aF.cf ?_)
  obtain ⟨r,M,J⟩:=Dr f p he
  refine ah.cr (f.dM _ p) (ah.cr M ?_)
  rcases J with ⟨rfl,L⟩ | ⟨i,e,h1,h2,rfl⟩
  ·refine ah.cr f.zero (aF.b9 (aF.cf (aF.cf ?_)))
   rw [he.zero p L] at u
   exact ⟨st',u,h⟩
  ·obtain ⟨V,K,Q⟩:=he.sj e (List.mem_of_getElem? h1)
   obtain rfl:=sO (K.symm.trans h2)
   rw [Q]
   exact aF.b9 (aF.cf (aF.cf ⟨st',u,h⟩)))
theorem OO(p:Int):Instr.sameBits 10000 (di p) (di p)=true:=by
 simp [Instr.sameBits,di]
theorem lL.push{es:Array MapEntry}{m:Int→Int}{s:Nat}{p z:Int}(h:lL es.toList m s)(F:∀ e∈es.toList,e.key≠di p) :
  lL (es.push { key:=di p,val:=.int .i64 z,born:=s }).toList (fK m p z) (s+1):=by
 rw [Array.toList_push]
 refine ⟨λ e he=>?_,λ w G=>?_,λ i j a b f hb u=>?_,λ e he=>?_,λ i j a b f hb u=>?_⟩
 ·rcases List.mem_append.1 he with he | he
  ·obtain ⟨w,h1,h2⟩:=h.sj e he
   refine ⟨w,h1,?_⟩
   unfold fK
   rw [if_neg (λ J=>F e he (by rw [h1,J])),h2]
  ·rcases List.mem_singleton.1 he with rfl
   exact ⟨p,rfl,by simp [fK]⟩
 ·have h1:=h.zero w λ e he=>G e (List.mem_append.2 (.inl he))
  unfold fK
  rw [if_neg,h1]
  rintro rfl
  exact G { key:=di w,val:=.int .i64 z,born:=s } (List.mem_append.2 (.inr (by simp))) rfl
 ·rw [List.getElem?_append] at f hb
  split at f <;> split at hb
  ·exact h.keys i j a b f hb u
  ·have:b={ key:=di p,val:=.int .i64 z,born:=s }:=by
    have:=List.mem_of_getElem? hb; simpa using this
   subst this
   exact absurd u (F a (List.mem_of_getElem? f))
  ·have:a={ key:=di p,val:=.int .i64 z,born:=s }:=by
    have:=List.mem_of_getElem? f; simpa using this
   subst this
   exact absurd u.symm (F b (List.mem_of_getElem? hb))
  ·have h1:=(dU.1 f).1
   have h2:=(dU.1 hb).1
   simp only [List.length_singleton,Array.length_toList] at *
   omega
 ·rcases List.mem_append.1 he with he | he
  ·have:=h.old e he; omega
  ·rcases List.mem_singleton.1 he with rfl
   exact Nat.lt_succ_self _
 ·rw [List.getElem?_append] at f hb
  split at f <;> split at hb
  ·exact h.yA i j a b f hb u
  ·have:b={ key:=di p,val:=.int .i64 z,born:=s }:=by
    have:=List.mem_of_getElem? hb; simpa using this
   subst this
   have:=h.old a (List.mem_of_getElem? f)
   simp only at u
   omega
  ·have:a={ key:=di p,val:=.int .i64 z,born:=s }:=by
    have:=List.mem_of_getElem? f; simpa using this
   subst this
   have:=h.old b (List.mem_of_getElem? hb)
   simp only at u
   omega
  ·have h1:=(dU.1 f).1
   have h2:=(dU.1 hb).1
   simp only [List.length_singleton,Array.length_toList] at *
   omega
theorem qm{α:Type}{a:Array α}{j:Nat}{x:α}(h:a.toList[j]? = some x):a[j]? = some x:=by rwa [Array.getElem?_toList] at h
theorem lL.iV{es:Array MapEntry}{m:Int→Int}{Q i:Nat}{p z:Int}{e:MapEntry}(he:lL es.toList m Q)(hi:es[i]? = some e)(F:e.key=di p) :
  lL (es.modify i λ e=>{ e with key:=di p,val:=.int .i64 z }).toList (fK m p z) Q:=by
 have s:∀ j a,(es.modify i λ e=>{ e with key:=di p,val:=.int .i64 z })[j]? = some a→∃ f,es[j]? = some f∧a.key=f.key∧a.born=f.born∧a.val=if i=j then .int .i64 z else f.val:=by
  intro j a b
  rw [Array.getElem?_modify] at b
  by_cases h:i=j
  ·subst h
   rw [hi] at b
   simp only [if_true,Option.map_some,eh] at b
   subst b
   exact ⟨e,hi,F.symm,rfl,by simp⟩
  ·simp only [h,if_false] at b
   exact ⟨a,b,rfl,rfl,by simp [h]⟩
 have T:∀ a∈(es.modify i λ e=>{ e with key:=di p,val:=.int .i64 z }).toList,∃ j,(es.modify i λ e=>{ e with key:=di p,val:=.int .i64 z })[j]? = some a:=λ a b=>by
  obtain ⟨j,h⟩:=List.mem_iff_getElem?.1 b
  exact ⟨j,qm h⟩
 refine ⟨λ a b=>?_,λ w U=>?_,λ j k a G b hb J=>?_,λ a b=>?_,λ j k a G b hb J=>?_⟩
 ·obtain ⟨j,h⟩:=T a b
  obtain ⟨f,h1,h2,h3,h4⟩:=s j a h
  obtain ⟨w,L,W⟩:=he.sj f (by rw [← Array.mem_def]; exact Array.mem_of_getElem? h1)
  refine ⟨w,h2.trans L,?_⟩
  rw [h4]
  by_cases u:i=j
  ·subst u
   rw [hi] at h1; cases h1
   obtain rfl:=sO (F.symm.trans L)
   simp [fK]
  ·rw [if_neg u,W]
   unfold fK
   rw [if_neg]
   rintro rfl
   exact u (he.keys i j e f (by simpa using hi) (by simpa using h1) (F.trans L.symm))
 ·unfold fK
  by_cases M:w=p
  ·subst M
   exfalso
   obtain ⟨Y,X⟩:=Array.getElem?_eq_some_iff.1 hi
   refine U { e with key:=di w,val:=.int .i64 z } ?_ rfl
   rw [← Array.mem_def]
   exact Array.mem_of_getElem? (i:=i) (by rw [Array.getElem?_modify]; simp [hi])
  ·rw [if_neg M]
   refine he.zero w λ a b=>?_
   obtain ⟨j,h⟩:=List.mem_iff_getElem?.1 b
   have K:es[j]? = some a:=by simpa using h
   by_cases u:i=j
   ·subst u
    rw [hi] at K; cases K
    intro V
    exact M (sO (F.symm.trans V)).symm
   ·exact U a (by rw [← Array.mem_def]; exact Array.mem_of_getElem? (i:=j) (by rw [Array.getElem?_modify]; simp [u,K]))
 ·obtain ⟨f,h1,h2,_⟩:=s j a (qm b)
  obtain ⟨b0,k1,k2,_⟩:=s k G (qm hb)
  exact he.keys j k f b0 (by simpa using h1) (by simpa using k1) (h2.symm.trans (J.trans k2))
 ·obtain ⟨j,h⟩:=T a b
  obtain ⟨f,h1,h2,h3,h4⟩:=s j a h
  rw [h3]
  exact he.old f (by rw [← Array.mem_def]; exact Array.mem_of_getElem? h1)
 ·obtain ⟨f,h1,_,h3,_⟩:=s j a (qm b)
  obtain ⟨b0,k1,_,k3,_⟩:=s k G (qm hb)
  exact he.yA j k f b0 (by simpa using h1) (by simpa using k1) (h3.symm.trans (J.trans k3))
theorem Ox.MP{x y u:Operand}{t kt et:TypeId}{v:Value}{m:Int→Int}{p z:Int}{Hs:ai}(G:ai→ai)(L:o.op = .mapUpdate t x y u)(V:aU st x=some v)(W:aU st y=some (di p))(X:aU st u=some (.int .i64 z))(w:rA P t kt et)(h:fj G)(hm:mU v m Hs)
  (hd:o.dst=none) (j:aA st st') (hC:∀ J,mU v (fK m p z) J→C R (G J) st'):aS P B c o R (G Hs) st C :=
 Ox.tB (s:=λ f=>Instr.mapUpdate t (f x) (f y) (f u)) (by rw [L]; rfl) hd (λ f=>by simp only [execOp,L]) j (λ f F=>by
  rw [F x _ V,F y _ W,F u _ X]
  unfold Instr.mapUpdate
  refine ah.cr (ah.underlying w.ty) ?_
  obtain ⟨b,es,M,rfl,rfl,he⟩:=hm
  refine aF.b9 (aF.getObj rfl (.inr (h.set (o':=.map es M)).mem) ?_)
  obtain ⟨r,U,Q⟩:=Dr w p he
  refine ah.cr (w.dM _ p) (ah.cr U ?_)
  rcases Q with ⟨rfl,T⟩ | ⟨i,e,h1,h2,rfl⟩
  ·exact aF.setObj rfl rfl h.set (hC _ ⟨b,_,_,rfl,rfl,he.push T⟩)
  ·have K:es[i]? = some e:=by simpa using h1
   have j:ah P (Instr.keyThatStays (((es[i]?).map (·.key)).getD (di p)) (di p)) (di p):=by
    rw [K]
    simp only [Option.map_some,gh,h2,Instr.keyThatStays,OO,if_true]
    exact ah.a0 _
   exact ah.cr j (aF.setObj rfl rfl h.set (hC _ ⟨b,_,_,rfl,rfl,he.iV K h2⟩)))
end
def dF{α:Type}(m:Nat)(xs:List α)(i:Int):Option (List α):=if 0≤i∧i.toNat * m+m≤xs.length then some ((xs.drop (i.toNat * m)).take m) else none
def e9{α:Type}(m:Nat)(xs:List α)(i k:Int)(x:α):List α:=xs.set (i.toNat * m+k.toNat) x
def ps{α:Type}(m:Nat)(xs:List α)(i:Int)(r:List α):List α:=xs.take (i.toNat * m)++(r++xs.drop (i.toNat * m+m))
section
variable {α:Type} {m n:Nat} {xs r g:List α} {i k:Int} {x y:α}
theorem lz(h:dF m xs i=some r):0≤i∧i.toNat * m+m≤xs.length∧r=(xs.drop (i.toNat * m)).take m:=by
 unfold dF at h
 split at h
 ·rename_i b; cases h; exact ⟨b.1,b.2,rfl⟩
 ·cases h
theorem gL(h:dF m xs i=some r):r.length=m:=by
 obtain ⟨_,h2,rfl⟩:=lz h
 simp only [fh,List.length_drop]
 omega
theorem pv(h:xs.length=n):(e9 m xs i k x).length=n:=by simpa [e9] using h
theorem OW(h:dF m xs i=some r)(f:xs.length=n)(b:g.length=m):(ps m xs i g).length=n:=by
 obtain ⟨_,h2,_⟩:=lz h
 simp only [ps,fg,fh,List.length_drop]
 omega
theorem jX{P:Program}{t e len K b o:Nat}(f:jb P t len e K)(hl:xs.length=len * m)(hm:0 < m)(h:dF m xs i=some r):ks P t (.pointer (some ⟨b,o,none⟩)) i b (o+i.toNat * K):=by
 obtain ⟨h1,h2,_⟩:=lz h
 refine Az f ⟨h1,?_⟩
 rw [hl] at h2
 have h3:(i.toNat+1) * m≤len * m:=by rw [Nat.add_mul]; omega
 have:=Nat.le_of_mul_le_mul_right h3 hm
 omega
theorem OK{pre post:List Value}{f:α→Value}{p:Nat}(h:dF m xs i=some r)(b:pre.length=p):∃ a c,pre++(xs.map f++post)=a++(r.map f++c)∧a.length=p+i.toNat * m:=by
 obtain ⟨_,h2,rfl⟩:=lz h
 refine ⟨pre++(xs.take (i.toNat * m)).map f,(xs.drop (i.toNat * m+m)).map f++post,?_,by simp [b]; omega⟩
 have e:xs=xs.take (i.toNat * m)++((xs.drop (i.toNat * m)).take m++xs.drop (i.toNat * m+m)):=by
  rw [← List.drop_drop,List.take_append_drop,List.take_append_drop]
 conv=>lhs; rw [e]
 simp
theorem aH.row{R:ax}{H:ai}{b o p:Nat}{f:α→Value}{pre post:List Value}(s:aH R H b o (pre++(xs.map f++post)))(h:dF m xs i=some r)(w:pre.length=p):aH R H b (o+p+i.toNat * m) ([]++(r.map f++[])):=by
 obtain ⟨a,c,e,u⟩:=OK (post:=post) (f:=f) h w
 rw [e] at s
 have:=s.part (j:=a.length) (n:=(r.map f).length) (Pu rfl rfl)
 rw [u] at this
 simpa [Nat.add_assoc] using this
theorem uM{pre post:List Value}{f:α→Value}{p:Nat}(h:dF m xs i=some r)(b:idx r k=some y)(j:pre.length=p):Nat.blt (p+i.toNat * m+k.toNat * 1) ((pre++(xs.map f++post)).toArray).size=true:=by
 obtain ⟨_,h2,_⟩:=lz h
 obtain ⟨_,h4,h5⟩:=jl b
 have:=gL h
 have:=(dU.1 h5).1
 rw [Nat.blt_eq]
 simp
 omega
theorem uO{pre post:List Value}{f:α→Value}{p:Nat}(h:dF m xs i=some r)(b:idx r k=some y)(j:pre.length=p):((pre++(xs.map f++post)).toArray).setIfInBounds (p+i.toNat * m+k.toNat * 1) (f x)=(pre++((e9 m xs i k x).map f++post)).toArray:=by
 obtain ⟨_,h2,_⟩:=lz h
 obtain ⟨_,h4,h5⟩:=jl b
 have:=gL h
 have:=(dU.1 h5).1
 subst j
 unfold e9
 simp only [Nat.mul_one,List.setIfInBounds_toArray,List.map_set]
 congr 1
 rw [List.set_append_right _ _ (by omega),show pre.length+i.toNat * m+k.toNat - pre.length=i.toNat * m+k.toNat by omega,List.set_append_left _ _ (by simp; omega)]
theorem OH{pre post:List Value}{f:α→Value}{p:Nat}(h:dF m xs i=some r)(b:pre.length=p):Nat.ble (p+i.toNat * m+m) ((pre++(xs.map f++post)).toArray).size=true:=by
 obtain ⟨_,h2,_⟩:=lz h
 rw [Nat.ble_eq]
 simp
 omega
theorem NJ{a c vs ws:List Value}{cs:Array Value}{off:Nat}(h:cs=(a++(vs++c)).toArray)(f:a.length=off)(hl:ws.length=vs.length):dc cs off ws=(a++(ws++c)).toArray:=by
 subst h f
 apply Array.ext_getElem?
 intro j
 rw [mE ws _ _ j (by simp; omega)]
 by_cases b:a.length≤j∧j < a.length+ws.length
 ·rw [if_pos b]
  simp only [List.getElem?_toArray]
  rw [ff b.1,gg (by omega)]
 ·rw [if_neg b]
  simp only [List.getElem?_toArray]
  by_cases h1:j < a.length
  ·rw [gg h1,gg h1]
  ·rw [ff (by omega),ff (by omega),ff (by omega),ff (by omega),hl]
theorem OM{pre post:List Value}{f:α→Value}{p:Nat}(h:dF m xs i=some r)(j:g.length=m)(s:pre.length=p):dc ((pre++(xs.map f++post)).toArray) (p+i.toNat * m) (([]:List Value)++(g.map f++[]))=(pre++((ps m xs i g).map f++post)).toArray:=by
 obtain ⟨_,h2,_⟩:=lz h
 have u:=gL h
 have e:xs=xs.take (i.toNat * m)++(r++xs.drop (i.toNat * m+m)):=by
  obtain ⟨_,_,rfl⟩:=lz h
  rw [← List.drop_drop,List.take_append_drop,List.take_append_drop]
 have b:(pre++(xs.map f++post)).toArray=((pre++(xs.take (i.toNat * m)).map f)++(r.map f++((xs.drop (i.toNat * m+m)).map f++post))).toArray:=by
  conv=>lhs; rw [e]
  simp
 have:=NJ (ws:=([]:List Value)++(g.map f++[])) (off:=p+i.toNat * m) b (by simp [s]; omega) (by simp [j,u])
 rw [this]
 simp [ps]
end
section
variable {P:Program} {B:Base} {main:Bool} {c:Ctx} {R:ax} {H:ai} {st st':St} {o:Oper} {C:ax→ai→St→Prop}
theorem Ox.wi{α:Type}{x y:Operand}{t e len:Nat}{f:α→Value}{xs:List α}{a:α}{kd:IntKind}{i:Int}(b:o.op = .index t x y) (s:aU st x=some (.agg (List.toArray ([]++(xs.map f++[]))))) (u:aU st y=some (.int kd i)) (p:jb P t len e 1) (he:ah P (isAgg e) false) (hl:xs.length=len) (hi:idx xs i=some a)
  (hd:bA o.dst c.n) (j:aA (bC o.dst (f a) st) st') (h:C R H st'):aS P B c o R H st C:=by
 obtain ⟨h1,h2,h3⟩:=jl hi
 exact Ox.nc b s u p he ⟨h1,by omega⟩ (by simp [h3]) hd j h
end
instance {n:Nat}:CM (gi Value.bool n):=⟨λ _ h=>h,λ ⟨_,h⟩ u hu=>by
 subst h
 simp only [List.nil_append,List.append_nil,List.mem_map] at hu
 obtain ⟨_,_,rfl⟩:=hu
 rfl⟩
instance {n:Nat} {kd:IntKind}:CM (gi (Value.int kd) n):=⟨λ _ h=>h,λ ⟨_,h⟩ u hu=>by
 subst h
 simp only [List.nil_append,List.append_nil,List.mem_map] at hu
 obtain ⟨_,_,rfl⟩:=hu
 rfl⟩
section
variable {P:Program} {B:Base} {main:Bool} {c:Ctx} {R:ax} {H:ai} {st st':St} {o:Oper} {C:ax→ai→St→Prop}
theorem Ox.NQ{t:TypeId}{x:Operand}{s:ByteArray}(h:o.op = .range t x)(j:aU st x=some (.string s))(hu:P.underlying t=some .string)(hd:bA o.dst c.n)
  (hC:∀ b,R b=none→(∀ y,(b,y) ∉ H)→∃ st',aA (bC o.dst (.pointer (some ⟨b,0,none⟩)) st) st'∧C R ((b,.stringIter s 0)::H) st'):aS P B c o R H st C :=
 Ox.mem (s:=λ f=>Instr.range t (f x)) (by rw [h]; rfl) hd (λ f=>by simp only [execOp,h]) (λ f p=>by
  rw [p x _ j]
  unfold Instr.range
  refine ah.cr (ah.underlying hu) (ah.cr (ah.a0 _) ?_)
  exact aF.b9 (aF.new λ b h1 h2=>aF.cf (hC b h1 h2)))
theorem Ox.M3{x:Operand}{b:Nat}{s:ByteArray}{pos:Nat}(j:o.op = .next x true)(w:aU st x=some (.pointer (some ⟨b,0,none⟩)))(hb:(b,Obj.stringIter s pos)∈H)(p:¬ pos < s.size)(hd:bA o.dst c.n)
  (u:aA (bC o.dst (.tuple #[.bool false]) st) st') (h:C R H st'):aS P B c o R H st C :=
 Ox.mem (s:=λ f=>Instr.next (f x) true o.type) (by rw [j]; rfl) hd (λ f=>by simp only [execOp,j]) (λ f z=>by
  rw [z x _ w]
  unfold Instr.next
  refine aF.b9 (aF.getObj rfl (.inr hb) ?_)
  simp only [p,if_false]
  exact aF.cf ⟨st',u,h⟩)
theorem Ox.M4{x:Operand}{b:Nat}{s:ByteArray}{pos:Nat}{H':ai}(j:o.op = .next x true)(w:aU st x=some (.pointer (some ⟨b,0,none⟩)))(hb:cF H b (.stringIter s pos) (.stringIter s (pos+(Utf8.decode s pos).2)) H')(p:pos < s.size)(hd:bA o.dst c.n)
  (u:aA (bC o.dst (.tuple #[.bool true,.int .i64 (pos:Int),.int .i32 ((Utf8.decode s pos).1:Int)]) st) st') (h:C R H' st'):aS P B c o R H st C :=
 Ox.mem (s:=λ f=>Instr.next (f x) true o.type) (by rw [j]; rfl) hd (λ f=>by simp only [execOp,j]) (λ f z=>by
  rw [z x _ w]
  unfold Instr.next
  refine aF.b9 (aF.getObj rfl (.inr hb.mem) ?_)
  simp only [p,if_true]
  exact aF.b9 (aF.setObj rfl rfl hb (aF.cf ⟨st',u,h⟩)))
end
class fQ (P:Program) where
 off:Nat→Nat→Option Nat
 ok:∀ s f n,off s f=some n→dB P s f n
def tP(h:Nat→Nat→Option Nat)(st:St)(o:Oper):Option Value :=
 match o.op with
 | .move x=>aU st x
 | .assign x=>aU st x
 | .pick x y z=>match aU st x with
  | some (.bool true)=>aU st y
  | some (.bool false)=>aU st z
  | _=>none
 | .extract x j=>match aU st x with
  | some (.tuple vs)=>vs[j]?
  | _=>none
 | .unOp .not _ x=>match aU st x with
  | some (.bool a)=>some (.bool (!a))
  | _=>none
 | .binOp bo _ x y _=>match aU st x,aU st y with
  | some (.int kd a),some (.int p b)=>if kd=p then (match vq bo a b with
   | some r=>some (.bool r)
   | none=>match uJ bo a b with
    | some z=>some (.int kd (kd.wrap z))
    | none=>none) else none
  | _,_=>none
 | .fieldAddr s x f=>match aU st x,h s f with
  | some (.pointer (some ⟨b,n,none⟩)),some off=>some (.pointer (some ⟨b,n+off,none⟩))
  | _,_=>none
 | _=>none
section
variable {P:Program} [fQ P] {B:Base} {main:Bool} {ab:Jd P B main} {c:Ctx} {R:ax} {H:ai} {st st':St} {o:Oper} {C:ax→ai→St→Prop} {k:List Item}
theorem Cx{v:Value}(h:tP (fQ.off P) st o=some v)(hd:bA o.dst c.n)(F:aA (bC o.dst v st) st')(hC:C R H st'):aS P B c o R H st C:=by
 unfold tP at h
 split at h
 ·rename_i x p; exact Ox.move p h hd F hC
 ·rename_i x p; exact Ox.assign p h hd F hC
 ·rename_i x y z p
  split at h
  ·rename_i w; exact Ox.NG p w h hd F hC
  ·rename_i w; exact Ox.NF p w h hd F hC
  ·cases h
 ·rename_i x j p
  split at h
  ·rename_i w; exact Ox.extract p w h hd F hC
  ·cases h
 ·rename_i t x p
  split at h
  ·rename_i w; cases h; exact Ox.not p w hd F hC
  ·cases h
 ·rename_i bo t x y u p
  split at h
  ·rename_i kd a M b w G
   split at h
   ·rename_i e; subst e
    split at h
    ·rename_i r K; cases h; exact Ox.cmp p w G K hd F hC
    ·split at h
     ·rename_i z L; cases h; exact Ox.ar p w G L hd F hC
     ·cases h
   ·cases h
  ·cases h
 ·rename_i s x f p
  split at h
  ·rename_i w J; cases h; exact Ox.fieldAddr p w (fQ.ok s f _ J) hd F hC
  ·cases h
 ·cases h
def xJ(b:Nat→Nat→Option Nat)(ops:Array Oper)(n:Nat)(st:St)(i:Nat):Option St :=
 match ops[i]? with
 | none=>none
 | some o=>match bQ ops st o with
  | some true=>match tP b st o,o.dst with
   | some v,some d=>if Nat.blt d n=true then some ((d,v)::st) else none
   | _,_=>none
  | some false=>match fU o.op,o.dst with
   | false,some d=>if Nat.blt d n=true then some ((d,undef)::st) else none
   | false,none=>some st
   | _,_=>none
  | none=>none
def mK(b:Nat→Nat→Option Nat)(ops:Array Oper)(n:Nat):List Nat→St→Option St
 | [],st=>some st
 | i::is,st=>match xJ b ops n st i with
  | some st'=>mK b ops n is st'
  | none=>none
theorem C9{ops:Array Oper}{n i:Nat}{f:Nat→Nat→Option Nat}(h:xJ f ops n st i=some st'):∃ o,ops[i]? = some o ∧
  ((bQ ops st o=some true∧∃ v d,tP f st o=some v∧o.dst=some d∧bA (some d) n∧st'=(d,v)::st) ∨
   (bQ ops st o=some false∧fU o.op=false∧bA o.dst n∧st'=bC o.dst undef st)):=by
 unfold xJ at h
 split at h
 ·cases h
 ·rename_i o ho
  refine ⟨o,ho,?_⟩
  split at h
  ·rename_i hw
   split at h
   ·rename_i v d j hd
    split at h
    ·rename_i hl; cases h; exact .inl ⟨hw,v,d,j,hd,hl,rfl⟩
    ·cases h
   ·cases h
  ·rename_i hw
   split at h
   ·rename_i d b hd
    split at h
    ·rename_i hl; cases h; exact .inr ⟨hw,b,by rw [hd]; exact hl,by rw [hd]; rfl⟩
    ·cases h
   ·rename_i b hd
    cases h; exact .inr ⟨hw,b,by rw [hd]; rfl,by rw [hd]; rfl⟩
   ·cases h
  ·cases h
theorem U.run{ops:Array Oper}(f:(c.kind == CallKind.early)=false):∀ {is rest:List Nat} {st:St},mK (fQ.off P) ops c.n is st=some st'→U ab c R H st' (.inRegion ops rest::k)→U ab c R H st (.inRegion ops (is++rest)::k)
 | [],rest,st,h,b=>by cases h; exact b
 | i::is,rest,st,h,b=>by
  unfold mK at h
  split at h
  ·rename_i u h1
   have j:=U.run f h b
   obtain ⟨o,ho,⟨hw,v,d,p,hd,hl,rfl⟩ | ⟨hw,s,hl,rfl⟩⟩:=C9 h1
   ·exact U.eg ho hw f (Cx p (by rw [hd]; exact hl) (by rw [hd]; exact aA.refl _) j)
   ·exact U.unwanted ho hw hl (aA.refl _) j
  ·cases h
theorem U.vs(m:Nat){ops:Array Oper}{is b:List Nat}(h:mK (fQ.off P) ops c.n (is.take m) st=some st')(p:is.drop m=b)(f:U ab c R H st' (.inRegion ops b::k))(j:(c.kind == CallKind.early)=false:=by rfl):U ab c R H st (.inRegion ops is::k):=by
 subst p
 have:=U.run (rest:=is.drop m) j h f
 rwa [List.take_append_drop] at this
def zu(ops:Array Oper)(rem:List Nat)(i:Nat):Nat→List Nat→List Nat
 | 0,D=>D
 | n+1,D=>zu ops rem i n (rem.filter λ j=>j != i && (D.contains j || match ops[j]? with | some o=>o.after.any λ e=>Region.binds .any e && (e.on == i || D.contains e.on) | none=>false))
def qf(ops:Array Oper)(rem:List Nat)(i:Nat):List Nat:=zu ops rem i rem.length []
def rV(ops:Array Oper):List Nat→List Nat→Bool
 | _,[]=>true
 | rem,i::is=>decide rem.Nodup && g8 ops rem i (qf ops rem i) && rV ops (rem.erase i) is
theorem Any.Dx{S:Nat→ai}{ops:Array Oper}{n:Nat}:∀ (is:List Nat) {rem:List Nat} {st:St},mK (fQ.off P) ops c.n is st=some st'→rV ops rem is=true→Any ab c S ops k n (is.foldl List.erase rem) R H st'→Any ab c S ops k (n+is.length) rem R H st
 | [],rem,st,h,_,f=>by cases h; exact f
 | i::is,rem,st,h,b,f=>by
  unfold mK at h
  split at h
  ·rename_i G h1
   simp only [rV,cM,decide_eq_true_eq] at b
   obtain ⟨⟨s,u⟩,b⟩:=b
   have w:=Any.Dx is h b f
   obtain ⟨o,ho,⟨hw,v,d,F,hd,hl,rfl⟩ | ⟨hw,z,hl,rfl⟩⟩:=C9 h1
   ·exact Any.n6 (N:=[]) _ ho hd hw u (λ _ _ _ _ p j=>by cases j) (λ p j=>by cases j) (λ R' H' _ _=>Cx F (by rw [hd]; exact hl) (.one hd) ⟨rfl,rfl,rfl⟩) (aA.refl _) s rfl w
   ·exact Any.Ps _ ho u z hl hw (aA.refl _) s rfl w
  ·cases h
theorem Any.vs{S:Nat→ai}{ops:Array Oper}{n:Nat}(m:Nat)(is:List Nat){rem:List Nat}{st:St}(h:mK (fQ.off P) ops c.n is st=some st')(b:Any ab c S ops k n (is.foldl List.erase rem) R H st')(f:rV ops rem is=true:=by decide +kernel)(hm:is.length=m:=by rfl):Any ab c S ops k (n+m) rem R H st:=by
 subst hm
 exact Any.Dx is h f b
end
section
variable {P:Program} {B:Base} {main:Bool} {ab:Jd P B main} {c:Ctx} {R:ax} {H:ai} {st st':St} {o:Oper} {C:ax→ai→St→Prop} {k:List Item}
theorem U.rg(is:List Nat){id:Nat}{ops:Array Oper}(h:U ab c R H st (.inRegion ops is::k))(f:ops.size=is.length:=by rfl)(b:List.range is.length=is:=by rfl):U ab c R H st (.code (.region id ops false)::k):=U.Ob f b h
theorem U.dw(is:List Nat){id:Nat}{ops:Array Oper}(hm:P.follows .mixedOrders=true)(h:Any ab c (λ _=>H) ops k is.length is R H st)(f:(c.kind == CallKind.early)=false:=by rfl)(hb:backward ops=true:=by decide +kernel)(j:ops.size=is.length:=by rfl)(b:List.range is.length=is:=by rfl):U ab c R H st (.code (.region id ops true)::k):=U.Fe hm f hb j b h
theorem Any.tk(i:Nat){N:ai}{ops:Array Oper}{n d:Nat}{rem:List Nat}{v:Value}(ho:ops[i]? = some o)(b:∀ p∈N,p∈H)(j:∀ R' H',aJ R R'→(∀ p∈N,p∈H')→aS P B c o R' H' st λ R1 H1 z=>R1=R'∧H1=H'∧z=[(d,v)])
  (h:Any ab c (λ _=>N) ops k n (rem.erase i) R H ((d,v)::st)) (f:o.dst=some d:=by rfl) (hw:bQ ops st o=some true:=by rfl) (w:g8 ops rem i (qf ops rem i)=true:=by decide +kernel) (s:rem.Nodup:=by decide):Any ab c (λ _=>N) ops k (n+1) rem R H st :=
 Any.n6 _ ho f hw w (λ _ _ _ _ _ u=>u) b j (aA.refl _) s rfl h
theorem U.cv{ops:Array Oper}{i d:Nat}{rest:List Nat}{b:Call}{x:Operand}{f:FuncId}{first captured:Array Value}{vs:List Value}{args:Array Value}{Post:Value→ax→ai→Prop}(he:aV P f)(u:aP ab f args R H Post)
  (h:∀ v R' H',Post v R' H'→U ab c R' H' ((d,v)::st) (.inRegion ops rest::k))
  (ho:ops[i]? = some o:=by rfl) (hw:bQ ops st o=some true:=by rfl) (w:(c.kind == CallKind.early)=false:=by rfl) (z:o.op = .call b:=by rfl) (s:b.callee = .value x:=by rfl) (G:aU st x=some (.func (.func f) first captured):=by rfl)
  (j:ev st b.args.toList=some vs:=by rfl) (p:first++vs.toArray++captured=args:=by rfl) (hd:o.dst=some d:=by rfl) (hl:Nat.blt d c.n=true:=by rfl):U ab c R H st (.inRegion ops (i::rest)::k) :=
 U.step ho hw w (Ox.cd z s G j he p (by rw [hd]; exact hl) (u.mono λ v R' H' F=>⟨_,.put hd,h v R' H' F⟩))
theorem Any.cv(i:Nat){S:Nat→ai}{ops:Array Oper}{n d:Nat}{rem:List Nat}{b:Call}{x:Operand}{f:FuncId}{first captured:Array Value}{vs:List Value}{args:Array Value}{Post:Value→ax→ai→Prop}(he:aV P f)(w:aP ab f args R H Post)
  (h:∀ v R' H',Post v R' H'→aJ R R'∧(∀ p∈S i,p∈H→p∈H')∧Any ab c S ops k n (rem.erase i) R' H' ((d,v)::st))
  (ho:ops[i]? = some o:=by rfl) (hw:bQ ops st o=some true:=by rfl) (F:o.op = .call b:=by rfl) (u:b.callee = .value x:=by rfl) (K:aU st x=some (.func (.func f) first captured):=by rfl)
  (j:ev st b.args.toList=some vs:=by rfl) (s:first++vs.toArray++captured=args:=by rfl) (hd:o.dst=some d:=by rfl) (hl:Nat.blt d c.n=true:=by rfl) (J:rem.filter (ga ops rem)=[i]:=by decide +kernel) (z:rem.Nodup:=by decide):Any ab c S ops k (n+1) rem R H st :=
 Any.one ho J hw z rfl (Ox.cd F u K j he s (by rw [hd]; exact hl) (w.mono λ v R' H' G=>⟨_,.put hd,h v R' H' G⟩))
theorem Any.on(i:Nat){S:Nat→ai}{ops:Array Oper}{n:Nat}{rem:List Nat}(ho:ops[i]? = some o)(hw:bQ ops st o=some true)
  (h:gS ab c o R H st λ R' H' st'=>aJ R R'∧(∀ p∈S i,p∈H→p∈H')∧Any ab c S ops k n (rem.erase i) R' H' st') (f:rem.filter (ga ops rem)=[i]:=by decide +kernel) (b:rem.Nodup:=by decide):Any ab c S ops k (n+1) rem R H st:=Any.one ho f hw b rfl h
theorem U.ld{ops:Array Oper}{i d:Nat}{rest:List Nat}{x:Operand}{t:TypeId}{b off:Nat}{v:Value}(s:dn P t)(f:Cell R H ⟨b,off,none⟩ v)(h:U ab c R H ((d,v)::st) (.inRegion ops rest::k))
  (ho:ops[i]? = some o:=by rfl) (hw:bQ ops st o=some true:=by rfl) (j:(c.kind == CallKind.early)=false:=by rfl) (p:o.op = .load t x:=by rfl) (u:aU st x=some (.pointer (some ⟨b,off,none⟩)):=by rfl) (hd:o.dst=some d:=by rfl) (hl:Nat.blt d c.n=true:=by rfl):U ab c R H st (.inRegion ops (i::rest)::k) :=
 U.eg ho hw j (Ox.ia p u s f (by rw [hd]; exact hl) (.put hd) h)
theorem U.kn(t:Nat){x b:Bool}{todo:List Item}(hb:x=b)(h:U ab c R H ((t,.bool b)::st) todo)(f:st.lookup t=some (.bool x):=by rfl):U ab c R H st todo:=U.known f hb h
theorem U.s{ops:Array Oper}{i:Nat}{rest:List Nat}(ho:ops[i]? = some o)(hw:bQ ops st o=some true)(h:aS P B c o R H st λ R' H' st'=>U ab c R' H' st' (.inRegion ops rest::k))(b:(c.kind == CallKind.early)=false:=by rfl):U ab c R H st (.inRegion ops (i::rest)::k):=U.eg ho hw b h
end
abbrev aC:List Nat:=[0]
abbrev aE:List Nat:=[0,1]
abbrev aT:List Nat:=[0,1,2]
abbrev bj:List Nat:=[0,1,2,3]
abbrev bK:List Nat:=[0,1,2,3,4]
abbrev cU:List Nat:=[0,1,2,3,4,5]
abbrev cy:List Nat:=[0,1,2,3,4,5,6]
abbrev dk:List Nat:=[0,1,2,3,4,5,6,7]
abbrev e0:List Nat:=[0,1,2,3,4,5,6,7,8]
abbrev fy:List Nat:=[0,1,2,3,4,5,6,7,8,9]
abbrev lx:List Nat:=[0,1,2,3,4,5,6,7,8,9,10]
abbrev kl:List Nat:=[0,1,2,3,4,5,6,7,8,9,10,11]
abbrev CA:List Nat:=[0,1,2,3,4,5,6,7,8,9,10,11,12]
abbrev km:List Nat:=[0,1,2,3,4,5,6,7,8,9,10,11,12,13]
abbrev mH:List Nat:=[0,1,2,3,4,5,6,7,8,9,10,11,12,13,14]
abbrev rf:List Nat:=[0,1,2,3,4,5,6,7,8,9,10,11,12,13,14,15]
abbrev CB:List Nat:=[0,1,2,3,4,5,6,7,8,9,10,11,12,13,14,15,16,17]
abbrev Og:List Nat:=[0,1,2,3,4,5,6,7,8,9,10,11,12,13,14,15,16,17,18]
abbrev Oh:List Nat:=[0,1,2,3,4,5,6,7,8,9,10,11,12,13,14,15,16,17,18,19]
abbrev CC:List Nat:=[0,1,2,3,4,5,6,7,8,9,10,11,12,13,14,15,16,17,18,19,20]
abbrev CD:List Nat:=[0,1,2,3,4,5,6,7,8,9,10,11,12,13,14,15,16,17,18,19,20,21,22,23,24]
abbrev Oi:List Nat:=[0,1,2,3,4,5,6,7,8,9,10,11,12,13,14,15,16,17,18,19,20,21,22,23,24,25]
abbrev CE:List Nat:=[0,1,2,3,4,5,6,7,8,9,10,11,12,13,14,15,16,17,18,19,20,21,22,23,24,25,26]
abbrev Oj:List Nat:=[0,1,2,3,4,5,6,7,8,9,10,11,12,13,14,15,16,17,18,19,20,21,22,23,24,25,26,27]
abbrev Ol:List Nat:=[0,1,2,3,4,5,6,7,8,9,10,11,12,13,14,15,16,17,18,19,20,21,22,23,24,25,26,27,28]
abbrev Om:List Nat:=[0,1,2,3,4,5,6,7,8,9,10,11,12,13,14,15,16,17,18,19,20,21,22,23,24,25,26,27,28,29,30,31]
abbrev On:List Nat:=[0,1,2,3,4,5,6,7,8,9,10,11,12,13,14,15,16,17,18,19,20,21,22,23,24,25,26,27,28,29,30,31,32,33,34,35,36,37]
abbrev Oo:List Nat:=[0,1,2,3,4,5,6,7,8,9,10,11,12,13,14,15,16,17,18,19,20,21,22,23,24,25,26,27,28,29,30,31,32,33,34,35,36,37,38,39,40,41]
abbrev Oq:List Nat:=[0,1,2,3,4,5,6,7,8,9,10,11,12,13,14,15,16,17,18,19,20,21,22,23,24,25,26,27,28,29,30,31,32,33,34,35,36,37,38,39,40,41,42]
abbrev Ot:List Nat:=[0,1,2,3,4,5,6,7,8,9,10,11,12,13,14,15,16,17,18,19,20,21,22,23,24,25,26,27,28,29,30,31,32,33,34,35,36,37,38,39,40,41,42,43,44]
abbrev Ou:List Nat:=[0,1,2,3,4,5,6,7,8,9,10,11,12,13,14,15,16,17,18,19,20,21,22,23,24,25,26,27,28,29,30,31,32,33,34,35,36,37,38,39,40,41,42,43,44,45,46,47,48,49,50,51]
abbrev Ov:List Nat:=[0,1,2,3,4,5,6,7,8,9,10,11,12,13,14,15,16,17,18,19,20,21,22,23,24,25,26,27,28,29,30,31,32,33,34,35,36,37,38,39,40,41,42,43,44,45,46,47,48,49,50,51,52,53,54,55,56,57,58,59,60,61,62,63,64,65,66]
section
variable {α:Type} {a rJ uU yC EJ Ql Qm Qn Qo x:α} {l l₁ jr:List α}
theorem so(h:List.Sublist l₁ jr):List.Sublist l₁ (a::jr):=h.cons a
theorem sk(h:List.Sublist l₁ jr):List.Sublist (a::l₁) (a::jr):=List.Sublist.cons_cons a h
theorem sr:List.Sublist l l:=.refl _
theorem sn:List.Sublist [] l:=List.nil_sublist _
theorem su(h:List.Sublist l₁ jr):∀ p∈l₁,p∈jr:=λ _ b=>h.subset b
theorem pp:∀ p∈l,p∈l:=λ _ h=>h
theorem z0:x∈x::l:=.head _
theorem z1:x∈a::x::l:=.tail _ z0
theorem z2:x∈a::rJ::x::l:=.tail _ z1
theorem z3:x∈a::rJ::uU::x::l:=.tail _ z2
theorem z4:x∈a::rJ::uU::yC::x::l:=.tail _ z3
theorem z5:x∈a::rJ::uU::yC::EJ::x::l:=.tail _ z4
end
section
variable {P:Program} {B:Base} {main:Bool} {ab:Jd P B main} {c:Ctx} {R:ax} {H:ai} {st st':St} {o:Oper} {k:List Item}
theorem sq{x y:Code}(h:U ab c R H st (.code x :: .code y::k)):U ab c R H st (.code (.seq x y)::k):=U.seq h
theorem er{ops:Array Oper}(h:U ab c R H st k):U ab c R H st (.inRegion ops []::k):=U.aK h
theorem es{ops:Array Oper}{x y:Code}(h:U ab c R H st (.code x :: .code y::k)):U ab c R H st (.inRegion ops [] :: .code (.seq x y)::k):=U.aK (U.seq h)
theorem sg(is:List Nat){id:Nat}{ops:Array Oper}{y:Code}(h:U ab c R H st (.inRegion ops is :: .code y::k))(f:ops.size=is.length:=by rfl)(b:List.range is.length=is:=by rfl):U ab c R H st (.code (.seq (.region id ops false) y)::k):=U.seq (U.rg is h f b)
theorem nx(is:List Nat){id:Nat}{os ops:Array Oper}{y:Code}(h:U ab c R H st (.inRegion ops is :: .code y::k))(f:ops.size=is.length:=by rfl)(b:List.range is.length=is:=by rfl):U ab c R H st (.inRegion os [] :: .code (.seq (.region id ops false) y)::k):=U.aK (sg is h f b)
theorem sp(h:U ab c R H st k):U ab c R H st (.code .skip::k):=U.skip h
theorem vs[fQ P](m:Nat){ops:Array Oper}{is b:List Nat}(f:U ab c R H st' (.inRegion ops b::k))(h:mK (fQ.off P) ops c.n (is.take m) st=some st':=by rfl)(p:is.drop m=b:=by rfl)(j:(c.kind == CallKind.early)=false:=by rfl):U ab c R H st (.inRegion ops is::k):=U.vs m h p f j
theorem ld(j:Nat){ops:Array Oper}{i d:Nat}{rest:List Nat}{x:Operand}{t e:TypeId}{b:Nat}{f:Nat × Nat}{L:List Value}{v:Value}(w:dn P t)(hm:(b,Obj.cells L.toArray e f)∈H)(h:U ab c R H ((d,v)::st) (.inRegion ops rest::k))(p:L[j]? = some v:=by rfl)
  (ho:ops[i]? = some o:=by rfl) (hw:bQ ops st o=some true:=by rfl) (s:(c.kind == CallKind.early)=false:=by rfl) (u:o.op = .load t x:=by rfl) (z:aU st x=some (.pointer (some ⟨b,0+j,none⟩)):=by rfl) (hd:o.dst=some d:=by rfl) (hl:Nat.blt d c.n=true:=by rfl):U ab c R H st (.inRegion ops (i::rest)::k) :=
 U.ld w ((aH.box hm).one p) h ho hw s u z hd hl
theorem lN(vs:List Value)(j n:Nat){ops:Array Oper}{i d:Nat}{rest:List Nat}{x:Operand}{t e:TypeId}{b:Nat}{f:Nat × Nat}{L:List Value}{m:Nat}(z:fO P t m)(hm:(b,Obj.cells L.toArray e f)∈H)(h:U ab c R H ((d,.agg vs.toArray)::st) (.inRegion ops rest::k))(F:(L.drop j).take n=vs:=by rfl)
  (ho:ops[i]? = some o:=by rfl) (hw:bQ ops st o=some true:=by rfl) (p:(c.kind == CallKind.early)=false:=by rfl) (w:o.op = .load t x:=by rfl) (G:aU st x=some (.pointer (some ⟨b,0+j,none⟩)):=by rfl) (u:vs.length=m:=by rfl) (hd:o.dst=some d:=by rfl) (hl:Nat.blt d c.n=true:=by rfl):U ab c R H st (.inRegion ops (i::rest)::k) :=
 U.s ho hw (Ox.bE w G z u ((aH.box hm).part F) (by rw [hd]; exact hl) (.put hd) h) p
theorem bx{ops:Array Oper}{i d:Nat}{rest:List Nat}{x:Operand}{t:TypeId}{vs:Array Value}(h:∀ b,U ab c R ((b,.cells vs t)::H) ((d,.pointer (some ⟨b,0,none⟩))::st) (.inRegion ops rest::k))
  (ho:ops[i]? = some o:=by rfl) (hw:bQ ops st o=some true:=by rfl) (f:(c.kind == CallKind.early)=false:=by rfl) (j:o.op = .box t x:=by rfl) (p:aU st x=some (.agg vs):=by rfl) (hd:o.dst=some d:=by rfl) (hl:Nat.blt d c.n=true:=by rfl):U ab c R H st (.inRegion ops (i::rest)::k) :=
 U.s ho hw (Ox.yB j p (by rw [hd]; exact hl) λ b _ _=>⟨_,.put hd,h b⟩) f
theorem sc{α:Type}{t:Bool}{a b:Option α}{r:α}{x:Operand}{th el:Code}(f:af t a b=some r)(h1:t=true→a=some r→U ab c R H st (.code th::k))(h2:t=false→b=some r→U ab c R H st (.code el::k))(j:aU st x=some (.bool t):=by rfl):U ab c R H st (.code (.cond x th el)::k) :=
 a7 f (λ h f=>U.c5 j h (h1 h f)) (λ h f=>U.cw j h (h2 h f))
theorem ls{α:Type}{K:bH α}{n:Nat}{ops:Array Oper}{i d:Nat}{rest:List Nat}{x:Operand}{t e:TypeId}{v:Value}{xs:List α}(hl:aa K n R v xs)(p:P.underlying t=some (.slice e))(h:U ab c R H ((d,.int .i64 (xs.length:Int))::st) (.inRegion ops rest::k))
  (ho:ops[i]? = some o:=by rfl) (hw:bQ ops st o=some true:=by rfl) (b:(c.kind == CallKind.early)=false:=by rfl) (j:o.op = .call ⟨.builtin .len,#[x],#[t]⟩:=by rfl) (u:aU st x=some v:=by rfl) (hd:o.dst=some d:=by rfl) (f:Nat.blt d c.n=true:=by rfl):U ab c R H st (.inRegion ops (i::rest)::k) :=
 U.s ho hw (Ox.gX j u hl p (by rw [hd]; exact f) (.put hd) h) b
theorem lr{α:Type}{K:bH α}{n:Nat}{ops:Array Oper}{i d:Nat}{rest:List Nat}{x:Operand}{t e:TypeId}{v:Value}{xs:List α}{b:ai}(hl:bO K n R b v xs)(u:P.underlying t=some (.slice e))(h:U ab c R H ((d,.int .i64 (xs.length:Int))::st) (.inRegion ops rest::k))
  (ho:ops[i]? = some o:=by rfl) (hw:bQ ops st o=some true:=by rfl) (f:(c.kind == CallKind.early)=false:=by rfl) (p:o.op = .call ⟨.builtin .len,#[x],#[t]⟩:=by rfl) (w:aU st x=some v:=by rfl) (hd:o.dst=some d:=by rfl) (j:Nat.blt d c.n=true:=by rfl):U ab c R H st (.inRegion ops (i::rest)::k) :=
 U.s ho hw (Ox.wy p w hl u (by rw [hd]; exact j) (.put hd) h) f
theorem rt{fr:Frame}{cs:List Frame}{f:FuncId}{n:Nat}{fn:Func}{vs:List Value}{H':ai}(b:P.funcs[f]? = some fn)(j:gT P R H st fn.results.toList vs)(p:List.Sublist H' H)(h:ab.J R H' (aO (fr.finish (dZ vs)) cs)):U ab ⟨f,.normal,none,n,[],fr::cs⟩ R H st (.code .ret::k) :=
 U.n2 b j (J.drop p h)
theorem ts(i:Nat){ops:Array Oper}{n d:Nat}{rem:List Nat}{S:Nat→ai}{v:Value}{N:ai}(D:List Nat)(ho:ops[i]? = some o)(f:∀ j∈rem,j≠i→j ∉ D→∀ p∈N,p∈S j)(b:∀ p∈N,p∈H)
  (u:∀ R' H',aJ R R'→(∀ p∈N,p∈H')→aS P B c o R' H' st λ R1 H1 F=>R1=R'∧H1=H'∧F=[(d,v)]) (h:Any ab c S ops k n (rem.erase i) R H ((d,v)::st))
  (s:o.dst=some d:=by rfl) (hw:bQ ops st o=some true:=by rfl) (z:g8 ops rem i D=true:=by decide +kernel) (w:rem.Nodup:=by decide):Any ab c S ops k (n+1) rem R H st :=
 Any.n6 D ho s hw z f b u (aA.refl _) w rfl h
theorem tl(i j:Nat){ops:Array Oper}{n d:Nat}{rem:List Nat}{x:Operand}{t e:TypeId}{b:Nat}{p:Nat × Nat}{L:List Value}{v:Value}(F:dn P t)(hm:(b,Obj.cells L.toArray e p)∈H)(h:Any ab c (λ _=>H) ops k n (rem.erase i) R H ((d,v)::st))(u:L[j]? = some v:=by rfl)
  (ho:ops[i]? = some o:=by rfl) (z:o.op = .load t x:=by rfl) (J:aU st x=some (.pointer (some ⟨b,0+j,none⟩)):=by rfl) (f:o.dst=some d:=by rfl) (hl:Nat.blt d c.n=true:=by rfl) (hw:bQ ops st o=some true:=by rfl) (G:g8 ops rem i (qf ops rem i)=true:=by decide +kernel) (w:rem.Nodup:=by decide):Any ab c (λ _=>H) ops k (n+1) rem R H st :=
 Any.tk i ho pp (λ _ _ _ s=>Ox.ia z J F ((aH.box (s _ hm)).one u) (by rw [f]; exact hl) (.one f) ⟨rfl,rfl,rfl⟩) h f hw G w
theorem tN(i:Nat)(vs:List Value)(j m:Nat){ops:Array Oper}{n d:Nat}{rem:List Nat}{x:Operand}{t e:TypeId}{b:Nat}{p:Nat × Nat}{L:List Value}{q:Nat}(F:fO P t q)(hm:(b,Obj.cells L.toArray e p)∈H)(h:Any ab c (λ _=>H) ops k n (rem.erase i) R H ((d,.agg vs.toArray)::st))(J:(L.drop j).take m=vs:=by rfl)
  (ho:ops[i]? = some o:=by rfl) (w:o.op = .load t x:=by rfl) (K:aU st x=some (.pointer (some ⟨b,0+j,none⟩)):=by rfl) (z:vs.length=q:=by rfl) (f:o.dst=some d:=by rfl) (hl:Nat.blt d c.n=true:=by rfl) (hw:bQ ops st o=some true:=by rfl) (G:g8 ops rem i (qf ops rem i)=true:=by decide +kernel) (u:rem.Nodup:=by decide):Any ab c (λ _=>H) ops k (n+1) rem R H st :=
 Any.tk i ho pp (λ _ _ _ s=>Ox.bE w K F z ((aH.box (s _ hm)).part J) (by rw [f]; exact hl) (.one f) ⟨rfl,rfl,rfl⟩) h f hw G u
theorem tw(i j:Nat){S:Nat→ai}{ops:Array Oper}{n:Nat}{rem:List Nat}{a b:Oper}(h1:gS ab c a R H st λ R' H' st'=>aJ R R'∧(∀ p∈S i,p∈H→p∈H')∧Any ab c S ops k n (rem.erase i) R' H' st')
  (h2:gS ab c b R H st λ R' H' st'=>aJ R R'∧(∀ p∈S j,p∈H→p∈H')∧Any ab c S ops k n (rem.erase j) R' H' st') (f:ops[i]? = some a:=by rfl) (hb:ops[j]? = some b:=by rfl) (s:rem.filter (ga ops rem)=[i,j]:=by decide +kernel) (u:bQ ops st a=some true:=by rfl) (w:bQ ops st b=some true:=by rfl) (h:rem.Nodup:=by decide):Any ab c S ops k (n+1) rem R H st :=
 Any.PC f hb s u w h rfl rfl h1 h2
theorem ka{H X:ai}:∀ p∈H,p∈X→p∈H:=λ _ h _=>h
theorem kp{R:ax}{H X:ai}{C:Prop}(h:C):aJ R R∧(∀ p∈H,p∈X→p∈H)∧C:=⟨aJ.refl _,ka,h⟩
theorem ku{H H' X:ai}(h:List.Sublist H H'):∀ p∈H,p∈X→p∈H':=λ _ b _=>h.subset b
theorem rr{R:ax}:aJ R R:=aJ.refl _
end
abbrev CZ:bH Int:=CI .i64
def iY(v:Value)(lo k:Nat):Value:=match v with | .slice A n cap=>.slice (if cap=lo then A else A.map (·.add (lo * k))) (n - lo) (cap - lo) | v=>v
def hZ(xs:List Int)(lo:Nat):List Int:=xs.take lo++List.replicate (xs.length - lo) 0
theorem E0{α:Type}{xs ys:List α}{lo hi:Int}(h:e7 xs lo hi=some ys):lo.toNat≤xs.length:=by
 obtain ⟨h1,h2,h3,_⟩:=qb h
 omega
section
variable {P:Program} {B:Base} {main:Bool} {ab:Jd P B main} {c:Ctx} {R:ax} {H H':ai} {st st':St} {o:Oper} {C:ax→ai→St→Prop}
theorem aZ.view{α:Type}{K:bH α}{k e:Nat}{v:Value}{xs:List α}{Hs:ai}{lo:Nat}(h:aZ K k e R v xs Hs)(G:∀ p∈Hs,p∈H):bO K k R H (iY v lo k) (xs.drop lo):=by
 obtain ⟨A,cap,es,rfl,u,J,hm⟩:=h.rd G
 refine ⟨if cap=lo then A else A.map (·.add (lo * k)),cap - lo,es.drop (lo * k),by simp [iY],u.drop,by simp; omega,λ F=>?_⟩
 have z:lo < xs.length:=by
  apply Classical.byContradiction
  intro L
  exact F (List.drop_eq_nil_of_le (by omega))
 obtain ⟨b,o',rfl,s⟩:=hm (by rintro rfl; simp at z)
 refine ⟨b,o'+lo * k,?_,λ j w f=>?_⟩
 ·rw [if_neg (by omega)]; simp [hT]
 ·rw [List.getElem?_drop] at f
  have:=s _ _ f
  simpa [Nat.add_assoc] using this
theorem aZ.Dw{α:Type}{K:bH α}{k t e j:Nat}{v:Value}{xs ys:List α}{Hs:ai}{lo:Int}(h:aZ K k e R v xs Hs)(b:fB P t j k)(p:e7 xs lo (xs.length:Int)=some ys):od P t k v (xs.length:Int) lo (xs.length:Int) (iY v lo.toNat k):=by
 obtain ⟨h1,h2,h3,_⟩:=qb p
 obtain ⟨A,cap,es,rfl,z,s,hm⟩:=h.rd (H:=Hs) (λ _ h=>h)
 intro G st x F hi w u hl f
 rw [cp] at f
 rw [u]
 unfold Instr.sliceAt
 refine ah.ba (ah.underlying b.1) ?_
 unfold Instr.slice
 refine ah.ba (ah.underlying b.1) (ah.ba (uu w hl f ⟨h1,h2,h3⟩ s) (ah.ba b.2 ?_))
 simp only [iY,cp]
 exact ah.a0 _
theorem aZ.front{α:Type}{K:bH α}{k t e z:Nat}{v:Value}{xs ys:List α}{Hs:ai}{hi:Int}(h:aZ K k e R v xs Hs)(p:fB P t z k)(Q:e7 xs 0 hi=some ys):∃ v',aZ K k e R v' ys Hs∧od P t k v (xs.length:Int) 0 hi v':=by
 obtain ⟨h1,h2,h3,rfl⟩:=qb Q
 have key:∀ A cap,v = .slice A xs.length cap→xs.length≤cap→od P t k v (xs.length:Int) 0 hi (.slice (if cap=0 then A else A.map (·.add (0 * k))) (hi.toNat - 0) (cap - 0)):=by
  rintro A cap rfl T Y st x X W V U hl s
  rw [cp] at s
  rw [U]
  unfold Instr.sliceAt
  refine ah.ba (ah.underlying p.1) ?_
  unfold Instr.slice
  exact ah.ba (ah.underlying p.1) (ah.ba (uu V hl s ⟨h1,h2,h3⟩ T) (ah.ba p.2 (ah.a0 _)))
 rcases h with ⟨A,rfl,rfl,rfl⟩ | ⟨b,cap,cs,es,rfl,rfl,F,G,J,L⟩
 ·have:=key A 0 rfl (b6 _)
  have M:hi.toNat=0:=by simp at h3; omega
  rw [M] at this
  exact ⟨_,.inl ⟨A,rfl,by simp,rfl⟩,by simpa using this⟩
 ·refine ⟨_,?_,key _ cap rfl G⟩
  have u:((xs.take hi.toNat).drop (0:Int).toNat).length=hi.toNat:=by simp; omega
  refine .inr ⟨b,cap,cs,es.take (hi.toNat * k),?_,rfl,F,by rw [u]; omega,by simpa using J.take,λ j w f=>?_⟩
  ·rw [u]
   congr 1
   split <;> simp [hT]
  ·rw [List.getElem?_take] at f
   split at f
   ·exact L _ _ f
   ·cases f
theorem Ox.JO{α:Type}{K:bH α}{k b lo:Nat}{x:Operand}{t e:TypeId}{v:Value}{xs:List α}{Hs:ai}(f:o.op = .call ⟨.builtin .len,#[x],#[t]⟩)(s:aU st x=some (iY v lo k))(hl:aZ K k b R v xs Hs)(p:P.underlying t=some (.slice e))
  (hd:bA o.dst c.n) (j:aA (bC o.dst (.int .i64 ((xs.drop lo).length:Int)) st) st') (h:C R H st'):aS P B c o R H st C :=
 Ox.wy f s (hl.view (H:=Hs) (λ _ h=>h)) p hd j h
theorem Ox.ER{t e lo:Nat}(G:ai→ai){x:Operand}{v:Value}{xs:List Int}{Hs:ai}(Q:o.op = .call ⟨.builtin .clear,#[x],#[t]⟩)(s:aU st x=some (iY v lo 1))(al:fB P t e 1)(am:eu P e #[.int .i64 0])(Y:fj G)
  (F:aZ (CI .i64) 1 e R v xs Hs) (aq:lo≤xs.length) (hd:bA o.dst c.n) (hC:∀ p,aZ (CI .i64) 1 e R v (hZ xs lo) p→∃ st',aA (bC o.dst (.tuple #[]) st) st'∧C R (G p) st'):aS P B c o R (G Hs) st C:=by
 refine ⟨by rw [Q]; rfl,hd,λ T ap=>?_⟩
 simp only [execOp,Q]
 refine ah.cr (a:=⟨.builtin .clear #[t] o.type (#[x].map λ | .const _=>true | _=>false),#[x].map T⟩) (ah.a0 _) ?_
 simp only [invoke,builtin]
 have e1:(#[x].map T)=#[iY v lo 1]:=by simp [ap x _ s]
 rw [e1]
 have fin:∀ p,aZ (CI .i64) 1 e R v (hZ xs lo) p→aF P B R (G p) (pure (Value.tuple #[])) λ a R' H'=>aF P B R' H' (pure (Next.value a)) λ nx R' H'=>∃ v,(nx = .value v∨(nx = .skip∧v=undef))∧∃ st',aA (bC o.dst v st) st'∧C R' H' st':=λ p h=>by
  obtain ⟨st',ak,X⟩:=hC p h
  exact aF.cf (aF.cf ⟨_,.inl rfl,st',ak,X⟩)
 refine aF.b9 ?_
 unfold Builtin.clear_
 refine ah.cr (ah.underlying al.1) ?_
 by_cases K:xs.length - lo=0
 ·have z:∃ A cap,iY v lo 1 = .slice A 0 cap:=by
   obtain ⟨A,cap,es,rfl,_⟩:=F.rd (H:=Hs) (λ _ h=>h)
   exact ⟨_,_,by simp only [iY,K]; rfl⟩
  obtain ⟨A,cap,z⟩:=z
  rw [z]
  have Z:hZ xs lo=xs:=by
   unfold hZ
   rw [K,List.replicate_zero,List.append_nil,List.take_of_length_le (by omega)]
  rw [Z] at fin
  cases A with
  | none=>exact aF.b9 (aF.cf (fin Hs F))
  | some a=>exact aF.b9 (aF.cf (fin Hs F))
 ·rcases F with ⟨A,rfl,rfl,rfl⟩ | ⟨b,cap,cs,es,rfl,rfl,U,V,L,W⟩
  ·simp at K
  ·have z:iY (.slice (some ⟨b,0,none⟩) xs.length cap) lo 1 = .slice (some ⟨b,lo,none⟩) (xs.length - lo) (cap - lo):=by
    simp only [iY]
    rw [if_neg (by omega)]
    simp [hT]
   rw [z]
   obtain ⟨m,hm⟩:∃ m,xs.length - lo=m+1:=⟨xs.length - lo - 1,by omega⟩
   rw [hm]
   dsimp only
   obtain ⟨z0,an,ao⟩:=am
   refine ah.cr an (aF.b9 ?_)
   have aj:(Builtin.zeroCells z0.cells (m+1)).toList=List.replicate (m+1) (Value.int .i64 0):=by
    rw [ao]
    apply List.ext_getElem?
    intro j
    simp only [Builtin.zeroCells]
    by_cases f:j < m+1
    ·simp [f,Nat.mod_one]
    ·simp [f]
   rw [aj]
   have ar:lo+(m+1)≤cs.size:=by omega
   refine aF.given λ ag=>aF.rm _ cs lo 0 (G [(b,.cells cs e (0,0))]) (G [(b,.cells (dc cs lo (List.replicate (m+1) (Value.int .i64 0))) e (0,0))]) (λ u hu=>by rw [List.eq_of_mem_replicate hu]; rfl) (by simp; omega) (by simpa using fj.set Y) ag ?_
   have M:(hZ xs lo).length=xs.length:=by simp [hZ]; omega
   refine fin _ (.inr ⟨b,cap,dc cs lo (List.replicate (m+1) (Value.int .i64 0)),es.take lo++List.replicate (m+1) (Value.int .i64 0),by rw [M],rfl,by rw [q8]; exact U,by rw [M]; exact V,?_,λ j w f=>?_⟩)
   ·have h1:=L.take (n:=lo)
    rw [Nat.mul_one] at h1
    unfold hZ
    rw [hm]
    refine h1.append ?_
    refine ⟨by simp,λ i x s=>?_⟩
    rw [List.getElem?_replicate] at s
    split at s
    ·rename_i hi
     cases s
     refine ⟨[.int .i64 0],rfl,rfl,λ j w f=>?_⟩
     have ad:=(dU.1 f).1
     have ac:j=0:=by simp at ad; omega
     subst ac
     rw [Nat.mul_one,List.getElem?_replicate,if_pos (by omega)]
     exact f
    ·cases s
   ·have aa:=L.len
    rw [Nat.mul_one] at aa
    rw [mE _ _ _ _ (by simp; omega)]
    rcases Nat.lt_or_ge j lo with J | J
    ·rw [gg (by simp; omega),List.getElem?_take,if_pos J] at f
     rw [if_neg (by omega)]
     exact W _ _ f
    ·rw [ff (by simp; omega)] at f
     have af:(es.take lo).length=lo:=by simp; omega
     rw [af] at f
     have ae:=(dU.1 f).1
     rw [if_pos ⟨J,by simp at ae ⊢; omega⟩]
     exact f
end
def ae{α:Type}(a b:Option α):Prop:=∀ r,a=some r→b=some r
theorem ae.bb{α:Type}(a:Option α):ae a a:=λ _ h=>h
theorem ae.none{α:Type}{b:Option α}:ae none b:=λ _ h=>by cases h
theorem ae.bf{α β:Type}{a j:Option α}{f p:α→Option β}(h:ae a j)(s:∀ x,ae (f x) (p x)):ae (a.bind f) (j.bind p):=by
 intro r b
 obtain ⟨x,u,b⟩:=ag b
 rw [h x u]
 exact s x r b
theorem ae.af{α:Type}{t:Bool}{a f b j:Option α}(h:ae a f)(p:ae b j):ae (af t a b) (af t f j):=by
 cases t
 ·exact p
 ·exact h
def gH{S O:Type}(body:S→Option (S ⊕ O))(s:S):Option O:=fV body 200 s
theorem ae.fV{S O:Type}{body f:S→Option (S ⊕ O)}(h:∀ s,ae (body s) (f s)):∀ (n:Nat) (s:S),ae (Go.Lg.fV body n s) (a6 f s)
 | 0,_=>λ _ b=>by cases b
 | n+1,s=>λ r b=>by
  simp only [Go.Lg.fV] at b
  cases hb:body s with
  | none=>rw [hb] at b; cases b
  | some x =>
   rw [hb] at b
   have j:=h s x hb
   cases x with
   | inl s'=>rw [j1 j]; exact ae.fV h n s' r b
   | inr o=>cases b; exact fF j
theorem ae.c0{S O:Type}{body b:S→Option (S ⊕ O)}{s:S}(h:∀ s,ae (body s) (b s)):ae (gH body s) (a6 b s):=ae.fV h 200 s
theorem ae.ei{α β j:Type}{f b:α→Option j}{g g':β→Option j}(h:∀ x,ae (f x) (b x))(p:∀ x,ae (g x) (g' x))(x:α ⊕ β):ae (Sum.elim f g x) (Sum.elim b g' x):=by
 cases x
 ·exact h _
 ·exact p _
theorem ae.cY{α S O:Type}{f p:α→S→Option (S ⊕ O)}(h:∀ x s,ae (f x s) (p x s))(x:α)(s:S ⊕ O):ae (Go.Lg.cY f x s) (Go.Lg.cY p x s):=by
 intro r b
 cases s with
 | inr s=>cases b
 | inl s =>
  simp only [Go.Lg.cY] at b ⊢
  cases j:f x s with
  | none=>rw [j] at b; cases b
  | some z=>rw [j] at b; rw [h x s z j]; exact b
theorem ae.mapM{α β:Type}{f s:α→Option β}(h:∀ x,ae (f x) (s x)):∀ l:List α,ae (l.mapM f) (l.mapM s)
 | []=>ae.bb _
 | a::l=>by
  intro r j
  rw [List.mapM_cons] at j ⊢
  cases p:f a with
  | none=>rw [p] at j; simp at j
  | some b =>
   cases hl:l.mapM f with
   | none=>rw [p,hl] at j; simp at j
   | some bs =>
    rw [p,hl] at j
    rw [h a b p,ae.mapM h l bs hl]
    exact j
abbrev au:Value:=.slice none 0 0
theorem bn{α β:Sort _}{a:α}{b:β}:a=a∧b=b:=⟨rfl,rfl⟩
theorem aM{α β f:Sort _}{a:α}{b:β}{d:f}:a=a∧b=b∧d=d:=⟨rfl,rfl,rfl⟩
theorem an{st st':St}(h:bz st st'):aA st st':=bz.sub h
theorem gd{b:Option Value}:b=b∧True:=⟨rfl,trivial⟩
theorem cC{b a1:Option Value}:b=b∧a1=a1∧True:=⟨rfl,rfl,trivial⟩
theorem cc{b a1 f:Option Value}:b=b∧a1=a1∧f=f∧True:=⟨rfl,rfl,rfl,trivial⟩
theorem bu{b a1 f h:Option Value}:b=b∧a1=a1∧f=f∧h=h∧True:=⟨rfl,rfl,rfl,rfl,trivial⟩
theorem cj{b a1 f h j:Option Value}:b=b∧a1=a1∧f=f∧h=h∧j=j∧True:=⟨rfl,rfl,rfl,rfl,rfl,trivial⟩
theorem du{b a1 f h j p:Option Value}:b=b∧a1=a1∧f=f∧h=h∧j=j∧p=p∧True:=⟨rfl,rfl,rfl,rfl,rfl,rfl,trivial⟩
theorem eY{b a1 f h j p s:Option Value}:b=b∧a1=a1∧f=f∧h=h∧j=j∧p=p∧s=s∧True:=⟨rfl,rfl,rfl,rfl,rfl,rfl,rfl,trivial⟩
theorem iM{b a1 f h j p s u:Option Value}:b=b∧a1=a1∧f=f∧h=h∧j=j∧p=p∧s=s∧u=u∧True:=⟨rfl,rfl,rfl,rfl,rfl,rfl,rfl,rfl,trivial⟩
theorem g4{b a1 f h j p s u w:Option Value}:b=b∧a1=a1∧f=f∧h=h∧j=j∧p=p∧s=s∧u=u∧w=w∧True:=⟨rfl,rfl,rfl,rfl,rfl,rfl,rfl,rfl,rfl,trivial⟩
theorem pg{b a1 f h j p s u w z:Option Value}:b=b∧a1=a1∧f=f∧h=h∧j=j∧p=p∧s=s∧u=u∧w=w∧z=z∧True:=⟨rfl,rfl,rfl,rfl,rfl,rfl,rfl,rfl,rfl,rfl,trivial⟩
theorem tE{b a1 h j p s u w z F f:Option Value}:b=b∧a1=a1∧h=h∧j=j∧p=p∧s=s∧u=u∧w=w∧z=z∧F=F∧f=f∧True:=⟨rfl,rfl,rfl,rfl,rfl,rfl,rfl,rfl,rfl,rfl,rfl,trivial⟩
theorem Cf{b a1 j p s u w z F G f h:Option Value}:b=b∧a1=a1∧j=j∧p=p∧s=s∧u=u∧w=w∧z=z∧F=F∧G=G∧f=f∧h=h∧True:=⟨rfl,rfl,rfl,rfl,rfl,rfl,rfl,rfl,rfl,rfl,rfl,rfl,trivial⟩
theorem jD{b a1 s u w z F G J K f h j p:Option Value}:b=b∧a1=a1∧s=s∧u=u∧w=w∧z=z∧F=F∧G=G∧J=J∧K=K∧f=f∧h=h∧j=j∧p=p∧True:=⟨rfl,rfl,rfl,rfl,rfl,rfl,rfl,rfl,rfl,rfl,rfl,rfl,rfl,rfl,trivial⟩
section
variable {P:Program} {B:Base} {main:Bool} {ab:Jd P B main} {c:Ctx} {R:ax} {H:ai} {st st':St} {o:Oper} {k:List Item} {ops:Array Oper} {i d:Nat} {rest:List Nat} {t e:TypeId}
theorem bS{x y:Operand}{v:Value}{kd:IntKind}{j:Int}{b n:Nat}(u:ks P t v j b n)(h:U ab c R H ((d,.pointer (some ⟨b,n,none⟩))::st) (.inRegion ops rest::k))(ho:ops[i]? = some o:=by rfl)(hw:bQ ops st o=some true:=by rfl)(f:(c.kind == CallKind.early)=false:=by rfl)
  (p:o.op = .indexAddr t x y:=by rfl) (w:aU st x=some v:=by rfl) (z:aU st y=some (.int kd j):=by rfl) (hd:o.dst=some d:=by rfl) (hl:Nat.blt d c.n=true:=by rfl):U ab c R H st (.inRegion ops (i::rest)::k) :=
 U.s ho hw (Ox.sS p w z u (by rw [hd]; exact hl) (.put hd) h) f
theorem bN(cs:Array Value)(p:eu P t cs)(h:∀ b,U ab c R ((b,.cells cs t)::H) ((d,.pointer (some ⟨b,0,none⟩))::st) (.inRegion ops rest::k))(ho:ops[i]? = some o:=by rfl)(hw:bQ ops st o=some true:=by rfl)(f:(c.kind == CallKind.early)=false:=by rfl)
  (j:o.op = .alloc t:=by rfl) (hd:o.dst=some d:=by rfl) (hl:Nat.blt d c.n=true:=by rfl):U ab c R H st (.inRegion ops (i::rest)::k) :=
 U.s ho hw (Ox.alloc j p (by rw [hd]; exact hl) λ b _ _=>⟨_,.put hd,h b⟩) f
theorem cL(cells:Array Value){parts:Array (Nat × Operand)}{b:List (Nat × Value)}{places:List (Nat × Nat)}{z:Array Value}(w:jQ P t places z)(h:U ab c R H ((d,.agg cells)::st) (.inRegion ops rest::k))(ho:ops[i]? = some o:=by rfl)(hw:bQ ops st o=some true:=by rfl)(j:(c.kind == CallKind.early)=false:=by rfl)
  (p:o.op = .build t parts:=by rfl) (u:mD st parts.toList=some b:=by rfl) (f:Instr.fill (places.toArray[·]?) z b=some cells:=by repeat first | refine gD rfl rfl rfl rfl ?_ | exact hv) (hd:o.dst=some d:=by rfl) (hl:Nat.blt d c.n=true:=by rfl):U ab c R H st (.inRegion ops (i::rest)::k) :=
 U.s ho hw (Ox.build p w u f (by rw [hd]; exact hl) (.put hd) h) j
theorem dR(cells:Array Value){n len:Nat}{parts:Array (Nat × Operand)}{f:List (Nat × Value)}{z base:Array Value}(G:jd P t e n z)(hb:(Array.range (len * n)).map (z[· % z.size]!)=base)(h:∀ b,U ab c R ((b,.cells cells e)::H) ((d,.slice (some ⟨b,0,none⟩) len len)::st) (.inRegion ops rest::k))
  (ho:ops[i]? = some o:=by rfl) (hw:bQ ops st o=some true:=by rfl) (u:(c.kind == CallKind.early)=false:=by rfl) (w:o.op = .buildSlice t len parts:=by rfl) (F:mD st parts.toList=some f:=by rfl) (hlen:len * n≤16777216:=by decide) (p:Instr.fill (λ j=>some (j * n,n)) base f=some cells:=by repeat first | refine gD rfl rfl rfl rfl ?_ | exact hv) (hd:o.dst=some d:=by rfl) (hl:Nat.blt d c.n=true:=by rfl):U ab c R H st (.inRegion ops (i::rest)::k) :=
 U.s ho hw (Ox.buildSlice w G F hlen hb p (by rw [hd]; exact hl) λ b _ _=>⟨_,.put hd,h b⟩) u
theorem dO(cs':Array Value){x y:Operand}{b off:Nat}{v:Value}{cs:Array Value}{H':ai}(w:dn P t)(u:cF H b (.cells cs e (0,0)) (.cells cs' e (0,0)) H')(h:U ab c R H' st (.inRegion ops rest::k))(ho:ops[i]? = some o:=by rfl)(hw:bQ ops st o=some true:=by rfl)(j:(c.kind == CallKind.early)=false:=by rfl)
  (p:o.op = .store t x y:=by rfl) (F:aU st x=some (.pointer (some ⟨b,off,none⟩)):=by rfl) (G:aU st y=some v:=by rfl) (z:v.oneCell'=true:=by rfl) (hl:Nat.blt off cs.size=true:=by rfl) (f:cs.setIfInBounds off v=cs':=by rfl) (hd:o.dst=none:=by rfl):U ab c R H st (.inRegion ops (i::rest)::k) :=
 U.s ho hw (Ox.eF p F G w z u hl f hd (.refl _) h) j
theorem cl(cs':Array Value){x y:Operand}{b off n:Nat}{vs cs:Array Value}{H':ai}(F:fO P t n)(z:cF H b (.cells cs e (0,0)) (.cells cs' e (0,0)) H')(h:U ab c R H' st (.inRegion ops rest::k))(ho:ops[i]? = some o:=by rfl)(hw:bQ ops st o=some true:=by rfl)(j:(c.kind == CallKind.early)=false:=by rfl)
  (w:o.op = .store t x y:=by rfl) (G:aU st x=some (.pointer (some ⟨b,off,none⟩)):=by rfl) (J:aU st y=some (.agg vs):=by rfl) (p:vs.size=n:=by rfl) (h1:∀ u∈vs.toList,u.oneCell'=true:=by repeat first | exact bB | refine bh rfl ?_ | refine bh (aa.one (by assumption)) ?_ | refine bh (bO.one (by assumption)) ?_ | refine bh (aZ.one (by assumption)) ?_ | refine bh (K.one (by assumption)) ?_ | refine bh (L.one (by assumption)) ?_ | refine bh (fz.one (by assumption)) ?_) (hl:Nat.ble (off+n) cs.size=true:=by rfl) (f:dc cs off vs.toList=cs':=by rfl) (hd:o.dst=none:=by rfl):U ab c R H st (.inRegion ops (i::rest)::k) :=
 U.s ho hw (Ox.cV w G J F p h1 z hl f hd (.refl _) h) j
theorem lg{x:Operand}{u:TypeId}{kd z w:IntKind}{a:Int}(j:P.underlying t=some (.int w))(hu:P.underlying u=some (.int kd))(h:U ab c R H ((d,.int kd (kd.wrap a))::st) (.inRegion ops rest::k))(ho:ops[i]? = some o:=by rfl)(hw:bQ ops st o=some true:=by rfl)(b:(c.kind == CallKind.early)=false:=by rfl)
  (f:o.op = .convert t u x:=by rfl) (p:aU st x=some (.int z a):=by rfl) (hd:o.dst=some d:=by rfl) (hl:Nat.blt d c.n=true:=by rfl):U ab c R H st (.inRegion ops (i::rest)::k) :=
 U.s ho hw (Ox.r5 f p j hu (by rw [hd]; exact hl) (.put hd) h) b
end
abbrev pT(b:Nat):Value:=.pointer (some ⟨b,0,none⟩)
abbrev bW(l:List Bool):Array Value:=List.toArray ([]++(l.map Value.bool++[]))
abbrev f16:List Bool:=[false,false,false,false,false,false,false,false,false,false,false,false,false,false,false,false]
theorem ao{α:Type}{a b:α}(h:some a=some b):b=a:=(ed h).symm
theorem vK{α:Type}{P:Program}{s:Sem α}{a:α}(h:∀ w,(s.run P w,s.events P w #[])=(.ok a w,#[])):ah P s a:=λ w=>⟨congrArg Prod.fst (h w),congrArg Prod.snd (h w)⟩
section
variable {A1:Type} {K1:bH A1} [CM K1] {k1:Nat} {v1:Value} {x1:List A1} {A2:Type} {K2:bH A2} [CM K2] {k2:Nat} {v2:Value} {x2:List A2} {A3:Type} {K3:bH A3} [CM K3] {k3:Nat} {v3:Value} {x3:List A3} {A4:Type} {K4:bH A4} [CM K4] {k4:Nat} {v4:Value} {x4:List A4} {A5:Type} {K5:bH A5} [CM K5] {k5:Nat} {v5:Value} {x5:List A5} {A6:Type} {K6:bH A6} [CM K6] {k6:Nat} {v6:Value} {x6:List A6} {A7:Type} {K7:bH A7} [CM K7] {k7:Nat} {v7:Value} {x7:List A7} {A8:Type} {K8:bH A8} [CM K8] {k8:Nat} {v8:Value} {x8:List A8} {A9:Type} {K9:bH A9} [CM K9] {k9:Nat} {v9:Value} {x9:List A9} {R R':ax}
theorem jC(h:aJ R R')(a1:aa K1 k1 R v1 x1)(b:aa K2 k2 R v2 x2):aa K1 k1 R' v1 x1∧aa K2 k2 R' v2 x2:=⟨a1.mono h,b.mono h⟩
theorem pe(h:aJ R R')(a1:aa K1 k1 R v1 x1)(b:aa K2 k2 R v2 x2)(f:aa K3 k3 R v3 x3):aa K1 k1 R' v1 x1∧aa K2 k2 R' v2 x2∧aa K3 k3 R' v3 x3:=⟨a1.mono h,b.mono h,f.mono h⟩
theorem lf(h:aJ R R')(a1:aa K1 k1 R v1 x1)(b:aa K2 k2 R v2 x2)(f:aa K3 k3 R v3 x3)(j:aa K4 k4 R v4 x4):aa K1 k1 R' v1 x1∧aa K2 k2 R' v2 x2∧aa K3 k3 R' v3 x3∧aa K4 k4 R' v4 x4:=⟨a1.mono h,b.mono h,f.mono h,j.mono h⟩
theorem cI(h:aJ R R')(a1:aa K1 k1 R v1 x1)(b:aa K2 k2 R v2 x2)(f:aa K3 k3 R v3 x3)(j:aa K4 k4 R v4 x4)(p:aa K5 k5 R v5 x5):aa K1 k1 R' v1 x1∧aa K2 k2 R' v2 x2∧aa K3 k3 R' v3 x3∧aa K4 k4 R' v4 x4∧aa K5 k5 R' v5 x5:=⟨a1.mono h,b.mono h,f.mono h,j.mono h,p.mono h⟩
theorem eR(h:aJ R R')(a1:aa K1 k1 R v1 x1)(b:aa K2 k2 R v2 x2)(f:aa K3 k3 R v3 x3)(j:aa K4 k4 R v4 x4)(p:aa K5 k5 R v5 x5)(s:aa K6 k6 R v6 x6):aa K1 k1 R' v1 x1∧aa K2 k2 R' v2 x2∧aa K3 k3 R' v3 x3∧aa K4 k4 R' v4 x4∧aa K5 k5 R' v5 x5∧aa K6 k6 R' v6 x6:=⟨a1.mono h,b.mono h,f.mono h,j.mono h,p.mono h,s.mono h⟩
theorem tC(h:aJ R R')(a1:aa K1 k1 R v1 x1)(b:aa K2 k2 R v2 x2)(f:aa K3 k3 R v3 x3)(j:aa K4 k4 R v4 x4)(p:aa K5 k5 R v5 x5)(s:aa K6 k6 R v6 x6)(u:aa K7 k7 R v7 x7):aa K1 k1 R' v1 x1∧aa K2 k2 R' v2 x2∧aa K3 k3 R' v3 x3∧aa K4 k4 R' v4 x4∧aa K5 k5 R' v5 x5∧aa K6 k6 R' v6 x6∧aa K7 k7 R' v7 x7:=⟨a1.mono h,b.mono h,f.mono h,j.mono h,p.mono h,s.mono h,u.mono h⟩
theorem xb(h:aJ R R')(a1:aa K1 k1 R v1 x1)(b:aa K2 k2 R v2 x2)(f:aa K3 k3 R v3 x3)(j:aa K4 k4 R v4 x4)(p:aa K5 k5 R v5 x5)(s:aa K6 k6 R v6 x6)(u:aa K7 k7 R v7 x7)(w:aa K8 k8 R v8 x8):aa K1 k1 R' v1 x1∧aa K2 k2 R' v2 x2∧aa K3 k3 R' v3 x3∧aa K4 k4 R' v4 x4∧aa K5 k5 R' v5 x5∧aa K6 k6 R' v6 x6∧aa K7 k7 R' v7 x7∧aa K8 k8 R' v8 x8:=⟨a1.mono h,b.mono h,f.mono h,j.mono h,p.mono h,s.mono h,u.mono h,w.mono h⟩
theorem eX(h:aJ R R')(a1:aa K1 k1 R v1 x1)(b:aa K2 k2 R v2 x2)(f:aa K3 k3 R v3 x3)(j:aa K4 k4 R v4 x4)(p:aa K5 k5 R v5 x5)(s:aa K6 k6 R v6 x6)(u:aa K7 k7 R v7 x7)(w:aa K8 k8 R v8 x8)(z:aa K9 k9 R v9 x9):aa K1 k1 R' v1 x1∧aa K2 k2 R' v2 x2∧aa K3 k3 R' v3 x3∧aa K4 k4 R' v4 x4∧aa K5 k5 R' v5 x5∧aa K6 k6 R' v6 x6∧aa K7 k7 R' v7 x7∧aa K8 k8 R' v8 x8∧aa K9 k9 R' v9 x9:=⟨a1.mono h,b.mono h,f.mono h,j.mono h,p.mono h,s.mono h,u.mono h,w.mono h,z.mono h⟩
end
section
variable {P:Program} {B:Base} {main:Bool} {ab:Jd P B main} {c:Ctx} {R:ax} {H:ai} {st st':St} {o:Oper} {k:List Item} {ops:Array Oper} {i d n:Nat} {rest rem:List Nat} {t e:TypeId}
theorem aX{f:FuncId}{fn:Func}{body:Code}{args:List Value}{Post:Value→ax→ai→Prop}(b:P.funcs[f]? = some fn)(n:Nat)
  (h:∀ fr cs,(∀ v R' H',Post v R' H'→ab.J R' H' (aO (fr.finish v) cs))→U ab ⟨f,.normal,none,n,[],fr::cs⟩ R H (ji 0 args) [.code body]) (hb:fn.body=some body:=by rfl) (p:fn.ntmps=n:=by rfl) (j:Nat.ble args.length n=true:=by rfl):aP ab f args.toArray R H Post:=aP.gu b hb p j h
theorem kI{N:ai}{x y:Operand}{v:Value}{kd:IntKind}{j:Int}{b m:Nat}(h:ks P t v j b m)(f:o.op = .indexAddr t x y:=by rfl)(s:aU st x=some v:=by rfl)(u:aU st y=some (.int kd j):=by rfl)(hd:o.dst=some d:=by rfl)(hl:Nat.blt d c.n=true:=by rfl) :
  ∀ R' H',aJ R R'→(∀ p∈N,p∈H')→aS P B c o R' H' st λ R1 H1 w=>R1=R'∧H1=H'∧w=[(d,.pointer (some ⟨b,m,none⟩))] :=
 λ _ _ _ _=>Ox.sS f s u h (by rw [hd]; exact hl) (.one hd) ⟨rfl,rfl,rfl⟩
theorem kA{N N':ai}{x:Operand}{b q:Nat}{v:Value}{L:List Value}(F:dn P t)(j:Nat)(u:aH R N' b q L)(hN:∀ p∈N',p∈N)(w:L[j]? = some v:=by rfl)(z:o.op = .load t x:=by rfl)(G:aU st x=some (.pointer (some ⟨b,q+j,none⟩)):=by rfl)(hd:o.dst=some d:=by rfl)(hl:Nat.blt d c.n=true:=by rfl) :
  ∀ R' H',aJ R R'→(∀ p∈N,p∈H')→aS P B c o R' H' st λ R1 H1 J=>R1=R'∧H1=H'∧J=[(d,v)] :=
 λ _ _ f s=>Ox.ia z G F (((u.le f).sub λ p h=>s p (hN p h)).one w) (by rw [hd]; exact hl) (.one hd) ⟨rfl,rfl,rfl⟩
theorem kU{N:ai}{x:Operand}{b q:Nat}{v:Value}{L:List Value}(w:dn P t)(j:Nat)(h:aH R [] b q L)(s:L[j]? = some v:=by rfl)(u:o.op = .load t x:=by rfl)(z:aU st x=some (.pointer (some ⟨b,q+j,none⟩)):=by rfl)(hd:o.dst=some d:=by rfl)(hl:Nat.blt d c.n=true:=by rfl) :
  ∀ R' H',aJ R R'→(∀ p∈N,p∈H')→aS P B c o R' H' st λ R1 H1 F=>R1=R'∧H1=H'∧F=[(d,v)] :=
 λ _ _ f _=>Ox.ia u z w ((h.up f).one s) (by rw [hd]; exact hl) (.one hd) ⟨rfl,rfl,rfl⟩
theorem kX{N:ai}{x:Operand}{b:Nat}{v:Value}{L:List Value}{f:Nat × Nat}(w:dn P t)(j:Nat)(hm:(b,Obj.cells L.toArray e f)∈N)(s:L[j]? = some v:=by rfl)(u:o.op = .load t x:=by rfl)(z:aU st x=some (.pointer (some ⟨b,0+j,none⟩)):=by rfl)(hd:o.dst=some d:=by rfl)(hl:Nat.blt d c.n=true:=by rfl) :
  ∀ R' H',aJ R R'→(∀ p∈N,p∈H')→aS P B c o R' H' st λ R1 H1 F=>R1=R'∧H1=H'∧F=[(d,v)] :=
 λ _ _ _ h=>Ox.ia u z w ((aH.box (h _ hm)).one s) (by rw [hd]; exact hl) (.one hd) ⟨rfl,rfl,rfl⟩
section
variable {N:ai} {m:Nat} {v:Value}
theorem tQ(i:Nat)(ho:ops[i]? = some o)(f:∀ R' H',aJ R R'→(∀ p∈N,p∈H')→aS P B c o R' H' st λ R1 H1 u=>R1=R'∧H1=H'∧u=[(d,v)])(h:Any ab c (λ _=>N) ops k m (rem.erase i) R N ((d,v)::st))
  (b:o.dst=some d:=by rfl) (hw:bQ ops st o=some true:=by rfl) (s:g8 ops rem i (qf ops rem i)=true:=by decide +kernel) (j:rem.Nodup:=by decide):Any ab c (λ _=>N) ops k (m+1) rem R N st:=Any.tk i ho pp f h b hw s j
end
theorem oW(i:Nat){S:Nat→ai}{m n b:Nat}{x y:Operand}{l:List Bool}{cs:Array Value}{H':ai}(F:fO P t n)(hl:l.length=n)(z:cF H b (.cells cs e (0,0)) (.cells (bW l) e (0,0)) H')(j:∀ p∈S i,p∈H→p∈H')(h:Any ab c S ops k m (rem.erase i) R H' st)(ho:ops[i]? = some o:=by rfl)(hw:bQ ops st o=some true:=by rfl)
  (u:o.op = .store t x y:=by rfl) (G:aU st x=some (.pointer (some ⟨b,0,none⟩)):=by rfl) (J:aU st y=some (.agg (bW l)):=by rfl) (f:cs.size=n:=by simp) (hd:o.dst=none:=by rfl) (w:rem.filter (ga ops rem)=[i]:=by decide +kernel) (s:rem.Nodup:=by decide):Any ab c S ops k (m+1) rem R H st :=
 Any.on i ho hw (aS.to (Ox.cV u G J F (by simp [hl]) (cx bB (cx (eT λ _=>rfl) bB)) z (by simp [f]) (eE (by simp [hl,f])) hd (.refl _) ⟨rr,j,h⟩)) w s
theorem oS(i:Nat)(cs':Array Value){S:Nat→ai}{m b off:Nat}{x y:Operand}{v:Value}{cs:Array Value}{H':ai}(F:dn P t)(z:cF H b (.cells cs e (0,0)) (.cells cs' e (0,0)) H')(f:∀ p∈S i,p∈H→p∈H')(h:Any ab c S ops k m (rem.erase i) R H' st)(ho:ops[i]? = some o:=by rfl)(hw:bQ ops st o=some true:=by rfl)
  (u:o.op = .store t x y:=by rfl) (J:aU st x=some (.pointer (some ⟨b,off,none⟩)):=by rfl) (K:aU st y=some v:=by rfl) (G:v.oneCell'=true:=by rfl) (hl:Nat.blt off cs.size=true:=by rfl) (j:cs.setIfInBounds off v=cs':=by rfl) (hd:o.dst=none:=by rfl) (w:rem.filter (ga ops rem)=[i]:=by decide +kernel) (s:rem.Nodup:=by decide):Any ab c S ops k (m+1) rem R H st :=
 Any.on i ho hw (aS.to (Ox.eF u J K F G z hl j hd (.refl _) ⟨rr,f,h⟩)) w s
theorem jg{α:Type}{K:bH α}{q cap b:Nat}{es:List Value}{cs:Array Value}{f:Nat × Nat}{tl:ai}(x:α)(h:K R x es)(j:es.length=q:=by rfl)(he:es++[]=cs.toList:=by rfl):hQ K q R ((b,Obj.cells cs e f)::tl) (.slice (some ⟨b,0,none⟩) 1 cap) [x] :=
 hQ.lit z0 (a3.le (a3.cons h j a3.nil) he) rfl
end
end Go.Lg
