/- Models, operations, lists, maps, arrays, ranges over functions. Conditions: none. -/
import Derived.Test.YtikficpdfaajlaaGreatDoorQSWLgA
import Derived.Laws.RangeAny
import Derived.KernelRfl
namespace Go.Lg
open Go.Conc
def gI{S O:Type}(body:S→Option (S ⊕ O)):Nat→S→Option O
 | 0,_=>none
 | n+1,s=>match body s with
  | none=>none
  | some (.inl s')=>gI body n s'
  | some (.inr o)=>some o
open Classical in
noncomputable def bb{S O:Type}(body:S→Option (S ⊕ O))(s:S):Option O:=if h:∃ o n,gI body n s=some o then some h.choose else none
theorem yL{S O:Type}{body:S→Option (S ⊕ O)}:∀ {n m:Nat} {s:S} {o:O},n≤m→gI body n s=some o→gI body m s=some o
 | 0,_,_,_,_,h=>by cases h
 | n+1,0,_,_,hm,_=>by omega
 | n+1,m+1,s,o,hm,h=>by
  simp only [gI] at h ⊢
  cases hb:body s with
  | none=>rw [hb] at h; cases h
  | some x=>cases x with
   | inl s'=>rw [hb] at h; exact yL (by omega) h
   | inr o'=>rw [hb] at h; exact h
theorem yN{S O:Type}{body:S→Option (S ⊕ O)}{n:Nat}{s:S}{o:O}(h:gI body n s=some o):bb body s=some o:=by
 have hex:∃ o n,gI body n s=some o:=⟨o,n,h⟩
 unfold bb
 rw [dif_pos hex]
 obtain ⟨m,hm⟩:=hex.choose_spec
 have h1:=yL (Nat.le_max_left n m) h
 have h2:=yL (Nat.le_max_right n m) hm
 rw [h1] at h2
 exact h2.symm
theorem yM{S O:Type}{body:S→Option (S ⊕ O)}{s:S}{o:O}(h:bb body s=some o):∃ n,gI body n s=some o:=by
 unfold bb at h
 split at h
 ·rename_i hex
  cases h
  exact hex.choose_spec
 ·cases h
theorem gf{S O:Type}{body:S→Option (S ⊕ O)}{s:S}{o:O}(h:body s=some (.inr o)):bb body s=some o :=
 yN (n:=1) (by simp [gI,h])
theorem kq{S O:Type}{body:S→Option (S ⊕ O)}{s s':S}(h:body s=some (.inl s')):bb body s=bb body s':=by
 cases f:bb body s' with
 | some o =>
  obtain ⟨n,b⟩:=yM f
  exact yN (n:=n+1) (by simp [gI,h,b])
 | none =>
  cases h2:bb body s with
  | none=>rfl
  | some o =>
   obtain ⟨n,b⟩:=yM h2
   cases n with
   | zero=>cases b
   | succ n =>
    simp only [gI,h] at b
    rw [yN b] at f
    cases f
theorem af{α β:Type}{o:Option α}{f:α→Option β}{r:β}(h:o.bind f=some r):∃ x,o=some x∧f x=some r:=by
 cases o with
 | none=>cases h
 | some x=>exact ⟨x,rfl,h⟩
def ab{α:Type}(t:Bool)(a b:Option α):Option α:=match t with | true=>a | false=>b
theorem a4{α:Type}{t:Bool}{a b:Option α}{r:α}{G:Prop}(h:ab t a b=some r)(h1:t=true→a=some r→G)(h2:t=false→b=some r→G):G:=by
 cases t with
 | true=>exact h1 rfl h
 | false=>exact h2 rfl h
theorem ax{α:Type}{a b:α}(h:some a=some b):a=b:=eI h
def idx{α:Type}(xs:List α)(i:Int):Option α:=if 0≤i then xs[i.toNat]? else none
def dO{α:Type}(xs ys:List α):Option (List α):=if xs.length+ys.length≤16777216 then some (xs++ys) else none
def fP{α:Type}(xs:List α)(lo hi:Int):Option (List α):=if 0≤lo∧lo≤hi∧hi≤xs.length then some ((xs.take hi.toNat).drop lo.toNat) else none
theorem km{α:Type}{xs:List α}{i:Int}{x:α}(h:idx xs i=some x):0≤i∧i < xs.length∧xs[i.toNat]? = some x:=by
 unfold idx at h
 split at h
 ·have:=(eL.1 h).1
  exact ⟨‹_›,by omega,h⟩
 ·cases h
theorem Hn{α:Type}{xs ys b:List α}(h:dO xs ys=some b):xs.length+ys.length≤16777216∧b=xs++ys:=by
 unfold dO at h
 split at h
 ·cases h; exact ⟨‹_›,rfl⟩
 ·cases h
section
variable {P:Program} {B:Base} {main:Bool} {ae:Jd P B main} {c:Ctx} {R:aA} {H:ai} {st st':St} {k:List Item}
theorem U.bb{S O j:Type}{body:S→Option (S ⊕ O)}{cont:O→Option j}{s0:S}{r:j}{code:Code}(f:(bb body s0).bind cont=some r)(I:S→aA→ai→St→Prop)
  (G:∀ s R H st,I s R H st→∀ x,body s=some x→(∀ s',x = .inl s'→∀ R' H' st',I s' R' H' st'→U ae c R' H' st' (.inLoop code::k))→(∀ o,x = .inr o→cont o=some r)→U ae c R H st (.code code :: .inLoop code::k))
  (p:I s0 R H st):U ae c R H st (.code (.loop code)::k):=by
 obtain ⟨o,hl,J⟩:=af f
 obtain ⟨n,K⟩:=yM hl
 clear f hl
 have key:∀ n s R H st,gI body n s=some o→I s R H st→U ae c R H st (.code code :: .inLoop code::k):=by
  intro n
  induction n with
  | zero=>intro s R H st h; cases h
  | succ n L =>
   intro s R H st h w
   simp only [gI] at h
   cases hb:body s with
   | none=>rw [hb] at h; cases h
   | some x =>
    rw [hb] at h
    refine G s R H st w x hb (λ s' b R' H' st' F=>?_) (λ o' b=>?_)
    ·subst b; exact U.inLoop (L s' R' H' st' h F)
    ·subst b; cases h; exact J
 exact U.enterLoop (key n s0 R H st K p)
theorem U.known{t:Nat}{x b:Bool}{todo:List Item}(j:st.lookup t=some (.bool x))(hb:x=b)(h:U ae c R H ((t,.bool b)::st) todo):U ae c R H st todo:=by
 subst hb; exact λ tmps f=>h tmps (f.FW j)
theorem Any.cx{S:Nat→ai}{ops:Array Oper}{n:Nat}{rem:List Nat}{t:Nat}{x b:Bool}(j:st.lookup t=some (.bool x))(hb:x=b)(h:Any ae c S ops k n rem R H ((t,.bool b)::st)):Any ae c S ops k n rem R H st:=by
 subst hb; exact ⟨h.1,λ tmps f=>h.2 tmps (f.FW j)⟩
theorem U.dF{x:Operand}{th el:Code}{t:Bool}(f:aY st x=some (.bool t))(b:t=true)(h:U ae c R H st (.code th::k)):U ae c R H st (.code (.cond x th el)::k):=by subst b; exact U.cond_true f h
theorem U.cU{x:Operand}{th el:Code}{t:Bool}(f:aY st x=some (.bool t))(b:t=false)(h:U ae c R H st (.code el::k)):U ae c R H st (.code (.cond x th el)::k):=by subst b; exact U.cond_false f h
end
abbrev bY(α:Type):=aA→α→bn→Prop
class CM {α:Type} (C:bY α):Prop where
 mono:∀ {R R':aA} {x:α} {es:bn},aK R R'→C R x es→C R' x es
 one:∀ {R:aA} {x:α} {es:bn},C R x es→∀ u∈es,u.oneCell'=true
def CI(kd:IntKind):bY Int:=λ _ x es=>es=[.int kd x]
def CB:bY Bool:=λ _ x es=>es=[.bool x]
def CS:bY ByteArray:=λ _ x es=>es=[.string x]
instance {kd:IntKind}:CM (CI kd):=⟨λ _ h=>h,λ h=>by cases h; simp [Value.oneCell']⟩
instance:CM CB:=⟨λ _ h=>h,λ h=>by cases h; simp [Value.oneCell']⟩
instance:CM CS:=⟨λ _ h=>h,λ h=>by cases h; simp [Value.oneCell']⟩
structure a6 {α:Type} (C:bY α) (k:Nat) (R:aA) (xs:List α) (es:bn):Prop where
 len:es.length=xs.length * k
 at_:∀ (i:Nat) (x:α),xs[i]? = some x→∃ e1:bn,C R x e1∧e1.length=k∧∀ (j:Nat) (w:Value),e1[j]? = some w→es[i * k+j]? = some w
theorem a6.nil{α:Type}{C:bY α}{k:Nat}{R:aA}:a6 C k R [] []:=⟨by simp,by simp⟩
theorem a6.mono{α:Type}{C:bY α}[CM C]{k:Nat}{R R':aA}{xs:List α}{es:bn}(h:a6 C k R xs es)(b:aK R R'):a6 C k R' xs es :=
 ⟨h.len,λ i x f=>by obtain ⟨e1,h1,h2,h3⟩:=h.at_ i x f; exact ⟨e1,CM.mono b h1,h2,h3⟩⟩
theorem a6.append{α:Type}{C:bY α}{k:Nat}{R:aA}{xs ys:List α}{es p:bn}(h:a6 C k R xs es)(g:a6 C k R ys p):a6 C k R (xs++ys) (es++p):=by
 refine ⟨by rw [gi,gi,h.len,g.len,Nat.add_mul],λ i x b=>?_⟩
 by_cases hi:i < xs.length
 ·rw [jw hi] at b
  obtain ⟨e1,h1,h2,h3⟩:=h.at_ i x b
  refine ⟨e1,h1,h2,λ j w f=>?_⟩
  have:=h3 j w f
  rw [jw (eL.1 this).1]
  exact this
 ·rw [g1 (by omega)] at b
  obtain ⟨e1,h1,h2,h3⟩:=g.at_ _ x b
  refine ⟨e1,h1,h2,λ j w f=>?_⟩
  have:=h3 j w f
  have e:i * k+j=es.length+((i - xs.length) * k+j):=by
   rw [h.len]
   have:i=xs.length+(i - xs.length):=by omega
   rw [← Nat.add_assoc,← Nat.add_mul,← this]
  rw [e,g1 (by omega),Nat.add_sub_cancel_left]
  exact this
theorem a6.single{α:Type}{C:bY α}{k:Nat}{R:aA}{x:α}{es:bn}(h:C R x es)(b:es.length=k):a6 C k R [x] es:=by
 refine ⟨by simp [b],λ i y f=>?_⟩
 cases i with
 | zero=>cases f; exact ⟨es,h,b,λ j w p=>by simpa using p⟩
 | succ i=>simp at f
theorem a6.one{α:Type}{C:bY α}[CM C]{k:Nat}{R:aA}{xs:List α}{es:bn}(h:a6 C k R xs es):∀ u∈es,u.oneCell'=true:=by
 intro u hu
 obtain ⟨j,f⟩:=List.getElem?_of_mem hu
 have b:=(eL.1 f).1
 rw [h.len] at b
 have p:0 < k:=by cases k with | zero=>simp at b | succ k=>omega
 have hi:j / k < xs.length:=Nat.div_lt_of_lt_mul (by rw [Nat.mul_comm]; exact b)
 obtain ⟨e1,h1,h2,h3⟩:=h.at_ (j / k) _ (fy hi)
 have hm:j % k < e1.length:=by rw [h2]; exact Nat.mod_lt _ p
 have:=h3 (j % k) _ (fy hm)
 rw [show j / k * k+j % k=j by rw [Nat.mul_comm]; exact Nat.div_add_mod j k,f] at this
 cases this
 exact CM.one h1 _ (List.getElem_mem hm)
theorem a6.drop{α:Type}{C:bY α}{k n:Nat}{R:aA}{xs:List α}{es:bn}(h:a6 C k R xs es):a6 C k R (xs.drop n) (es.drop (n * k)):=by
 refine ⟨by simp [h.len,Nat.sub_mul],λ i x b=>?_⟩
 rw [List.getElem?_drop] at b
 obtain ⟨e1,h1,h2,h3⟩:=h.at_ _ x b
 refine ⟨e1,h1,h2,λ j w f=>?_⟩
 rw [List.getElem?_drop,← h3 j w f,Nat.add_mul,Nat.add_assoc]
theorem a6.take{α:Type}{C:bY α}{k n:Nat}{R:aA}{xs:List α}{es:bn}(h:a6 C k R xs es):a6 C k R (xs.take n) (es.take (n * k)):=by
 refine ⟨by simp only [gO,h.len]; exact Nat.mul_min_mul_right _ _ _,λ i x b=>?_⟩
 rw [List.getElem?_take] at b
 split at b
 ·rename_i hi
  obtain ⟨e1,h1,h2,h3⟩:=h.at_ _ x b
  refine ⟨e1,h1,h2,λ j w f=>?_⟩
  have p:j < k:=by rw [← h2]; exact (eL.1 f).1
  rw [List.getElem?_take,if_pos,h3 j w f]
  calc i * k+j < i * k+k:=by omega
   _=(i+1) * k:=by rw [Nat.add_mul,Nat.one_mul]
   _≤n * k:=Nat.mul_le_mul_right k hi
 ·cases b
def aa{α:Type}(C:bY α)(k:Nat)(R:aA)(v:Value)(xs:List α):Prop :=
 ∃ A cap es,v = .slice A xs.length cap∧a6 C k R xs es∧xs.length≤cap∧(xs≠[]→∃ b o arr e f,A=some ⟨b,o,none⟩∧R b=some (.cells arr e f)∧∀ (j:Nat) (w:Value),es[j]? = some w→arr[o+j]? = some w)
theorem aa.mono{α:Type}{C:bY α}[CM C]{k:Nat}{R R':aA}{v:Value}{xs:List α}(h:aa C k R v xs)(f:aK R R'):aa C k R' v xs:=by
 obtain ⟨A,cap,es,h1,h2,F,h3⟩:=h
 refine ⟨A,cap,es,h1,h2.mono f,F,λ G=>?_⟩
 obtain ⟨b,o,arr,e,j,p,s,w⟩:=h3 G
 exact ⟨b,o,arr,e,j,p,f _ _ s,w⟩
theorem aa.nil{α:Type}{C:bY α}{k:Nat}{R:aA}{A:Option Addr}{cap:Nat}:aa C k R (.slice A 0 cap) []:=⟨A,cap,[],rfl,.nil,Nat.zero_le _,λ h=>absurd rfl h⟩
def fz{α:Type}(C:bY α)(k:Nat):bY (List α):=λ R xs es=>∃ v,es=[v]∧aa C k R v xs
instance {α:Type} {C:bY α} [CM C] {k:Nat}:CM (fz C k):=⟨λ b ⟨v,h1,h2⟩=>⟨v,h1,h2.mono b⟩,λ ⟨v,h1,A,cap,es,h2,_⟩=>by subst h1; subst h2; simp [Value.oneCell']⟩
def a7{α:Type}(C:bY α)(k e:Nat)(R:aA)(v:Value)(xs:List α)(Hs:ai):Prop :=
 (∃ A,v = .slice A 0 0∧xs=[]∧Hs=[])∨∃ b cap cs es,v = .slice (some ⟨b,0,none⟩) xs.length cap∧Hs=[(b,.cells cs e (0,0))]∧cs.size=cap * k∧xs.length≤cap∧a6 C k R xs es∧∀ (j:Nat) (w:Value),es[j]? = some w→cs[j]? = some w
theorem a7.mono{α:Type}{C:bY α}[CM C]{k e:Nat}{R R':aA}{v:Value}{xs:List α}{Hs:ai}(h:a7 C k e R v xs Hs)(f:aK R R'):a7 C k e R' v xs Hs:=by
 rcases h with h | ⟨b,cap,cs,es,h1,h2,h3,h4,h5,h6⟩
 ·exact .inl h
 ·exact .inr ⟨b,cap,cs,es,h1,h2,h3,h4,h5.mono f,h6⟩
theorem a7.nil{α:Type}{C:bY α}{k e:Nat}{R:aA}{A:Option Addr}:a7 C k e R (.slice A 0 0) [] []:=.inl ⟨A,rfl,rfl,rfl⟩
def h8{α:Type}(C:bY α)(k:Nat)(R:aA)(H:ai)(v:Value)(ys:List α):Prop :=
 ∃ A cap es,v = .slice A ys.length cap∧a6 C k R ys es∧(ys≠[]→∃ b o,A=some ⟨b,o,none⟩∧aI R H b o es)
theorem aa.arg{α:Type}{C:bY α}{k:Nat}{R:aA}{H:ai}{v:Value}{xs:List α}(h:aa C k R v xs):h8 C k R H v xs:=by
 obtain ⟨A,cap,es,h1,h2,_,h3⟩:=h
 refine ⟨A,cap,es,h1,h2,λ J=>?_⟩
 obtain ⟨b,o,arr,e,f,p,s,F⟩:=h3 J
 exact ⟨b,o,p,λ j w G=>⟨rfl,arr,e,f,.inl s,F j w G⟩⟩
theorem h8.lit{α:Type}{C:bY α}{k e n cap b:Nat}{R:aA}{H:ai}{ys:List α}{cs:aU}{f:Nat × Nat}(hm:(b,Obj.cells cs e f)∈H)(p:a6 C k R ys cs.toList)(F:ys.length=n):h8 C k R H (.slice (some ⟨b,0,none⟩) n cap) ys:=by
 subst F
 exact ⟨_,cap,cs.toList,rfl,p,λ _=>⟨b,0,rfl,λ j w s=>⟨rfl,cs,e,f,.inr hm,by simpa using s⟩⟩⟩
def fX(G:ai→ai):Prop:=∃ A D,∀ X,G X=A++(X++D)
theorem fX.set{G:ai→ai}(f:fX G){b:Nat}{o o':Obj}:dg (G [(b,o)]) b o o' (G [(b,o')]):=by
 obtain ⟨A,D,h⟩:=f
 rw [h,h]
 clear h
 induction A with
 | nil=>exact .here
 | cons p A j=>exact .there j
end Go.Lg
namespace Go.Lg
open Go.Conc
section
variable {P:Program} {B:Base} {main:Bool} {ae:Jd P B main} {c:Ctx} {R:aA} {H H':ai} {st st':St} {o:Oper} {C:aA→ai→St→Prop}
def lL(P:Program)(t:TypeId)(v:Value)(i:Int)(b n:Nat):Prop:=∀ kd,aj P (Instr.indexAt t v (.int kd i)) (.pointer (some ⟨b,n,none⟩))
theorem aa.elem{α:Type}{K:bY α}{k t e:Nat}{v:Value}{xs:List α}{i:Int}{x:α}(h:aa K k R v xs)(M:gk P t e k)(hi:idx xs i=some x) :
  ∃ b n es,K R x es∧aI R [] b n es∧lL P t v i b n:=by
 obtain ⟨h1,h2,h3⟩:=km hi
 obtain ⟨A,cap,es,rfl,G,_,J⟩:=h
 obtain ⟨b,o,arr,f,p,rfl,s,F⟩:=J (by rintro rfl; simp at h3)
 obtain ⟨e1,f1,f2,f3⟩:=G.at_ _ _ h3
 refine ⟨b,o+i.toNat * k,e1,f1,λ j w L=>⟨rfl,arr,f,p,.inl s,?_⟩,λ kd=>?_⟩
 ·have:=F _ _ (f3 j w L)
  simpa [Nat.add_assoc] using this
 ·have:=Af (P:=P) (b:=b) (m:=o) (cap:=cap) (kd:=kd) M (j:=i.toNat) (len:=xs.length) (by omega)
  rwa [Int.toNat_of_nonneg h1] at this
theorem Ox.uP{x y:Operand}{t:TypeId}{v:Value}{kd:IntKind}{i:Int}{b n:Nat}(j:o.op = .indexAddr t x y)(G:aY st x=some v)(J:aY st y=some (.int kd i))(F:lL P t v i b n)
  (hd:bO o.dst c.n) (w:aB (bT o.dst (.pointer (some ⟨b,n,none⟩)) st) st') (h:C R H st'):aQ P B c o R H st C :=
 Ox.fU (s:=λ f=>Instr.indexAt t (f x) (f y)) (by rw [j]; rfl) hd (λ f=>by simp only [execOp,j]) (λ f p=>by rw [p x _ G,p y _ J]; exact F kd) w h
theorem Dh{t e len k b m:Nat}{i:Int}(f:jx P t len e k)(hi:0≤i∧i < len):lL P t (.pointer (some ⟨b,m,none⟩)) i b (m+i.toNat * k):=λ kd=>by
 have:=Tx (P:=P) (b:=b) (m:=m) (kd:=kd) f (j:=i.toNat) (by omega)
 rwa [Int.toNat_of_nonneg hi.1] at this
theorem Ox.ht{α:Type}{K:bY α}{k:Nat}{x:Operand}{t e:TypeId}{v:Value}{xs:List α}(b:o.op = .call ⟨.builtin .len,#[x],#[t]⟩)(p:aY st x=some v)(hl:aa K k R v xs)(j:P.underlying t=some (.slice e))
  (hd:bO o.dst c.n) (f:aB (bT o.dst (.int .i64 (xs.length:Int)) st) st') (h:C R H st'):aQ P B c o R H st C:=by
 obtain ⟨A,cap,es,rfl,_⟩:=hl
 exact Ox.len b p j hd f h
theorem Ox.r5{α:Type}{K:bY α}{k w:Nat}{x:Operand}{t e:TypeId}{v:Value}{xs:List α}{Hs:ai}(f:o.op = .call ⟨.builtin .len,#[x],#[t]⟩)(s:aY st x=some v)(hl:a7 K k w R v xs Hs)(p:P.underlying t=some (.slice e))
  (hd:bO o.dst c.n) (j:aB (bT o.dst (.int .i64 (xs.length:Int)) st) st') (h:C R H st'):aQ P B c o R H st C:=by
 rcases hl with ⟨A,rfl,rfl,_⟩ | ⟨b,cap,cs,es,rfl,_⟩
 ·exact Ox.len f s p hd j h
 ·exact Ox.len f s p hd j h
def i64(z:Int):Int:=IntKind.wrap .i64 z
theorem uM{z:Int}(h : -9223372036854775808≤z∧z≤9223372036854775807):i64 z=z:=GL h
theorem Ox.ar{x y:Operand}{bo:BinOp}{t u:TypeId}{a b z:Int}{kd:IntKind}(j:o.op = .binOp bo t x y u)(G:aY st x=some (.int kd a))(J:aY st y=some (.int kd b))(p:w7 bo a b=some z)
  (hd:bO o.dst c.n) (F:aB (bT o.dst (.int kd (kd.wrap z)) st) st') (h:C R H st'):aQ P B c o R H st C :=
 Ox.fU (s:=λ f=>do eqGuard bo t x y (f x) (f y); binOp bo t (f x) (f y)) (by rw [j]; rfl) hd (λ f=>by simp only [execOp,j]) (λ f w=>by
  rw [w x _ G,w y _ J]
  refine aj.bt (nX _ _ _ _ _ _ _ _) ?_
  cases bo <;> simp only [w7,ey,reduceCtorEq] at p <;> subst p <;> simp only [binOp,ne_eq,fW,if_false,Op.intArith] <;> exact aj.bj _) F h
theorem Ox.Fb{x:Operand}{t:TypeId}{a:Int}{kd:IntKind}(f:o.op = .unOp .neg t x)(p:aY st x=some (.int kd a))
  (hd:bO o.dst c.n) (j:aB (bT o.dst (.int kd (kd.wrap (0 - a))) st) st') (h:C R H st'):aQ P B c o R H st C :=
 Ox.fU (s:=λ b=>Op.unary .neg (b x)) (by rw [f]; rfl) hd (λ b=>by simp only [execOp,f]) (λ b w=>by
  rw [w x _ p]
  simp only [Op.unary,Op.intArith]; exact aj.bj _) j h
def hy(a b:Int):b5:=if b=0 then none else some (a.tmod b)
def gp(a b:Int):b5:=if b=0 then none else some (i64 (a.tdiv b))
theorem Ox.rem{x y:Operand}{t u:TypeId}{a b z:Int}{kd:IntKind}(p:o.op = .binOp .rem t x y u)(G:aY st x=some (.int kd a))(J:aY st y=some (.int kd b))(j:hy a b=some z)
  (hd:bO o.dst c.n) (F:aB (bT o.dst (.int kd z) st) st') (h:C R H st'):aQ P B c o R H st C :=
 Ox.fU (s:=λ f=>do eqGuard .rem t x y (f x) (f y); binOp .rem t (f x) (f y)) (by rw [p]; rfl) hd (λ f=>by simp only [execOp,p]) (λ f w=>by
  rw [w x _ G,w y _ J]
  refine aj.bt (nX _ _ _ _ _ _ _ _) ?_
  unfold hy at j
  split at j
  ·cases j
  ·cases j; simp only [binOp,ne_eq,fW,if_false,Op.intDiv, *]; exact aj.bj _) F h
theorem Ox.quo{x y:Operand}{t u:TypeId}{a b z:Int}(p:o.op = .binOp .quo t x y u)(G:aY st x=some (.int .i64 a))(J:aY st y=some (.int .i64 b))(j:gp a b=some z)
  (hd:bO o.dst c.n) (F:aB (bT o.dst (.int .i64 z) st) st') (h:C R H st'):aQ P B c o R H st C :=
 Ox.fU (s:=λ f=>do eqGuard .quo t x y (f x) (f y); binOp .quo t (f x) (f y)) (by rw [p]; rfl) hd (λ f=>by simp only [execOp,p]) (λ f w=>by
  rw [w x _ G,w y _ J]
  refine aj.bt (nX _ _ _ _ _ _ _ _) ?_
  unfold gp at j
  split at j
  ·cases j
  ·cases j; simp only [binOp,ne_eq,fW,if_false,Op.intDiv, *]; exact aj.bj _) F h
def gX(kd:IntKind)(a b:Int):b5:=if b < 0 then none else some (kd.wrap (a * 2 ^ (min b.toNat kd.bits)))
def eR(kd:IntKind)(a b:Int):b5:=if b < 0 then none else some (a.fdiv (2 ^ (min b.toNat kd.bits)))
theorem Ox.shl{x y:Operand}{t u:TypeId}{a b z:Int}{kd K:IntKind}(p:o.op = .binOp .shl t x y u)(G:aY st x=some (.int kd a))(J:aY st y=some (.int K b))(j:gX kd a b=some z)
  (hd:bO o.dst c.n) (F:aB (bT o.dst (.int kd z) st) st') (h:C R H st'):aQ P B c o R H st C :=
 Ox.fU (s:=λ f=>do eqGuard .shl t x y (f x) (f y); binOp .shl t (f x) (f y)) (by rw [p]; rfl) hd (λ f=>by simp only [execOp,p]) (λ f w=>by
  rw [w x _ G,w y _ J]
  refine aj.bt (nX _ _ _ _ _ _ _ _) ?_
  unfold gX at j
  split at j
  ·cases j
  ·cases j; simp only [binOp,Op.shift,if_false, *]; exact aj.bj _) F h
theorem Ox.shr{x y:Operand}{t u:TypeId}{a b z:Int}{kd K:IntKind}(p:o.op = .binOp .shr t x y u)(G:aY st x=some (.int kd a))(J:aY st y=some (.int K b))(j:eR kd a b=some z)
  (hd:bO o.dst c.n) (F:aB (bT o.dst (.int kd z) st) st') (h:C R H st'):aQ P B c o R H st C :=
 Ox.fU (s:=λ f=>do eqGuard .shr t x y (f x) (f y); binOp .shr t (f x) (f y)) (by rw [p]; rfl) hd (λ f=>by simp only [execOp,p]) (λ f w=>by
  rw [w x _ G,w y _ J]
  refine aj.bt (nX _ _ _ _ _ _ _ _) ?_
  unfold eR at j
  split at j
  ·cases j
  ·cases j; simp only [binOp,Op.shift,if_false, *]; exact aj.bj _) F h
def cC(bo:BinOp)(kd:IntKind)(a b:Int):b5 :=
 let a:=BitVec.ofInt kd.bits a
 let b:=BitVec.ofInt kd.bits b
 match bo with
 | .and=>some (kd.wrap (a &&& b).toNat)
 | .or=>some (kd.wrap (a ||| b).toNat)
 | .xor=>some (kd.wrap (a ^^^ b).toNat)
 | .andNot=>some (kd.wrap (a &&& ~~~b).toNat)
 | _=>none
theorem Ox.bits{x y:Operand}{bo:BinOp}{t u:TypeId}{a b z:Int}{kd:IntKind}(j:o.op = .binOp bo t x y u)(G:aY st x=some (.int kd a))(J:aY st y=some (.int kd b))(p:cC bo kd a b=some z)
  (hd:bO o.dst c.n) (F:aB (bT o.dst (.int kd z) st) st') (h:C R H st'):aQ P B c o R H st C :=
 Ox.fU (s:=λ f=>do eqGuard bo t x y (f x) (f y); binOp bo t (f x) (f y)) (by rw [j]; rfl) hd (λ f=>by simp only [execOp,j]) (λ f w=>by
  rw [w x _ G,w y _ J]
  refine aj.bt (nX _ _ _ _ _ _ _ _) ?_
  cases bo <;> simp only [cC,ey,reduceCtorEq] at p <;> subst p <;> simp only [binOp,ne_eq,fW,if_false,Op.intBits] <;> exact aj.bj _) F h
def BU:BinOp→ByteArray→ByteArray→a5
 | .eql,x,y=>some (x.toList == y.toList)
 | .neq,x,y=>some (!(x.toList == y.toList))
 | _,_,_=>none
theorem Tw(op:BinOp)(t:TypeId)(x y:Operand)(a b:ByteArray):aj P (eqGuard op t x y (.string a) (.string b)) ():=by
 unfold eqGuard
 cases op <;> exact aj.bj _
theorem Ox.BV{x y:Operand}{bo:BinOp}{t u:TypeId}{a b:ByteArray}{r:Bool}(j:o.op = .binOp bo t x y u)(G:aY st x=some (.string a))(J:aY st y=some (.string b))(p:BU bo a b=some r)
  (hd:bO o.dst c.n) (F:aB (bT o.dst (.bool r) st) st') (h:C R H st'):aQ P B c o R H st C :=
 Ox.fU (s:=λ f=>do eqGuard bo t x y (f x) (f y); binOp bo t (f x) (f y)) (by rw [j]; rfl) hd (λ f=>by simp only [execOp,j]) (λ f w=>by
  rw [w x _ G,w y _ J]
  refine aj.bt (Tw _ _ _ _ _ _) ?_
  cases bo <;> simp only [BU,ey,reduceCtorEq] at p <;> subst p <;> simp only [binOp,Op.stringOp] <;> exact aj.bj _) F h
def rD:BinOp→Bool→Bool→a5
 | .eql,x,y=>some (x == y)
 | .neq,x,y=>some (!(x == y))
 | _,_,_=>none
theorem Tv(op:BinOp)(t:TypeId)(x y:Operand)(a b:Bool):aj P (eqGuard op t x y (.bool a) (.bool b)) ():=by
 unfold eqGuard
 cases op <;> exact aj.bj _
theorem Ts{t:TypeId}(f:P.underlying t=some .bool)(a b:Bool):aj P (Op.equal t (.bool a) (.bool b)) (a == b):=by
 unfold Op.equal Op.maxDepth
 rw [Op.equalIn]
 exact aj.bt (aj.underlying f) (aj.bj _)
theorem Ox.rE{x y:Operand}{bo:BinOp}{t u:TypeId}{a b r:Bool}(j:o.op = .binOp bo t x y u)(J:aY st x=some (.bool a))(K:aY st y=some (.bool b))(G:P.underlying t=some .bool)(p:rD bo a b=some r)
  (hd:bO o.dst c.n) (F:aB (bT o.dst (.bool r) st) st') (h:C R H st'):aQ P B c o R H st C :=
 Ox.fU (s:=λ f=>do eqGuard bo t x y (f x) (f y); binOp bo t (f x) (f y)) (by rw [j]; rfl) hd (λ f=>by simp only [execOp,j]) (λ f w=>by
  rw [w x _ J,w y _ K]
  refine aj.bt (Tv _ _ _ _ _ _) ?_
  cases bo <;> simp only [rD,ey,reduceCtorEq] at p <;> subst p <;> simp only [binOp] <;> exact aj.bt (Ts G a b) (aj.bj _)) F h
theorem Ox.pI{x y:Operand}{bo:BinOp}{t u:TypeId}{a b:aU}{q:Bool}(p:o.op = .binOp bo t x y u)(L:aY st x=some (.agg a))(M:aY st y=some (.agg b))(G:P.eqGuardType P.depth t=false)(w:aj P (Op.equal t (.agg a) (.agg b)) q){r:Bool}(j:rD bo q true=some r)
  (hd:bO o.dst c.n) (K:aB (bT o.dst (.bool r) st) st') (h:C R H st'):aQ P B c o R H st C :=
 Ox.fU (s:=λ f=>do eqGuard bo t x y (f x) (f y); binOp bo t (f x) (f y)) (by rw [p]; rfl) hd (λ f=>by simp only [execOp,p]) (λ f F=>by
  rw [F x _ L,F y _ M]
  have J:aj P (eqGuard bo t x y (.agg a) (.agg b)) ():=by
   unfold eqGuard
   cases bo <;> simp only [rD,reduceCtorEq] at j <;> exact aj.bt aj.program (aj.bt aj.program (by simp only [G]; exact aj.bj _))
  refine aj.bt J ?_
  cases bo <;> simp only [rD,ey,reduceCtorEq] at j <;> subst j <;> simp only [binOp]
  ·exact aj.bt w (by cases q <;> exact aj.bj _)
  ·exact aj.bt w (by cases q <;> exact aj.bj _)) K h
def ei:Int→ah→Int
 | x,[]=>x
 | x,y::r=>ei (if y > x then y else x) r
def jQ:Int→ah→Int
 | x,[]=>x
 | x,y::r=>jQ (if y < x then y else x) r
theorem Gv{kd:IntKind}:∀ (l:ah) (x:Int),aj P ((l.map (Value.int kd)).foldlM Builtin.max2 (.int kd x)) (.int kd (ei x l))
 | [],x=>aj.bj _
 | y::r,x=>by
  simp only [List.map_cons,List.foldlM_cons,ei]
  exact aj.bt (a:=.int kd (if y > x then y else x)) (aj.bj _) (Gv r _)
theorem Gw{kd:IntKind}:∀ (l:ah) (x:Int),aj P ((l.map (Value.int kd)).foldlM Builtin.min2 (.int kd x)) (.int kd (jQ x l))
 | [],x=>aj.bj _
 | y::r,x=>by
  simp only [List.map_cons,List.foldlM_cons,jQ]
  exact aj.bt (a:=.int kd (if y < x then y else x)) (aj.bj _) (Gw r _)
theorem Ox.max{xs:Array Operand}{ts:Array TypeId}{kd:IntKind}{a:Int}{l:ah}(b:o.op = .call ⟨.builtin .max,xs,ts⟩)(p:eO st xs.toList=some (.int kd a::l.map (Value.int kd)))
  (hd:bO o.dst c.n) (j:aB (bT o.dst (.int kd (ei a l)) st) st') (h:C R H st'):aQ P B c o R H st C :=
 Ox.val (by rw [b]; rfl) hd (λ f s=>by
  simp only [execOp,b]
  refine aj.bt (a:=⟨.builtin .max ts o.type (xs.map λ | .const _=>true | _=>false),xs.map f⟩) (aj.bj _) ?_
  simp only [invoke,builtin,Builtin.max_]
  have e:(xs.map f).toList = .int kd a::l.map (Value.int kd):=by simpa using oc s _ _ p
  rw [e]
  exact aj.bt (Gv l a) (aj.bj _)) j h
theorem Ox.min{xs:Array Operand}{ts:Array TypeId}{kd:IntKind}{a:Int}{l:ah}(b:o.op = .call ⟨.builtin .min,xs,ts⟩)(p:eO st xs.toList=some (.int kd a::l.map (Value.int kd)))
  (hd:bO o.dst c.n) (j:aB (bT o.dst (.int kd (jQ a l)) st) st') (h:C R H st'):aQ P B c o R H st C :=
 Ox.val (by rw [b]; rfl) hd (λ f s=>by
  simp only [execOp,b]
  refine aj.bt (a:=⟨.builtin .min ts o.type (xs.map λ | .const _=>true | _=>false),xs.map f⟩) (aj.bj _) ?_
  simp only [invoke,builtin,Builtin.min_]
  have e:(xs.map f).toList = .int kd a::l.map (Value.int kd):=by simpa using oc s _ _ p
  rw [e]
  exact aj.bt (Gw l a) (aj.bj _)) j h
theorem Ox.pK{x:Operand}{t u:TypeId}{kd J G:IntKind}{a:Int}(f:o.op = .convert t u x)(w:aY st x=some (.int J a))(p:P.underlying t=some (.int G))(hu:P.underlying u=some (.int kd))
  (hd:bO o.dst c.n) (j:aB (bT o.dst (.int kd (kd.wrap a)) st) st') (h:C R H st'):aQ P B c o R H st C :=
 Ox.fU (s:=λ b=>convert t u (b x)) (by rw [f]; rfl) hd (λ b=>by simp only [execOp,f]) (λ b F=>by
  rw [F x _ w]
  unfold convert
  refine aj.bt (aj.underlying p) (aj.bt (aj.underlying hu) ?_)
  exact aj.bj _) j h
theorem rG{α:Type}{xs ys:List α}{lo hi:Int}(h:fP xs lo hi=some ys):0≤lo∧lo≤hi∧hi≤xs.length∧ys=(xs.take hi.toNat).drop lo.toNat:=by
 unfold fP at h
 split at h
 ·cases h; rename_i h; exact ⟨h.1,h.2.1,h.2.2,rfl⟩
 ·cases h
def r8(st:St):Option Operand→b5
 | none=>some 0
 | some x=>match aY st x with | some (.int _ i)=>some i | _=>none
def rY(st:St)(n:Nat):Option Operand→b5
 | none=>some n
 | some x=>match aY st x with | some (.int _ i)=>some i | _=>none
theorem wG{kd:IntKind}{i:Int}{y:Nat}{b:BoundsCode}(h:0≤i∧i≤y):aj P (Instr.sliceBound (.int kd i) y b) i.toNat:=by
 unfold Instr.sliceBound
 refine aj.bt (a:=(kd,i)) (aj.bj _) ?_
 simp only [h,and_self,if_true]
 exact aj.bj _
theorem wH{j:Operand→Value}(p:Knows st j){len cap:Nat}{lo hi:Option Operand}{l h:Int}(hl:r8 st lo=some l)(f:rY st len hi=some h)(hb:0≤l∧l≤h∧h≤len)(s:len≤cap) :
  aj P (Instr.sliceBounds true len cap (lo.map j) (hi.map j) none) (l.toNat,h.toNat,cap):=by
 have h1:(lo=none∧l=0)∨∃ x kd,lo=some x∧j x = .int kd l:=by
  cases lo with
  | none=>simp only [r8,ey] at hl; exact .inl ⟨rfl,hl.symm⟩
  | some x =>
   simp only [r8] at hl
   cases b:aY st x with
   | none=>simp [b] at hl
   | some v =>
    cases v <;> simp [b] at hl
    subst hl
    exact .inr ⟨x,_,rfl,p x _ b⟩
 have h2:(hi=none∧h=len)∨∃ x kd,hi=some x∧j x = .int kd h:=by
  cases hi with
  | none=>simp only [rY,ey] at f; exact .inl ⟨rfl,f.symm⟩
  | some x =>
   simp only [rY] at f
   cases b:aY st x with
   | none=>simp [b] at f
   | some v =>
    cases v <;> simp [b] at f
    subst f
    exact .inr ⟨x,_,rfl,p x _ b⟩
 unfold Instr.sliceBounds
 rcases h1 with ⟨rfl,rfl⟩ | ⟨x,F,rfl,b⟩ <;> rcases h2 with ⟨rfl,rfl⟩ | ⟨y,G,rfl,w⟩ <;> simp only [Option.map_none,Option.map_some, *]
 ·exact aj.bt (a:=cap) (aj.bj _) (aj.bt (a:=(len:Int).toNat) (by rw [cI]; exact aj.bj _) (aj.bt (a:=(0:Int).toNat) (aj.bj _) (aj.bj _)))
 ·exact aj.bt (a:=cap) (aj.bj _) (aj.bt (a:=h.toNat) (wG ⟨by omega,by omega⟩) (aj.bt (a:=(0:Int).toNat) (aj.bj _) (aj.bj _)))
 ·exact aj.bt (a:=cap) (aj.bj _) (aj.bt (a:=(len:Int).toNat) (by rw [cI]; exact aj.bj _) (aj.bt (a:=l.toNat) (wG ⟨by omega,by omega⟩) (aj.bj _)))
 ·exact aj.bt (a:=cap) (aj.bj _) (aj.bt (a:=h.toNat) (wG ⟨by omega,by omega⟩) (aj.bt (a:=l.toNat) (wG ⟨by omega,by omega⟩) (aj.bj _)))
end
theorem nJ:∀ (vs:bn) (cs:aU) (o j:Nat),o+vs.length≤cs.size→(dL cs o vs)[j]? = if o≤j∧j < o+vs.length then vs[j - o]? else cs[j]?
 | [],cs,o,j,_=>by
  simp only [dL,List.length_nil,Nat.add_zero]
  rw [if_neg (by omega)]
 | v::r,cs,o,j,h=>by
  simp only [List.length_cons] at h
  simp only [dL]
  rw [nJ r _ (o+1) j (by simp; omega)]
  by_cases h1:o+1≤j∧j < o+1+r.length
  ·rw [if_pos h1,if_pos (by simp only [List.length_cons]; omega)]
   have:j - o=(j - (o+1))+1:=by omega
   rw [this]; simp
  ·rw [if_neg h1]
   by_cases h2:o=j
   ·subst h2
    rw [if_pos (by simp only [List.length_cons]; omega)]
    rw [j4 (by omega)]
    simp
   ·rw [if_neg (by simp only [List.length_cons]; omega),gB h2]
structure iM (P:Program) (t e k:Nat):Prop where
 sl:P.underlying t=some (.slice e)
 size:aj P (sizeOf e) k
 info:∃ i,P.info? e=some i∧i.bytes≤65536
 zero:∃ z,aj P (zeroValue e) z∧z.cells.size=k
section
variable {P:Program} {B:Base} {main:Bool} {ae:Jd P B main} {c:Ctx} {R:aA} {H H':ai} {st st':St} {o:Oper}
theorem aL.weaken{α:Type}{s:Sem α}{K b:α→aA→ai→Prop}(h:aL P B R H s K)(p:∀ a R' H',K a R' H'→∃ cc cR,(∀ w,Fits B R' H' w→dN B R' H' w cc cR w)∧b a cc cR):aL P B R H s b:=by
 intro w hw
 obtain ⟨a,w',R',H',h1,h2,h3,h4⟩:=h w hw
 obtain ⟨cc,cR,f,j⟩:=p a R' H' h4
 exact ⟨a,w',cc,cR,h1,h2,h3.trans (f w' h3.fits),j⟩
theorem aL.firstCells{α:Type}{K:bY α}{k:Nat}{u:Value}{ys:List α}{Q:aU→aA→ai→Prop}(hu:h8 K k R H u ys)(j:∀ es:bn,a6 K k R ys es→Q es.toArray R H):aL P B R H (Builtin.firstCells k ys.length u) Q:=by
 obtain ⟨A,cap,es,rfl,f,s⟩:=hu
 cases ys with
 | nil =>
  have p:es=[]:=by have:=f.len; simpa using this
  subst p
  cases A with
  | none=>exact aL.cN (j [] f)
  | some a =>
   simp only [Builtin.firstCells,List.length_nil,Nat.zero_mul,loadCells]
   exact aL.cN (j [] f)
 | cons y ys =>
  obtain ⟨b,o,rfl,w⟩:=s (by simp)
  simp only [Builtin.firstCells,loadCells]
  rw [← f.len]
  exact aL.loadCellsFrom es 0 #[] (by simpa using w) (by simpa using j es f)
theorem a7.arg{α:Type}{K:bY α}{k e:Nat}{G:ai→ai}(f:fX G){v:Value}{xs:List α}{Hs:ai}(h:a7 K k e R v xs Hs):h8 K k R (G Hs) v xs:=by
 rcases h with ⟨A,rfl,rfl,_⟩ | ⟨b,cap,cs,es,rfl,rfl,h3,h4,h5,h6⟩
 ·exact ⟨A,0,[],rfl,.nil,λ h=>absurd rfl h⟩
 ·refine ⟨_,cap,es,rfl,h5,λ _=>⟨b,0,rfl,λ j w s=>⟨rfl,cs,e,(0,0),.inr ?_,by simpa using h6 j w s⟩⟩⟩
  obtain ⟨A,D,p⟩:=f
  rw [p]; simp
theorem QD{n m:Nat}(h:m < n)(p:n≤16777216):Builtin.nextslicecap n m≤67108864:=by
 unfold Builtin.nextslicecap
 split
 ·omega
 ·split
  ·omega
  ·have:∀ (r c:Nat),c≤16777216→Builtin.growBy n r c≤67108864:=by
    intro r
    induction r with
    | zero=>intro c b; simp only [Builtin.growBy]; omega
    | succ r f =>
     intro c b
     simp only [Builtin.growBy]
     split
     ·omega
     ·rename_i j
      by_cases h2:c+(c+768) / 4≤16777216
      ·exact f _ h2
      ·
       cases r with
       | zero=>simp only [Builtin.growBy]; omega
       | succ r=>simp only [Builtin.growBy]; rw [if_pos (by omega)]; omega
   exact this 4 m (by omega)
theorem aL.append{α:Type}{K:bY α}[CM K]{k t e ak T:Nat}{G:ai→ai}(Y:fX G){v u:Value}{xs ys:List α}{Hs:ai}{V:TypeDesc}(M:iM P t e k)(ay:P.underlying ak=some V)(ao:∀ kd,V ≠ .int kd)
  (Z:a7 K k e R v xs Hs) (hu:h8 K k R (G Hs) u ys) (hl:xs.length+ys.length≤16777216) {Q:Value→aA→ai→Prop} (ab:∀ v' ac,a7 K k e R v' (xs++ys) ac→Q v' R (G ac)) :
  aL P B R (G Hs) (Builtin.append_ #[t,ak] T #[v,u]) Q:=by
 obtain ⟨A2,aE,aH,aw⟩:=id hu
 have ax:∃ base cap,v = .slice base xs.length cap:=by
  rcases Z with ⟨A,rfl,rfl,_⟩ | ⟨b,cap,cs,es,rfl,_⟩
  ·exact ⟨A,0,rfl⟩
  ·exact ⟨_,cap,rfl⟩
 obtain ⟨base,cap,rfl⟩:=ax
 obtain ⟨i,hi,an⟩:=M.info
 obtain ⟨z,aB,aC⟩:=M.zero
 have hlen:aj P (Builtin.lenOf u) ys.length:=by rw [aw.1]; exact aj.bj _
 have run:aL P B R (G Hs) (do
   let eD:=xs.length+ys.length
   if eD≤cap then do
    let new ← Builtin.firstCells k ys.length u
    if let some a:=base then storeCells (a.add (xs.length * k)) new.toList
    Pure.pure (Value.slice base eD cap)
   else do
    if (eD:Int) > IntKind.i64.max∧(false=true∨(← typeInfo e).bytes=0) then runtimePanic (.error "growslice: len out of range")
    if Builtin.nextslicecap eD cap * (← typeInfo e).bytes > 2 ^ 48 then (if false=true then runtimePanic (.error "growslice: len out of range") else do
     if !(← Builtin.mayShare k xs.length ys.length base u) then mark .noRoom
     unsupported (.resourceLimit "append: a slice or a string whose bytes no memory bears"))
    let p ← Go.choose (Question.appendCap eD cap e)
    askRoom (p * (← typeInfo e).bytes)
    let old ← Builtin.firstCells k xs.length (.slice base xs.length cap)
    let new ← Builtin.firstCells k ys.length u
    let rest:=Builtin.zeroCells (← zeroValue e).cells (p - eD)
    Pure.pure (Value.slice (some (← newRow e (old++new++rest))) eD p)) Q:=by
  dsimp only
  by_cases F:xs.length+ys.length≤cap
  ·rw [if_pos F]
   refine aL.cE (aL.firstCells hu λ es J=>?_)
   rcases Z with ⟨A,e1,rfl,rfl⟩ | ⟨b,aD,cs,s,e1,rfl,h3,h4,h5,h6⟩
   ·injection e1 with e1 aG W
    subst e1; subst W
    have az:ys=[]:=by simpa using F
    subst az
    have al:es=[]:=by have:=J.len; simpa using this
    subst al
    have key:Q (.slice base ([]:List α).length 0) R (G []):=ab _ [] (.inl ⟨base,rfl,by simp,rfl⟩)
    cases base with
    | none=>exact aL.cE (aL.cN (aL.cN key))
    | some a=>exact aL.cE (aL.cN (aL.cN key))
   ·injection e1 with e1 _ W
    subst e1; subst W
    dsimp only
    rw [show (⟨b,0,none⟩:Addr).add (xs.length * k)=⟨b,0+xs.length * k,none⟩ from jy _ _ _,Nat.zero_add]
    refine aL.given λ ar=>aL.cE (aL.wo es cs (xs.length * k) 0 (G [(b,.cells cs e (0,0))]) (G [(b,.cells (dL cs (xs.length * k) es) e (0,0))]) J.one ?_ (by simpa using fX.set Y) ar (aL.cN ?_))
    ·rw [h3,J.len,Nat.add_zero,← Nat.add_mul]; exact Nat.mul_le_mul_right k F
    ·have ap:xs.length * k+es.length≤cs.size:=by rw [h3,J.len,← Nat.add_mul]; exact Nat.mul_le_mul_right k F
     refine ab _ _ (.inr ⟨b,cap,dL cs (xs.length * k) es,s++es,by rw [gi],rfl,by rw [s7]; exact h3,by rw [gi]; exact F,h5.append J,λ j w f=>?_⟩)
     rw [nJ es cs _ _ ap]
     by_cases aq:j < s.length
     ·rw [jw aq] at f
      rw [if_neg (by rw [← h5.len]; omega)]
      exact h6 j w f
     ·rw [g1 (by omega)] at f
      have:=(eL.1 f).1
      rw [if_pos (by rw [← h5.len]; omega),← h5.len]
      exact f
  ·rw [if_neg F]
   have aJ:Builtin.nextslicecap (xs.length+ys.length) cap * i.bytes≤2 ^ 48:=by
    have h1:=QD (n:=xs.length+ys.length) (m:=cap) (by omega) hl
    calc _≤67108864 * 65536:=Nat.mul_le_mul h1 an
     _≤2 ^ 48:=by decide
   have au:¬ (((xs.length+ys.length:Nat):Int) > IntKind.i64.max∧(false=true∨i.bytes=0)):=by
    intro h
    have:IntKind.i64.max=9223372036854775807:=by decide
    omega
   refine aj.dc (aj.typeInfo hi) ?_
   rw [if_neg au]
   refine aj.dc (aj.typeInfo hi) ?_
   rw [if_neg (by omega)]
   refine (aL.cE (aL.choose λ tape=>aj.dc (aj.typeInfo hi) (aL.cE ?_)))
   have am:∀ (n:Nat) (U:Unit→aA→ai→Prop),U () R (G Hs)→aL P B R (G Hs) (askRoom n) U:=by
    intro n U ah
    unfold askRoom
    split
    ·exact aL.Qi ah
    ·exact aL.cN ah
   refine am _ _ ?_
   simp only [Question.forced,fc,if_false,Question.cut]
   generalize aI:xs.length+ys.length+tape % (2 ^ 63 - (xs.length+ys.length))=p
   refine aL.cE (aL.firstCells (a7.arg Y Z) λ s ad=>aL.cE (aL.firstCells hu λ L af=>aj.dc aB ?_))
   simp only [newRow]
   refine aL.cE (aL.cE (aL.weaken (aL.new (K:=λ r R' H'=>R'=R∧H'=(r,.cells (s.toArray++L.toArray++Builtin.zeroCells z.cells (p - (xs.length+ys.length))) e (0,0))::G Hs) λ r _ _=>⟨rfl,rfl⟩) λ r R' H' av=>?_))
   obtain ⟨rfl,rfl⟩:=av
   refine ⟨R',G [(r,.cells (s.toArray++L.toArray++Builtin.zeroCells z.cells (p - (xs.length+ys.length))) e (0,0))],λ w hw=>?_,aL.cN (aL.cN (ab _ _ (.inr ⟨r,p,_,s++L,by rw [gi],rfl,?_,by rw [gi]; omega,ad.append af,λ j w f=>?_⟩)))⟩
   ·obtain ⟨A,D,ag⟩:=Y
    rw [ag,ag] at *
    have h1:=Ad (H':=A++(Hs++((r,.cells (s.toArray++L.toArray++Builtin.zeroCells z.cells (p - (xs.length+ys.length))) e (0,0))::D))) (by simpa using List.perm_middle (l₁:=A++Hs)) hw
    refine h1.trans (wF ?_ h1.fits)
    exact List.Sublist.append_left (List.sublist_append_right _ _) _
   ·simp only [Array.size_append,List.size_toArray,ad.len,af.len,Builtin.zeroCells,Array.size_map,Array.size_range,aC]
    rw [← Nat.add_mul,← Nat.add_mul]
    congr 1; omega
   ·have:=(eL.1 f).1
    rw [Array.getElem?_append_left (by simpa using this)]
    simpa using f
 unfold Builtin.append_
 refine aj.dc (aj.underlying M.sl) (aj.dc M.size (aj.dc (aj.underlying ay) (aj.dc (a:=false) (by cases V <;> first | exact aj.bj _ | exact absurd rfl (ao _)) ?_)))
 exact aj.dc hlen run
theorem Ox.append{α:Type}{K:bY α}[CM K]{k t e f:Nat}(G:ai→ai){x y:Operand}{v u:Value}{xs ys w:List α}{Hs:ai}{j:TypeDesc}{C:aA→ai→St→Prop}(p:o.op = .call ⟨.builtin .append,#[x,y],#[t,f]⟩)(W:aY st x=some v)(Z:aY st y=some u)
  (V:iM P t e k) (Y:P.underlying f=some j) (Q:∀ kd,j ≠ .int kd) (J:fX G) (L:a7 K k e R v xs Hs) (hu:h8 K k R (G Hs) u ys) (hl:dO xs ys=some w) (hd:bO o.dst c.n)
  (hC:∀ v' b,a7 K k e R v' w b→∃ st',aB (bT o.dst v' st) st'∧C R (G b) st'):aQ P B c o R (G Hs) st C:=by
 obtain ⟨T,rfl⟩:=Hn hl
 refine ⟨by rw [p]; rfl,hd,λ F s=>?_⟩
 simp only [execOp,p]
 refine aj.dc (a:=⟨.builtin .append #[t,f] o.type (#[x,y].map λ | .const _=>true | _=>false),#[x,y].map F⟩) (aj.bj _) ?_
 simp only [invoke,builtin]
 have e:(#[x,y].map F)=#[v,u]:=by simp [s x _ W,s y _ Z]
 rw [e]
 refine aL.cE (aL.append J V Y Q L hu T λ v' b M=>aL.cN ?_)
 obtain ⟨st',U,h⟩:=hC v' b M
 exact ⟨v',.inl rfl,st',U,h⟩
theorem U.gd{α:Type}{K:bY α}[CM K]{k e:Nat}{todo:List Item}(G:ai→ai)(p:fX G){v:Value}{xs:List α}{Hs H2:ai}(h2:G []=H2)(F:a7 K k e R v xs Hs)(h:∀ R',aK R R'→aa K k R' v xs→U ae c R' H2 st todo):U ae c R (G Hs) st todo:=by
 subst h2
 rcases F with ⟨A,rfl,rfl,rfl⟩ | ⟨b,cap,cs,es,rfl,rfl,h3,h4,h5,h6⟩
 ·exact h R (aK.refl R) .nil
 ·obtain ⟨A,D,s⟩:=p
  rw [s] at h ⊢
  refine U.perm (H':=(b,.cells cs e (0,0))::(A++([]++D))) (by simpa using List.perm_middle.symm) (U.freeze λ R' f hb=>h R' f ?_)
  exact ⟨_,cap,es,rfl,h5.mono f,h4,λ _=>⟨b,0,cs,e,(0,0),rfl,hb,λ j w J=>by simpa using h6 j w J⟩⟩
theorem U.iw{α:Type}{K:bY α}[CM K]{k e b n:Nat}{todo:List Item}(G:ai→ai)(s:fX G){H2:ai}(h2:G []=H2){ys:List α}{cs:aU}(p:a6 K k R ys cs.toList)(L:ys.length=n)(h:∀ R',aK R R'→aa K k R' (.slice (some ⟨b,0,none⟩) n n) ys→U ae c R' H2 st todo):U ae c R (G [(b,.cells cs e (0,0))]) st todo:=by
 subst L h2
 obtain ⟨A,D,F⟩:=s
 rw [F] at h ⊢
 refine U.perm (H':=(b,.cells cs e (0,0))::(A++([]++D))) (by simpa using List.perm_middle.symm) (U.freeze λ R' f hb=>h R' f ?_)
 exact ⟨_,ys.length,cs.toList,rfl,p.mono f,cq _,λ _=>⟨b,0,cs,e,(0,0),rfl,hb,λ j w J=>by simpa using J⟩⟩
theorem a7.lit{α:Type}{K:bY α}{k e b n:Nat}{ys:List α}{cs:aU}(f:a6 K k R ys cs.toList)(s:ys.length=n):a7 K k e R (.slice (some ⟨b,0,none⟩) n n) ys [(b,.cells cs e (0,0))]:=by
 subst s
 exact .inr ⟨b,_,cs,cs.toList,rfl,rfl,by simpa using f.len,cq _,f,λ j w p=>by simpa using p⟩
end
theorem aB.one{dst:Option Tmp}{d:Tmp}{v:Value}{st:St}(h:dst=some d):aB (bT dst v st) [(d,v)]:=by
 subst h
 intro t u hu
 simp only [List.lookup_cons,List.lookup_nil] at hu
 simp only [bT,List.lookup_cons]
 split at hu
 ·exact hu
 ·cases hu
theorem dg.skip{f H H':ai}{b:Nat}{o o':Obj}(h:dg H b o o' H'):dg (f++H) b o o' (f++H'):=by
 induction f with
 | nil=>exact h
 | cons p f j=>exact .there j
theorem aI.box{R:aA}{H:ai}{b:Nat}{e:TypeId}{f:Nat × Nat}{L:bn}(hm:(b,Obj.cells L.toArray e f)∈H):aI R H b 0 L:=λ j v p=>⟨rfl,_,e,f,.inr hm,by simpa using p⟩
theorem fX.id{D:ai}:fX (λ X=>X++D):=⟨[],D,λ _=>rfl⟩
theorem fX.cons{p:Nat × Obj}{G:ai→ai}(h:fX G):fX (λ X=>p::G X):=by
 obtain ⟨A,D,h⟩:=h
 exact ⟨p::A,D,λ X=>by show p::G X=_; rw [h]; rfl⟩
theorem fX.app{L:ai}{G:ai→ai}(h:fX G):fX (λ X=>L++G X):=by
 obtain ⟨A,D,h⟩:=h
 exact ⟨L++A,D,λ X=>by show L++G X=_; rw [h,List.append_assoc]⟩
theorem gr{place:Nat→Option (Nat × Nat)}{cells:aU}:Instr.fill place cells []=some cells:=rfl
theorem Rn(vc:bn):∀ (cells:aU) (off j:Nat),(vc.zipIdx j).foldl (λ cs (c,i)=>cs.setIfInBounds (off+i) c) cells=dL cells (off+j) vc:=by
 induction vc with
 | nil=>intro cells off j; rfl
 | cons v r b=>intro cells off j; simp only [List.zipIdx_cons,List.foldl_cons,dL]; rw [b]; rfl
theorem Ro(vc cells:aU)(off:Nat):vc.zipIdx.foldl (λ cs (c,i)=>cs.setIfInBounds (off+i) c) cells=dL cells off vc.toList:=by
 have h:=Rn vc.toList cells off 0
 rw [Nat.add_zero] at h
 rw [← h,← Array.foldl_toList]
 simp
theorem gT{place:Nat→Option (Nat × Nat)}{cells cells' out vc:aU}{i off size:Nat}{v:Value}{rest:List (Nat × Value)}(j:place i=some (off,size))(f:v.cells=vc)
  (b:(vc.size == size && Nat.ble (off+vc.size) cells.size)=true) (p:dL cells off vc.toList=cells') (h:Instr.fill place cells' rest=some out):Instr.fill place cells ((i,v)::rest)=some out:=by
 subst f
 rw [cO] at b
 have h1:v.cells.size=size:=by simpa using b.1
 have h2:off+v.cells.size≤cells.size:=by simpa [Nat.ble_eq] using b.2
 simp only [Instr.fill,j]
 rw [if_neg (by simp [h1]; omega),Ro,p]
 exact h
theorem bE:∀ u∈([]:bn),u.oneCell'=true:=λ _ h=>by cases h
theorem ba{v:Value}{l:bn}(h:v.oneCell'=true)(t:∀ u∈l,u.oneCell'=true):∀ u∈v::l,u.oneCell'=true:=λ u hu=>by
 rcases c8.1 hu with rfl | hu
 ·exact h
 ·exact t u hu
theorem cG{l m:bn}(h:∀ u∈l,u.oneCell'=true)(t:∀ u∈m,u.oneCell'=true):∀ u∈l++m,u.oneCell'=true:=λ u hu=>(List.mem_append.1 hu).elim (h u) (t u)
theorem e0{α:Type}{f:α→Value}{xs:List α}(h:∀ x,(f x).oneCell'=true):∀ u∈xs.map f,u.oneCell'=true:=λ u hu=>by
 obtain ⟨x,_,rfl⟩:=List.mem_map.1 hu
 exact h x
theorem aI.part{R:aA}{H:ai}{b o j n:Nat}{L vs:bn}(h:aI R H b o L)(f:(L.drop j).take n=vs):aI R H b (o+j) vs:=by
 intro i v hi
 subst f
 rw [List.getElem?_take] at hi
 split at hi
 ·rw [List.getElem?_drop] at hi
  have:=h _ _ hi
  simpa [Nat.add_assoc] using this
 ·cases hi
theorem aI.arr{α:Type}{R:aA}{H:ai}{b o k:Nat}{f:α→Value}{pre post:bn}{xs:List α}{i:Int}{x:α}(h:aI R H b o (pre++(xs.map f++post)))(hi:idx xs i=some x)(j:pre.length=k):Cell R H ⟨b,o+k+i.toNat * 1,none⟩ (f x):=by
 obtain ⟨_,_,h3⟩:=km hi
 have p:=(eL.1 h3).1
 have:=h (k+i.toNat) (f x) (by
  rw [g1 (by omega),← j,Nat.add_sub_cancel_left,jw (by simpa using p)]
  simp [h3])
 simpa [Nat.add_assoc] using this
theorem aI.sub{R:aA}{H H':ai}{b o:Nat}{L:bn}(h:aI R H b o L)(w:∀ p∈H,p∈H'):aI R H' b o L:=λ j v s=>by
 obtain ⟨h1,cs,e,f,h2,h3⟩:=h j v s
 exact ⟨h1,cs,e,f,h2.imp id (w _),h3⟩
theorem aI.le{R R':aA}{H:ai}{b o:Nat}{L:bn}(h:aI R H b o L)(s:aK R R'):aI R' H b o L:=λ j v p=>by
 obtain ⟨h1,cs,e,f,h2,h3⟩:=h j v p
 exact ⟨h1,cs,e,f,h2.imp (s _ _) id,h3⟩
theorem tE{α:Type}{f:α→Value}{pre post:bn}{xs:List α}{i:Int}{x y:α}{k:Nat}(hi:idx xs i=some y)(b:pre.length=k):((pre++(xs.map f++post)).toArray).setIfInBounds (k+i.toNat * 1) (f x)=(pre++((xs.set i.toNat x).map f++post)).toArray:=by
 obtain ⟨_,_,h3⟩:=km hi
 have j:=(eL.1 h3).1
 subst b
 simp only [Nat.mul_one,List.setIfInBounds_toArray,List.map_set]
 congr 1
 rw [List.set_append_right _ _ (by omega),Nat.add_sub_cancel_left,List.set_append_left _ _ (by simpa using j)]
theorem tD{α:Type}{f:α→Value}{pre post:bn}{xs:List α}{i:Int}{y:α}{k:Nat}(hi:idx xs i=some y)(b:pre.length=k):Nat.blt (k+i.toNat * 1) ((pre++(xs.map f++post)).toArray).size=true:=by
 obtain ⟨_,_,h3⟩:=km hi
 have j:=(eL.1 h3).1
 rw [Nat.blt_eq]
 simp
 omega
theorem cX{L:bn}{n:Nat}(h:L.length=n):(L.drop 0).take n=L:=by subst h; simp
theorem S9{pre mid post:bn}{k n:Nat}(b:pre.length=k)(f:mid.length=n):((pre++(mid++post)).drop k).take n=mid:=by subst b; subst f; simp
theorem gG{P:Program}{α:Type}{t e len k b m:Nat}{i:Int}{xs:List α}{x:α}(f:jx P t len e k)(hl:xs.length=len)(hi:idx xs i=some x):lL P t (.pointer (some ⟨b,m,none⟩)) i b (m+i.toNat * k):=by
 obtain ⟨h1,h2,_⟩:=km hi
 exact Dh f ⟨h1,by omega⟩
theorem aa.one{α:Type}{C:bY α}{k:Nat}{R:aA}{v:Value}{xs:List α}(h:aa C k R v xs):v.oneCell'=true:=by
 obtain ⟨A,cap,es,rfl,_⟩:=h; rfl
theorem aa.cells{α:Type}{C:bY α}{k:Nat}{R:aA}{v:Value}{xs:List α}(h:aa C k R v xs):v.cells=#[v]:=by
 obtain ⟨A,cap,es,rfl,_⟩:=h; rfl
theorem a7.cells{α:Type}{C:bY α}{k e:Nat}{R:aA}{v:Value}{xs:List α}{Hs:ai}(h:a7 C k e R v xs Hs):v.cells=#[v]:=by
 rcases h with ⟨A,rfl,_⟩ | ⟨b,cap,cs,es,rfl,_⟩ <;> rfl
theorem a7.one{α:Type}{C:bY α}{k e:Nat}{R:aA}{v:Value}{xs:List α}{Hs:ai}(h:a7 C k e R v xs Hs):v.oneCell'=true:=by
 rcases h with ⟨A,rfl,_⟩ | ⟨b,cap,cs,es,rfl,_⟩ <;> rfl
theorem a6.cons{α:Type}{C:bY α}{k:Nat}{R:aA}{x:α}{xs:List α}{e1 es:bn}(h:C R x e1)(b:e1.length=k)(g:a6 C k R xs es):a6 C k R (x::xs) (e1++es):=(a6.single h b).append g
theorem a6.le{α:Type}{C:bY α}{k:Nat}{R:aA}{xs:List α}{es b:bn}(h:a6 C k R xs es)(e:es=b):a6 C k R xs b:=by subst e; exact h
section
variable {P:Program} {B:Base} {main:Bool} {ae:Jd P B main} {c:Ctx} {R:aA} {H H':ai} {st st':St} {o:Oper} {k:List Item}
inductive gR (P:Program) (R:aA) (H:ai) (st:St):List ResultVar→bn→Prop
 | nil:gR P R H st [] []
 | tmp {t:Tmp} {v:Value} {r:List ResultVar} {vs:bn}:st.lookup t=some v→gR P R H st r vs→gR P R H st (.tmp t::r) (v::vs)
 | one {a:Tmp} {t:TypeId} {b o:Nat} {v:Value} {r:List ResultVar} {vs:bn}:st.lookup a=some (.pointer (some ⟨b,o,none⟩))→dy P t→Cell R H ⟨b,o,none⟩ v→gR P R H st r vs→gR P R H st (.cell a t::r) (v::vs)
 | agg {a:Tmp} {t:TypeId} {b o n:Nat} {us:bn} {r:List ResultVar} {vs:bn}:st.lookup a=some (.pointer (some ⟨b,o,none⟩))→eU P t n→us.length=n→aI R H b o us→gR P R H st r vs→gR P R H st (.cell a t::r) (.agg us.toArray::vs)
theorem Sx{tmps:aU}{n:Nat}(w:cf n st tmps):∀ {l:List ResultVar} {vs:bn},gR P R H st l vs→∀ {K:bn→aA→ai→Prop},K vs R H →
  aL P B R H (l.mapM (m:=Sem) λ
   | .tmp t=>pure (tmps.getD t undef)
   | .cell a t=>do loadVar t (← asAddr (tmps.getD a undef))) K:=by
 intro l vs h
 induction h with
 | nil=>intro K f; exact aL.cN f
 | @tmp t v r vs hl _ j =>
  intro K f
  rw [List.mapM_cons]
  have:tmps.getD t undef=v:=by simp [Array.getD_eq_getD_getElem?,w.2 t v hl]
  refine aj.dc (a:=v) (by show aj P (pure (tmps.getD t undef)) v; rw [this]; exact aj.bj _) (aL.cE (j (K:=λ us R' H'=>K (v::us) R' H') f |>.mono λ us R' H' h=>aL.cN h))
 | @one a t b o v r vs hl p s _ j =>
  intro K f
  rw [List.mapM_cons]
  have:tmps.getD a undef = .pointer (some ⟨b,o,none⟩):=by simp [Array.getD_eq_getD_getElem?,w.2 a _ hl]
  simp only [this]
  refine aL.cE (aj.dc (a:=⟨b,o,none⟩) (aj.bj _) ?_)
  unfold loadVar
  refine aj.dc p.1 (aL.load s (aL.cE (j (K:=λ us R' H'=>K (v::us) R' H') f |>.mono λ us R' H' h=>aL.cN h)))
 | @agg a t b o n us r vs hl p F s _ j =>
  intro K f
  rw [List.mapM_cons]
  have:tmps.getD a undef = .pointer (some ⟨b,o,none⟩):=by simp [Array.getD_eq_getD_getElem?,w.2 a _ hl]
  simp only [this]
  refine aL.cE (aj.dc (a:=⟨b,o,none⟩) (aj.bj _) ?_)
  unfold loadVar
  refine aj.dc p.1 ?_
  simp only [if_true]
  subst F
  refine aj.dc p.2 (aL.cE (aL.loadCellsFrom us 0 #[] (by simpa using s) (aL.cN ?_)))
  simp only [List.append_toArray,List.nil_append]
  exact aL.cE (j (K:=λ vs R' H'=>K (.agg us.toArray::vs) R' H') f |>.mono λ us R' H' h=>aL.cN h)
theorem vX{fn:Func}{tmps:aU}{n:Nat}{vs:bn}(b:cf n st tmps)(h:gR P R H st fn.results.toList vs):aL P B R H (results fn tmps) λ v R' H'=>v=eE vs∧R'=R∧H'=H:=by
 unfold results
 rw [← Array.toArray_toList (xs:=fn.results),List.mapM_toArray]
 refine aL.cE (aL.map (Sx b h ?_))
 cases vs with
 | nil=>exact aL.cN ⟨rfl,rfl,rfl⟩
 | cons v r=>cases r with
  | nil=>exact aL.cN ⟨rfl,rfl,rfl⟩
  | cons _ _=>exact aL.cN ⟨rfl,rfl,rfl⟩
theorem U.pq{fr:Frame}{cs:List Frame}{f:FuncId}{n:Nat}{fn:Func}{vs:bn}(b:P.funcs[f]? = some fn)(p:gR P R H st fn.results.toList vs)(j:ae.J R H (aS (fr.finish (eE vs)) cs)) :
  U ae ⟨f,.normal,none,n,[],fr::cs⟩ R H st (.code .ret::k):=λ tmps s=>by
 refine Jd.ctl (g':=aS { (aR ⟨f,.normal,none,n,[],fr::cs⟩ tmps (.code .ret::k)) with mode:=.returning } (fr::cs)) rfl (λ w=>by simp [stepG,stepG.exec,aS,aR])
  (ae.step rfl λ w hw=>?_)
 obtain ⟨v,w',R',H',h1,h2,h3,rfl,rfl,rfl⟩:=vX (P:=P) s p w hw
 refine ⟨aS (fr.finish (eE vs)) cs,w',seen P f ((results fn tmps).events P w #[]),R',H',?_,λ e he=>h2 e (mem_seen he),h3,j⟩
 simp [stepG,unwind,doReturn,aS,aR,b,h1,GStep.after]
theorem U.lf{fr:Frame}{cs:List Frame}{f:FuncId}{n:Nat}{fn:Func}{vs:bn}(b:P.funcs[f]? = some fn)(p:gR P R H st fn.results.toList vs)(j:ae.J R H (aS (fr.finish (eE vs)) cs)) :
  U ae ⟨f,.normal,none,n,[],fr::cs⟩ R H st []:=λ tmps s=>by
 refine Jd.ctl (g':=aS { (aR ⟨f,.normal,none,n,[],fr::cs⟩ tmps []) with mode:=.returning } (fr::cs)) rfl (λ w=>by simp [stepG,stepG.exec,aS,aR])
  (ae.step rfl λ w hw=>?_)
 obtain ⟨v,w',R',H',h1,h2,h3,rfl,rfl,rfl⟩:=vX (P:=P) s p w hw
 refine ⟨aS (fr.finish (eE vs)) cs,w',seen P f ((results fn tmps).events P w #[]),R',H',?_,λ e he=>h2 e (mem_seen he),h3,j⟩
 simp [stepG,unwind,doReturn,aS,aR,b,h1,GStep.after]
end
section
variable {P:Program} {B:Base} {main:Bool}
abbrev g4(α:Type):=aA→α→Value→Prop
def hj(ae:Jd P B main)(R:aA)(H:ai){α β:Type}(A:g4 α)(D:g4 β)(v:Value)(f:α→Option β):Prop :=
 ∃ b first captured,v = .func (.func b) first captured∧aV P b∧∀ R' H',aK R R'→(∀ p∈H,p∈H')→∀ x r va,A R' x va→f x=some r→aO ae b (first++#[va]++captured) R' H' λ v cc cR=>aK R' cc∧cR=H'∧D cc r v
def VI(kd:IntKind):g4 Int:=λ _ x v=>v = .int kd x
def VB:g4 Bool:=λ _ x v=>v = .bool x
def eA{α:Type}(C:bY α):g4 α:=λ R x v=>∃ es,v = .agg (List.toArray es)∧C R x es
theorem hj.up{ae:Jd P B main}{R R':aA}{H H':ai}{α β:Type}{A:g4 α}{D:g4 β}{v:Value}{f:α→Option β}(h:hj ae R H A D v f)(w:aK R R')(j:∀ p∈H,p∈H'):hj ae R' H' A D v f:=by
 obtain ⟨b,first,captured,h1,h2,h3⟩:=h
 exact ⟨b,first,captured,h1,h2,λ cc cR F s=>h3 cc cR (w.trans F) (λ p G=>s p (j p G))⟩
end
theorem fw{h l1 b:ai}(p:List.Sublist l1 b):List.Sublist (h++l1) (h++b):=List.Sublist.append (List.Sublist.refl _) p
theorem aN{h l1 b:ai}(p:List.Sublist l1 b):List.Sublist l1 (h++b):=by
 induction h with
 | nil=>exact p
 | cons a h f=>exact f.cons a
def g2{α:Type}(f:α→Value)(n:Nat):bY (List α):=λ _ xs es=>xs.length=n∧es=[]++(xs.map f++[])
theorem e9{vs:bn}{cs:aU}(h:vs.length=cs.size):dL cs 0 vs=vs.toArray:=by
 have f:(dL cs 0 vs).size=cs.size:=s7 _ _ _
 apply Array.ext_getElem?
 intro j
 rw [nJ vs cs 0 j (by omega)]
 by_cases b:j < vs.length
 ·rw [if_pos (by omega)]; simp
 ·rw [if_neg (by omega)]
  rw [Array.getElem?_eq_none (by omega)]
  simp [Nat.not_lt.1 b]
section
variable {P:Program} {B:Base} {main:Bool} {ae:Jd P B main} {c:Ctx} {R:aA} {H:ai} {st:St} {k:List Item} {o:Oper} {C:aA→ai→St→Prop}
theorem U.NF{S Q b:Type}{body:S→Option (S ⊕ Q)}{s0:S}{code:Code}{g:Q→Option b}{r:b}(w:(Go.Lg.bb body s0).bind g=some r)(I:S→aA→ai→St→Prop)(f:I s0 R H st)(hb:∀ s R H st,I s R H st→∀ x,body s=some x→(∀ s',x=Sum.inl s'→∀ R' H' st',I s' R' H' st'→U ae c R' H' st' (.inLoop code::k))→(∀ p,x=(Sum.inr p)→g p=some r)→U ae c R H st (.code code :: .inLoop code::k)):U ae c R H st (.code (.loop code)::k):=U.bb w I (λ s R H st j x G again out=>hb s R H st j x G again (λ _ F=>out _ F)) f
theorem U.dK{S b w:Type}{body:S→Option (S ⊕ b)}{s0:S}{code:Code}{f0:b→Option w}{r:w}{f:List Item}(K:(Go.Lg.bb body s0).bind f0=some r)(I:S→aA→ai→St→Prop)(j:b→aA→ai→St→Prop)(T:Nat)(_:exitTo T k=some f)(F:I s0 R H st)(L:∀ p R H st,j p R H st→f0 p=some r→U ae c R H st f)(hb:∀ s R H st,I s R H st→∀ x,body s=some x→(∀ s',x=Sum.inl s'→∀ R' H' st',I s' R' H' st'→U ae c R' H' st' (.inLoop code::k))→(∀ p,x=(Sum.inr p)→∀ R' H' st',j p R' H' st'→U ae c R' H' st' f)→U ae c R H st (.code code :: .inLoop code::k)):U ae c R H st (.code (.loop code)::k):=U.bb K I (λ s R H st J x Q again out=>hb s R H st J x Q again (λ p M R' H' st' G=>L p R' H' st' G (out _ M))) F
theorem U.dB{S b Q w:Type}{body:S→Option (S ⊕ (b ⊕ Q))}{s0:S}{code:Code}{f0:b→Option w}{g:Q→Option w}{r:w}{j:List Item}(L:(Go.Lg.bb body s0).bind (Sum.elim f0 g)=some r)(I:S→aA→ai→St→Prop)(F:b→aA→ai→St→Prop)(V:Nat)(_:exitTo V k=some j)(G:I s0 R H st)(M:∀ p R H st,F p R H st→f0 p=some r→U ae c R H st j)(hb:∀ s R H st,I s R H st→∀ x,body s=some x→(∀ s',x=Sum.inl s'→∀ R' H' st',I s' R' H' st'→U ae c R' H' st' (.inLoop code::k))→(∀ p,x=(Sum.inr (Sum.inl p))→∀ R' H' st',F p R' H' st'→U ae c R' H' st' j)→(∀ p,x=(Sum.inr (Sum.inr p))→g p=some r)→U ae c R H st (.code code :: .inLoop code::k)):U ae c R H st (.code (.loop code)::k):=U.bb L I (λ s R H st K x T again out=>hb s R H st K x T again (λ p f R' H' st' J=>M p R' H' st' J (out _ f)) (λ _ f=>out _ f)) G
theorem U.du{b j:Type}{A:Option b}{it:Item}{f0:b→Option j}{r:j}(w:A.bind f0=some r)(f:b→aA→ai→St→Prop)(F:∀ p R H st,f p R H st→f0 p=some r→U ae c R H st k)(hb:∀ x,A=some x→(∀ p,x=p→∀ R' H' st',f p R' H' st'→U ae c R' H' st' k)→U ae c R H st (it::k)):U ae c R H st (it::k):=by
 obtain ⟨x,h1,h2⟩:=af w
 exact hb x h1 (λ p G R' H' st' s=>F p R' H' st' s (by subst G; exact h2))
theorem U.Mr{b Q j:Type}{A:Option (b ⊕ Q)}{it:Item}{f0:b→Option j}{g:Q→Option j}{r:j}(F:A.bind (Sum.elim f0 g)=some r)(s:b→aA→ai→St→Prop)(G:∀ p R H st,s p R H st→f0 p=some r→U ae c R H st k)(hb:∀ x,A=some x→(∀ p,x=(Sum.inl p)→∀ R' H' st',s p R' H' st'→U ae c R' H' st' k)→(∀ p,x=(Sum.inr p)→g p=some r)→U ae c R H st (it::k)):U ae c R H st (it::k):=by
 obtain ⟨x,h1,h2⟩:=af F
 exact hb x h1 (λ p f R' H' st' w=>G p R' H' st' w (by subst f; exact h2)) (λ p f=>by subst f; exact h2)
theorem Ox.jG{α β:Type}{A:g4 α}{D:g4 β}{f:α→Option β}{x y:Operand}{ts:Array TypeId}{v va:Value}{a:α}{r:β}{b:ai}(h:hj ae R b A D v f)
  (J:o.op = .call ⟨.value x,#[y],ts⟩) (K:aY st x=some v) (L:aY st y=some va) (j:A R a va) (F:f a=some r) (hd:bO o.dst c.n) (s:∀ p∈b,p∈H)
  (hC:∀ w R',aK R R'→D R' r w→∃ st',aB (bT o.dst w st) st'∧C R' H st'):hK ae c o R H st C:=by
 obtain ⟨M,first,captured,rfl,he,G⟩:=h
 refine Ox.cD (vs:=[va]) J rfl K (by simp [eO,L]) he rfl hd ((G R H (aK.refl _) s a r va j F).mono λ w R' H' h=>?_)
 obtain ⟨h1,rfl,h3⟩:=h
 exact hC w R' h1 h3
end
def cr{α:Type}(C:bY α)(k:Nat)(R:aA)(H:ai)(v:Value)(xs:List α):Prop :=
 ∃ A cap es,v = .slice A xs.length cap∧a6 C k R xs es∧xs.length≤cap∧(xs≠[]→∃ b o,A=some ⟨b,o,none⟩∧aI R H b o es)
theorem cr.le{α:Type}{C:bY α}[CM C]{k:Nat}{R R':aA}{H:ai}{v:Value}{xs:List α}(h:cr C k R H v xs)(f:aK R R'):cr C k R' H v xs:=by
 obtain ⟨A,cap,es,h1,h2,h3,h4⟩:=h
 refine ⟨A,cap,es,h1,h2.mono f,h3,λ s=>?_⟩
 obtain ⟨b,o,j,p⟩:=h4 s
 exact ⟨b,o,j,p.le f⟩
theorem cr.sub{α:Type}{C:bY α}{k:Nat}{R:aA}{H H':ai}{v:Value}{xs:List α}(h:cr C k R H v xs)(s:∀ p∈H,p∈H'):cr C k R H' v xs:=by
 obtain ⟨A,cap,es,h1,h2,h3,h4⟩:=h
 refine ⟨A,cap,es,h1,h2,h3,λ w=>?_⟩
 obtain ⟨b,o,f,j⟩:=h4 w
 exact ⟨b,o,f,j.sub s⟩
theorem aa.rd{α:Type}{C:bY α}{k:Nat}{R:aA}{H:ai}{v:Value}{xs:List α}(h:aa C k R v xs):cr C k R H v xs:=by
 obtain ⟨A,cap,es,h1,h2,G,h3⟩:=h
 refine ⟨A,cap,es,h1,h2,G,λ K=>?_⟩
 obtain ⟨b,o,arr,e,f,p,s,F⟩:=h3 K
 exact ⟨b,o,p,λ j w J=>⟨rfl,arr,e,f,.inl s,F j w J⟩⟩
theorem a7.rd{α:Type}{C:bY α}{k e:Nat}{R:aA}{H:ai}{v:Value}{xs:List α}{Hs:ai}(h:a7 C k e R v xs Hs)(s:∀ p∈Hs,p∈H):cr C k R H v xs:=by
 rcases h with ⟨A,rfl,rfl,rfl⟩ | ⟨b,cap,cs,es,rfl,rfl,h3,h4,h5,h6⟩
 ·exact ⟨A,0,[],rfl,.nil,cq _,λ h=>absurd rfl h⟩
 ·exact ⟨_,cap,es,rfl,h5,h4,λ _=>⟨b,0,rfl,λ j w f=>⟨rfl,cs,e,(0,0),.inr (s _ (by simp)),by simpa using h6 j w f⟩⟩⟩
theorem cr.lit{α:Type}{C:bY α}{k e n b:Nat}{R:aA}{H:ai}{ys:List α}{cs:aU}{f:Nat × Nat}(hm:(b,Obj.cells cs e f)∈H)(p:a6 C k R ys cs.toList)(F:ys.length=n):cr C k R H (.slice (some ⟨b,0,none⟩) n n) ys:=by
 subst F
 exact ⟨_,ys.length,cs.toList,rfl,p,cq _,λ _=>⟨b,0,rfl,λ j w s=>⟨rfl,cs,e,f,.inr hm,by simpa using s⟩⟩⟩
theorem cr.arg{α:Type}{C:bY α}{k:Nat}{R:aA}{H:ai}{v:Value}{xs:List α}(h:cr C k R H v xs):h8 C k R H v xs:=by
 obtain ⟨A,cap,es,h1,h2,_,h3⟩:=h
 exact ⟨A,cap,es,h1,h2,h3⟩
theorem cr.elem{P:Program}{α:Type}{K:bY α}{k t e:Nat}{R:aA}{H:ai}{v:Value}{xs:List α}{i:Int}{x:α}(h:cr K k R H v xs)(G:gk P t e k)(hi:idx xs i=some x) :
  ∃ b n es,K R x es∧aI R H b n es∧lL P t v i b n:=by
 obtain ⟨h1,h2,h3⟩:=km hi
 obtain ⟨A,cap,es,rfl,p,_,s⟩:=h
 obtain ⟨b,o,rfl,f⟩:=s (by rintro rfl; simp at h3)
 obtain ⟨e1,f1,f2,f3⟩:=p.at_ _ _ h3
 refine ⟨b,o+i.toNat * k,e1,f1,λ j w F=>?_,λ kd=>?_⟩
 ·have:=f _ _ (f3 j w F)
  simpa [Nat.add_assoc] using this
 ·have:=Af (P:=P) (b:=b) (m:=o) (cap:=cap) (kd:=kd) G (j:=i.toNat) (len:=xs.length) (by omega)
  rwa [Int.toNat_of_nonneg h1] at this
theorem iL(a b:Nat × Obj)(l:ai):List.Perm (a::b::l) (b::a::l):=List.Perm.swap _ _ _
theorem S1(A B l:ai):List.Perm (A++(B++l)) (B++(A++l)):=by
 rw [← List.append_assoc,← List.append_assoc]
 exact List.Perm.append_right l List.perm_append_comm
section
variable {P:Program} {B:Base} {main:Bool} {ae:Jd P B main} {c:Ctx} {R:aA} {H H':ai} {st st':St} {o:Oper} {C:aA→ai→St→Prop} {k:List Item}
theorem Ox.r6{α:Type}{K:bY α}{k:Nat}{x:Operand}{t e:TypeId}{v:Value}{xs:List α}{b:ai}(f:o.op = .call ⟨.builtin .len,#[x],#[t]⟩)(s:aY st x=some v)(hl:cr K k R b v xs)(p:P.underlying t=some (.slice e))
  (hd:bO o.dst c.n) (j:aB (bT o.dst (.int .i64 (xs.length:Int)) st) st') (h:C R H st'):aQ P B c o R H st C:=by
 obtain ⟨A,cap,es,rfl,_⟩:=hl
 exact Ox.len f s p hd j h
theorem U.cut{it:Item}(E:aA→ai→St→Prop)(h1:∀ R' H' st',E R' H' st'→U ae c R' H' st' k)(h2:(∀ R' H' st',E R' H' st'→U ae c R' H' st' k)→U ae c R H st (it::k)):U ae c R H st (it::k):=h2 h1
theorem Any.Tg{S:Nat→ai}{ops:Array Oper}{n:Nat}{rem ra rb:List Nat}{i j:Nat}{a b:Oper}(w:ops[i]? = some a)(hb:ops[j]? = some b)(s:rem.filter (gx ops rem)=[i,j])(K:ca ops st a=some true)(L:ca ops st b=some true)(F:rem.Nodup)(G:rem.erase i=ra)(J:rem.erase j=rb)
  (h1:hK ae c a R H st λ R' H' st'=>aK R R'∧(∀ p∈S i,p∈H→p∈H')∧Any ae c S ops k n ra R' H' st')
  (h2:hK ae c b R H st λ R' H' st'=>aK R R'∧(∀ p∈S j,p∈H→p∈H')∧Any ae c S ops k n rb R' H' st'):Any ae c S ops k (n+1) rem R H st:=by
 subst G J
 refine ⟨F,λ tmps f=>.inr ⟨(λ e=>by rw [e] at s; cases s),λ _ x M Q=>?_⟩⟩
 have:x∈rem.filter (gx ops rem):=List.mem_filter.2 ⟨M,Q⟩
 rw [s] at this
 simp only [c8,List.not_mem_nil,or_false] at this
 rcases this with rfl | rfl
 ·exact h1.qO w (fF f K) f
 ·exact h2.qO hb (fF f L) f
theorem Any.wA{S:Nat→ai}{ops:Array Oper}{n:Nat}{rem ra rb rc:List Nat}{i j l:Nat}{a b d:Oper}(w:ops[i]? = some a)(hb:ops[j]? = some b)(hd:ops[l]? = some d)(s:rem.filter (gx ops rem)=[i,j,l])(L:ca ops st a=some true)(M:ca ops st b=some true)(Q:ca ops st d=some true)(F:rem.Nodup)(G:rem.erase i=ra)(J:rem.erase j=rb)(K:rem.erase l=rc)
  (h1:hK ae c a R H st λ R' H' st'=>aK R R'∧(∀ p∈S i,p∈H→p∈H')∧Any ae c S ops k n ra R' H' st')
  (h2:hK ae c b R H st λ R' H' st'=>aK R R'∧(∀ p∈S j,p∈H→p∈H')∧Any ae c S ops k n rb R' H' st')
  (h3:hK ae c d R H st λ R' H' st'=>aK R R'∧(∀ p∈S l,p∈H→p∈H')∧Any ae c S ops k n rc R' H' st'):Any ae c S ops k (n+1) rem R H st:=by
 subst G J K
 refine ⟨F,λ tmps f=>.inr ⟨(λ e=>by rw [e] at s; cases s),λ _ x T U=>?_⟩⟩
 have:x∈rem.filter (gx ops rem):=List.mem_filter.2 ⟨T,U⟩
 rw [s] at this
 simp only [c8,List.not_mem_nil,or_false] at this
 rcases this with rfl | rfl | rfl
 ·exact h1.qO w (fF f L) f
 ·exact h2.qO hb (fF f M) f
 ·exact h3.qO hd (fF f Q) f
end
section
variable {P:Program} {d:Nat} {xs ys:aU}
inductive q2 (P:Program) (d:Nat) (xs ys:aU):List Field→Bool→Prop
 | nil:q2 P d xs ys [] true
 | cons {f:Field} {rest:List Field} {a b:Value} {r r':Bool}:(f.name == "_")=false→aj P (part f.type xs f.offset) a→aj P (part f.type ys f.offset) b→aj P (Op.equalIn d f.type a b) r→q2 P d xs ys rest r'→q2 P d xs ys (f::rest) (r && r')
def jk(r:Bool):a5 × Unit:=(if r then none else some false,())
theorem Tu{j:List Field}{r:Bool}(h:q2 P d xs ys j r) :
  aj P (forIn j ((none:a5),()) λ f (_:a5 × Unit) =>
      if f.name ≠ "_" then do
       let a ← part f.type xs f.offset
       let b ← part f.type ys f.offset
       let q ← Op.equalIn d f.type a b
       if (!q)=true then pure (ForInStep.done (some false,())) else pure (ForInStep.yield (none,()))
      else pure (ForInStep.yield (none,()))) (jk r):=by
 induction h with
 | nil=>rw [List.forIn_nil]; exact aj.bj _
 | @cons f rest a b r r' s p hb F _ G =>
  have w:f.name ≠ "_":=by simpa using s
  rw [List.forIn_cons]
  simp only [w,ne_eq,not_false_iff,if_true,bind_assoc]
  refine aj.bt p (aj.bt hb (aj.bt F ?_))
  cases r with
  | false=>simp only [Bool.not_false,if_true,pure_bind,Bool.false_and]; exact aj.bj _
  | true =>
   simp only [Bool.not_true,fc,if_false,pure_bind,Bool.true_and]
   simpa only [ne_eq] using G
theorem Ae{t:TypeId}{fields:Array Field}{r:Bool}(hu:P.underlying t=some (.struct fields))(b:P.stoodInHeld t=false)(h:q2 P d xs ys fields.toList r):aj P (Op.equalIn (d+1) t (.agg xs) (.agg ys)) r:=by
 rw [Op.equalIn]
 refine aj.bt (aj.underlying hu) ?_
 dsimp only
 refine aj.bt aj.program ?_
 simp only [b,fc,if_false]
 rw [← Array.forIn_toList]
 refine aj.bt (Tu h) ?_
 cases r <;> exact aj.bj _
theorem qY{t:TypeId}{kd:IntKind}{a b:Int}(hu:P.underlying t=some (.int kd)):aj P (Op.equalIn (d+1) t (.int kd a) (.int kd b)) (a == b):=by
 rw [Op.equalIn]
 refine aj.bt (aj.underlying hu) ?_
 simp only [if_true]
 exact aj.bj _
theorem wI{t:TypeId}{a b:Bool}(hu:P.underlying t=some .bool):aj P (Op.equalIn (d+1) t (.bool a) (.bool b)) (a == b):=by
 rw [Op.equalIn]
 exact aj.bt (aj.underlying hu) (aj.bj _)
inductive q1 (P:Program) (d:Nat) (elem:TypeId) (n:Nat) (xs ys:aU):List Nat→Bool→Prop
 | nil:q1 P d elem n xs ys [] true
 | cons {i:Nat} {rest:List Nat} {a b:Value} {r r':Bool}:aj P (part elem xs (i * n)) a→aj P (part elem ys (i * n)) b→aj P (Op.equalIn d elem a b) r→q1 P d elem n xs ys rest r'→q1 P d elem n xs ys (i::rest) (r && r')
theorem Tt{elem:TypeId}{n:Nat}{is:List Nat}{r:Bool}(h:q1 P d elem n xs ys is r) :
  aj P (forIn is ((none:a5),()) λ i (_:a5 × Unit)=>do
      let a ← part elem xs (i * n)
      let b ← part elem ys (i * n)
      let q ← Op.equalIn d elem a b
      if (!q)=true then pure (ForInStep.done (some false,())) else pure (ForInStep.yield (none,()))) (jk r):=by
 induction h with
 | nil=>rw [List.forIn_nil]; exact aj.bj _
 | @cons i rest a b r r' f hb j _ p =>
  rw [List.forIn_cons]
  simp only [bind_assoc]
  refine aj.bt f (aj.bt hb (aj.bt j ?_))
  cases r with
  | false=>simp only [Bool.not_false,if_true,pure_bind,Bool.false_and]; exact aj.bj _
  | true =>
   simp only [Bool.not_true,fc,if_false,pure_bind,Bool.true_and]
   exact p
theorem Tr{n len:Nat}{t elem:TypeId}{r:Bool}(hu:P.underlying t=some (.array len elem))(b:aj P (sizeOf elem) n)(h:q1 P d elem n xs ys (List.range len) r):aj P (Op.equalIn (d+1) t (.agg xs) (.agg ys)) r:=by
 rw [Op.equalIn]
 refine aj.bt (aj.underlying hu) ?_
 dsimp only
 refine aj.bt b ?_
 rw [Std.Legacy.Range.forIn_eq_forIn_range']
 simp only [Std.Legacy.Range.size,Nat.sub_zero,Nat.add_sub_cancel,Nat.div_one]
 rw [← List.range_eq_range']
 refine aj.bt (Tt h) ?_
 cases r <;> exact aj.bj _
end
def eK(s:ByteArray):ah:=s.data.toList.map λ b=>(b.toNat:Int)
def kR(s:ByteArray)(i:Int):b5:=idx (eK s) i
section
variable {P:Program} {B:Base} {main:Bool} {ae:Jd P B main} {c:Ctx} {R:aA} {H H':ai} {st st':St} {o:Oper} {C:aA→ai→St→Prop} {k:List Item}
theorem Ox.uO{x y:Operand}{t:TypeId}{s:ByteArray}{kd:IntKind}{i z:Int}(j:o.op = .index t x y)(J:aY st x=some (.string s))(K:aY st y=some (.int kd i))(G:P.underlying t=some .string)(L:kR s i=some z)
  (hd:bO o.dst c.n) (F:aB (bT o.dst (.int .u8 z) st) st') (h:C R H st'):aQ P B c o R H st C :=
 Ox.fU (s:=λ f=>Instr.index t (f x) (f y)) (by rw [j]; rfl) hd (λ f=>by simp only [execOp,j]) (λ f p=>by
  rw [p x _ J,p y _ K]
  obtain ⟨h1,h2,h3⟩:=km L
  unfold eK at h3
  rw [List.getElem?_map] at h3
  obtain ⟨b,hb,rfl⟩:=Option.map_eq_some_iff.1 h3
  unfold Instr.index
  refine aj.bt (a:=(kd,i)) (aj.bj _) (aj.bt (aj.underlying G) ?_)
  have e:(if 0≤i then s[i.toNat]? else none)=some b:=by
   rw [if_pos h1]
   have w:s.data[i.toNat]? = some b:=by simpa using hb
   rw [← w]
   rfl
  simp only [e]
  exact aj.bj _) F h
def Ar(P:Program)(t:TypeId)(z:aU):Prop:=dU P t z∧∃ n e m,P.underlying t=some (.array n e)∧aj P (sizeOf e) m
theorem Ox.tL{t:TypeId}{z:aU}(b:o.op = .build t #[])(j:Ar P t z)
  (hd:bO o.dst c.n) (f:aB (bT o.dst (.agg z) st) st') (h:C R H st'):aQ P B c o R H st C :=
 Ox.fU (s:=λ _=>Instr.build t #[]) (by rw [b]; rfl) hd (λ w=>by simp [execOp,b]) (λ w F=>by
  obtain ⟨⟨z0,p,rfl⟩,n,e,m,h1,h2⟩:=j
  unfold Instr.build
  exact aj.bt p (aj.bt (aj.underlying h1) (aj.bt h2 (aj.bj _)))) f h
def pA(P:Program)(t _:Nat)(v:Value)(len l h:Int)(v':Value):Prop :=
 ∀ (b:Operand→Value) (st:St) (x:Operand) (lo hi:Option Operand),Knows st b→b x=v→r8 st lo=some l→rY st len.toNat hi=some h→aj P (Instr.sliceAt t (b x) (lo.map b) (hi.map b) none) v'
theorem cr.cut{α:Type}{K:bY α}{k t e:Nat}{xs ys:List α}{v:Value}{l h:Int}{s:ai}(M:cr K k R s v xs)(p:gk P t e k)(Q:fP xs l h=some ys):∃ v',cr K k R s v' ys∧pA P t k v (xs.length:Int) l h v':=by
 obtain ⟨h1,h2,h3,rfl⟩:=rG Q
 obtain ⟨A,cap,es,rfl,L,T,hm⟩:=M
 refine ⟨(.slice (if cap=l.toNat then A else A.map (·.add (l.toNat * k))) (h.toNat - l.toNat) (cap - l.toNat)),?_,?_⟩
 ·have G:((xs.take h.toNat).drop l.toNat).length=h.toNat - l.toNat:=by
   simp only [List.length_drop,gO]
   omega
  refine ⟨(if cap=l.toNat then A else A.map (·.add (l.toNat * k))),cap - l.toNat,(es.take (h.toNat * k)).drop (l.toNat * k),by rw [G],L.take.drop,by rw [G]; omega,λ U=>?_⟩
  have Y:l.toNat < h.toNat:=by
   apply Classical.byContradiction
   intro Z
   apply U
   apply List.eq_nil_of_length_eq_zero
   simp only [List.length_drop,gO]
   omega
  obtain ⟨b,o',rfl,J⟩:=hm (by rintro rfl; simp at h3; omega)
  refine ⟨b,o'+l.toNat * k,?_,λ j w f=>?_⟩
  ·rw [if_neg (by omega)]; simp [jy]
  ·rw [List.getElem?_drop,List.getElem?_take] at f
   split at f
   ·have:=J _ _ f
    simpa [Nat.add_assoc] using this
   ·cases f
 ·intro ab st x lo hi W V hl F
  rw [cI] at F
  rw [V]
  unfold Instr.sliceAt
  refine aj.bt (aj.underlying p.1) ?_
  unfold Instr.slice
  refine aj.bt (aj.underlying p.1) (aj.bt (wH W hl F ⟨h1,h2,h3⟩ T) (aj.bt p.2 (aj.bj _)))
theorem aa.cut{α:Type}{K:bY α}{k t e:Nat}{xs ys:List α}{v:Value}{l h:Int}(T:aa K k R v xs)(p:gk P t e k)(U:fP xs l h=some ys):∃ v',aa K k R v' ys∧pA P t k v (xs.length:Int) l h v':=by
 obtain ⟨h1,h2,h3,rfl⟩:=rG U
 obtain ⟨A,cap,es,rfl,Q,V,hm⟩:=T
 refine ⟨(.slice (if cap=l.toNat then A else A.map (·.add (l.toNat * k))) (h.toNat - l.toNat) (cap - l.toNat)),?_,?_⟩
 ·have F:((xs.take h.toNat).drop l.toNat).length=h.toNat - l.toNat:=by
   simp only [List.length_drop,gO]
   omega
  refine ⟨(if cap=l.toNat then A else A.map (·.add (l.toNat * k))),cap - l.toNat,(es.take (h.toNat * k)).drop (l.toNat * k),by rw [F],Q.take.drop,by rw [F]; omega,λ W=>?_⟩
  have ab:l.toNat < h.toNat:=by
   apply Classical.byContradiction
   intro ac
   apply W
   apply List.eq_nil_of_length_eq_zero
   simp only [List.length_drop,gO]
   omega
  obtain ⟨b,o',arr,G,J,rfl,L,M⟩:=hm (by rintro rfl; simp at h3; omega)
  refine ⟨b,o'+l.toNat * k,arr,G,J,?_,L,λ j w f=>?_⟩
  ·rw [if_neg (by omega)]; simp [jy]
  ·rw [List.getElem?_drop,List.getElem?_take] at f
   split at f
   ·have:=M _ _ f
    simpa [Nat.add_assoc] using this
   ·cases f
 ·intro ad st x lo hi Z Y hl s
  rw [cI] at s
  rw [Y]
  unfold Instr.sliceAt
  refine aj.bt (aj.underlying p.1) ?_
  unfold Instr.slice
  refine aj.bt (aj.underlying p.1) (aj.bt (wH Z hl s ⟨h1,h2,h3⟩ V) (aj.bt p.2 (aj.bj _)))
theorem Ox.rH{x:Operand}{t k:Nat}{lo hi:Option Operand}{v v':Value}{len l h:Int}(f:o.op = .slice t x lo hi none)(G:aY st x=some v)(hl:r8 st lo=some l)(w:rY st len.toNat hi=some h)(p:pA P t k v len l h v')(hd:bO o.dst c.n)
  (F:aB (bT o.dst v' st) st') (hC:C R H st'):aQ P B c o R H st C :=
 Ox.fU (s:=λ b=>Instr.sliceAt t (b x) (lo.map b) (hi.map b) none) (by rw [f]; rfl) hd (λ b=>by simp only [execOp,f]; rfl) (λ b j=>p b st x lo hi j (j x _ G) hl w) F hC
theorem a7.dY{α:Type}{K:bY α}{k t e:Nat}{v:Value}{xs:List α}{Hs:ai}{i:Int}{x:α}(h:a7 K k e R v xs Hs)(Z:gk P t e k)(hi:idx xs i=some x) :
  ∃ b cs es,K R x es∧Hs=[(b,.cells cs e (0,0))]∧aI R Hs b (i.toNat * k) es∧(∀ (j:Nat) (w:Value),es[j]? = some w→cs[i.toNat * k+j]? = some w)∧lL P t v i b (i.toNat * k)∧es.length=k∧i.toNat * k+k≤cs.size ∧
   ∀ x' p,K R x' p→p.length=k→a7 K k e R v (xs.set i.toNat x') [(b,.cells (dL cs (i.toNat * k) p) e (0,0))]:=by
 obtain ⟨h1,h2,h3⟩:=km hi
 rcases h with ⟨A,rfl,rfl,rfl⟩ | ⟨b,cap,cs,es,rfl,rfl,M,Q,F,G⟩
 ·simp at h3
 obtain ⟨e1,f1,f2,f3⟩:=F.at_ _ _ h3
 have U:i.toNat < xs.length:=(eL.1 h3).1
 have ah:i.toNat * k+k≤xs.length * k:=by
  calc i.toNat * k+k=(i.toNat+1) * k:=by rw [Nat.add_mul,Nat.one_mul]
   _≤xs.length * k:=Nat.mul_le_mul_right k U
 have af:xs.length * k≤cs.size:=by rw [M]; exact Nat.mul_le_mul_right k Q
 refine ⟨b,cs,e1,f1,rfl,λ j w f=>⟨rfl,cs,e,(0,0),.inr (by simp),G _ _ (f3 j w f)⟩,λ j w f=>G _ _ (f3 j w f),λ kd=>?_,f2,by omega,λ x' p ab hl'=>?_⟩
 ·have:=Af (P:=P) (b:=b) (m:=0) (cap:=cap) (kd:=kd) Z (j:=i.toNat) (len:=xs.length) U
  rw [Int.toNat_of_nonneg h1] at this
  simpa using this
 ·refine .inr ⟨b,cap,_,(es.take (i.toNat * k))++(p++es.drop (i.toNat * k+k)),by rw [List.length_set],rfl,by rw [s7]; exact M,by rw [List.length_set]; exact Q,?_,?_⟩
  ·have s:=F.len
   refine ⟨?_,λ j y J=>?_⟩
   ·simp only [gi,gO,List.length_drop,List.length_set,hl',s]
    omega
   ·rw [List.getElem?_set] at J
    split at J
    ·rename_i T
     subst T
     cases J
     refine ⟨p,ab,hl',λ a w hw=>?_⟩
     have L:=(eL.1 hw).1
     rw [g1 (by simp only [gO]; omega)]
     simp only [gO,s]
     rw [show i.toNat * k+a - min (i.toNat * k) (xs.length * k)=a by omega,jw L]
     exact hw
    ·rename_i T
     obtain ⟨Y,ac,W,ad⟩:=F.at_ _ _ J
     refine ⟨Y,ac,W,λ a w hw=>?_⟩
     have L:=(eL.1 hw).1
     rw [W] at L
     have hold:=ad a w hw
     rcases Nat.lt_or_ge j i.toNat with V | ag
     ·have:j * k+k≤i.toNat * k:=by
       calc j * k+k=(j+1) * k:=by rw [Nat.add_mul,Nat.one_mul]
        _≤i.toNat * k:=Nat.mul_le_mul_right k V
      rw [jw (by simp only [gO,s]; omega),List.getElem?_take,if_pos (by omega)]
      exact hold
     ·have:i.toNat * k+k≤j * k:=by
       calc i.toNat * k+k=(i.toNat+1) * k:=by rw [Nat.add_mul,Nat.one_mul]
        _≤j * k:=Nat.mul_le_mul_right k (by omega)
      rw [g1 (by simp only [gO]; omega),g1 (by simp only [gO,s,hl']; omega),List.getElem?_drop]
      simp only [gO,s,hl']
      rw [show i.toNat * k+k+(j * k+a - min (i.toNat * k) (xs.length * k) - k)=j * k+a by omega]
      exact hold
  ·intro j w f
   have s:=F.len
   rw [nJ p cs (i.toNat * k) j (by rw [hl']; omega)]
   rw [List.getElem?_append] at f
   simp only [gO,s] at f
   split at f
   ·rename_i V
    rw [List.getElem?_take] at f
    split at f
    ·rw [if_neg (by omega)]
     exact G _ _ f
    ·cases f
   ·rw [List.getElem?_append] at f
    split at f
    ·rename_i h5 h6
     rw [if_pos (by omega),← f]
     congr 1
     omega
    ·rename_i h5 h6
     rw [hl'] at h6
     rw [if_neg (by rw [hl']; omega)]
     rw [List.getElem?_drop,hl'] at f
     have:=G _ _ f
     rwa [show i.toNat * k+k+(j - min (i.toNat * k) (xs.length * k) - k)=j by omega] at this
theorem zz:∀ (vs ws:bn) (cs:aU) (o:Nat),dL cs o (vs++ws)=dL (dL cs o vs) (o+vs.length) ws
 | [],ws,cs,o=>by simp [dL]
 | v::vs,ws,cs,o=>by
  simp only [List.cons_append,dL,List.length_cons]
  rw [zz vs ws]
  congr 1
  omega
theorem zA:∀ (vs:bn) (cs:aU) (o:Nat),(∀ j w,vs[j]? = some w→cs[o+j]? = some w)→dL cs o vs=cs
 | [],cs,o,_=>rfl
 | v::vs,cs,o,h=>by
  have f:cs[o]? = some v:=h 0 v rfl
  have p:=(Array.getElem?_eq_some_iff.1 f).1
  have e:cs.setIfInBounds o v=cs:=by
   apply Array.ext_getElem?
   intro j
   by_cases b:o=j
   ·subst b; rw [j4 p,f]
   ·rw [gB b]
  simp only [dL,e]
  exact zA vs cs (o+1) λ j w b=>by
   have:=h (j+1) w (by simpa using b)
   rwa [show o+(j+1)=o+1+j by omega] at this
theorem Ox.eb{α:Type}{K:bY α}{k e t b j n:Nat}{x y:Operand}{G:ai→ai}{v w:Value}{xs:List α}{i:Int}{x':α}{cs:aU}{pre mid post vs:bn}(W:fX G)
  (U:o.op = .store t x y) (ah:aY st x=some (.pointer (some ⟨b,i.toNat * k+j,none⟩))) (ak:aY st y=some w) (hw:w.cells.toList=vs) (ag:aj P (sizeOf t) n) (L:vs.length=n) (h1:∀ u∈vs,u.oneCell'=true)
  (T:∀ (j:Nat) (w:Value),(pre++(mid++post))[j]? = some w→cs[i.toNat * k+j]? = some w) (ab:pre.length=j) (hm:mid.length=n) (J:(pre++(mid++post)).length=k) (am:i.toNat * k+k≤cs.size)
  (Z:∀ x' F,K R x' F→F.length=k→a7 K k e R v (xs.set i.toNat x') [(b,.cells (dL cs (i.toNat * k) F) e (0,0))]) (Y:K R x' (pre++(vs++post)))
  (hd:o.dst=none) (ad:aB st st') (h:∀ M,a7 K k e R v (xs.set i.toNat x') M→C R (G M) st'):aQ P B c o R (G [(b,.cells cs e (0,0))]) st C:=by
 have ac:dL cs (i.toNat * k+j) vs=dL cs (i.toNat * k) (pre++(vs++post)):=by
  rw [zz,zA pre cs _ (λ a u f=>T a u (by rw [jw (eL.1 f).1]; exact f)),zz,ab,L]
  rw [zA post]
  intro a u f
  have h2:=T (j+n+a) u (by
   rw [g1 (by omega),g1 (by omega)]
   rw [show j+n+a - pre.length - mid.length=a by omega]
   exact f)
  have al:=(Array.getElem?_eq_some_iff.1 h2).1
  rw [nJ vs cs (i.toNat * k+j) _ (by rw [L]; have:=J; simp only [gi] at this; omega),if_neg (by omega)]
  rwa [show i.toNat * k+(j+n+a)=i.toNat * k+j+n+a by omega] at h2
 have hlen:(pre++(vs++post)).length=k:=by
  simp only [gi] at J ⊢
  omega
 have Q:=Z x' _ Y hlen
 rw [← ac] at Q
 refine Ox.vr (s:=λ p=>Instr.storeAt t (p x) (p y)) (by rw [U]; rfl) hd (λ p=>by simp only [execOp,U]) ad (λ p V=>?_)
 rw [V x _ ah,V y _ ak]
 simp only [Instr.storeAt,Instr.sureAddr]
 refine aj.dc (aj.bj _) ?_
 have af:w.cells.size=n:=by rw [← L,← hw]; simp
 refine aL.storeVar (cs:=cs) (e:=e) ag af (by rw [hw]; exact h1) (by simp only [gi] at J; omega) ?_ (h _ Q)
 rw [hw]
 exact W.set
def hq{α:Type}(xs ys:List α):List α:=ys.take xs.length++xs.drop ys.length
end
section
variable {P:Program} {B:Base} {main:Bool} {ae:Jd P B main} {c:Ctx} {R:aA} {H:ai} {st:St} {k:List Item}
theorem aL.getLoop{l:Nat}{r:Loop}{K:Loop→aA→ai→Prop}(h:(l,Obj.loop r)∈H)(b:K r R H):aL P B R H (Instr.getLoop l) K:=by
 unfold Instr.getLoop
 exact aL.cE (aL.getObj rfl (.inr h) (aL.cN b))
theorem dg.at_{b:Nat}{o o':Obj}{T:ai}:∀ {Hs:ai},dg (Hs++(b,o)::T) b o o' (Hs++(b,o')::T)
 | []=>.here
 | _::_=>.there dg.at_
def q8(ae:Jd P B main)(v:Value)(args:aU)(R:aA)(H:ai)(Post:Value→aA→ai→Prop):Prop :=
 ∃ l r,v = .func (.yield l) #[] #[]∧(l,Obj.loop r)∈H∧r.params.size=args.size ∧
  ∀ fr cs,(∀ w R' H',Post w R' H'→ae.J R' H' (aS (fr.finish w) cs)) →
   ae.J R H (aS (Frame.round l r.fn ((r.params.zip args).foldl (λ tmps (t,a)=>tmps.setIfInBounds t a) r.tmps) r.assign r.body .normal) (fr::cs))
theorem q8.mono{v:Value}{args:aU}{Post b:Value→aA→ai→Prop}(h:q8 ae v args R H Post)(j:∀ w R' H',Post w R' H'→b w R' H'):q8 ae v args R H b:=by
 obtain ⟨l,r,h1,h2,h3,h4⟩:=h
 exact ⟨l,r,h1,h2,h3,λ fr cs f=>h4 fr cs λ w R' H' hw=>f w R' H' (j _ _ _ hw)⟩
theorem Ho{fr:Frame}{cs:List Frame}{s:Sem Next}{w w':World}{l:Nat}{f:FuncId}{tmps:aU}{assign body:Code}(b:fr.kind ≠ .early)(p:s.run P w = .ok (.round l f tmps assign body) w') :
  stepG.apply P true fr cs none s w = .go (aS (Frame.round l f tmps assign body .normal) (fr::cs)) w' (seen P fr.fn (s.events P w #[])):=by
 have j:(fr.kind == CallKind.early)=false:=by simpa using b
 simp [stepG.apply,p,aS,j,GStep.after]
theorem U.wm{ops:Array Oper}{i:Nat}{rest:List Nat}{o:Oper}{b:Call}{x:Operand}{v:Value}{vs:bn}(ho:ops[i]? = some o)(hw:ca ops st o=some true)(L:(c.kind == CallKind.early)=false)
  (p:o.op = .call b) (G:b.callee = .value x) (Y:aY st x=some v) (s:eO st b.args.toList=some vs) (J:bO o.dst c.n)
  (h:q8 ae v vs.toArray R H λ w R' H'=>∃ st',aB (bT o.dst w st) st'∧U ae c R' H' st' (.inRegion ops rest::k)) :
  U ae c R H st (.inRegion ops (i::rest)::k):=by
 intro tmps f
 obtain ⟨l,r,rfl,hl,V,K⟩:=h
 have j:=f.knows c (.inRegion ops (i::rest)::k)
 have hd:gH o.op=false:=by rw [p]; rfl
 have Q:aL P B R H (execOp (aR c tmps (.inRegion ops (i::rest)::k)).eval o) λ nx R' H'=>nx = .round l r.fn ((r.params.zip vs.toArray).foldl (λ tmps (t,a)=>tmps.setIfInBounds t a) r.tmps) r.assign r.body∧R'=R∧H'=H:=by
  simp only [execOp,p,resolve,G,j x _ Y,Deferred.ofValue]
  have e:b.args.map (aR c tmps (.inRegion ops (i::rest)::k)).eval=vs.toArray:=by apply Array.ext'; simpa using oc j _ _ s
  refine aj.dc (a:=⟨.fn (.yield l) #[],#[]++vs.toArray⟩) (by rw [e]; exact aj.bj _) ?_
  simp only [invoke,Instr.yield]
  refine aL.cE (aL.getLoop hl ?_)
  simp only [Array.empty_append,V,ne_eq,fW,if_false]
  exact aL.cN ⟨rfl,rfl,rfl⟩
 refine ae.step rfl λ w W=>?_
 obtain ⟨nx,w',R',H',h1,h2,h3,rfl,rfl,rfl⟩:=Q w W
 refine ⟨_,w',seen P c.fn ((execOp (aR c tmps (.inRegion ops (i::rest)::k)).eval o).events P w #[]),R',H',?_,λ e he=>h2 e (mem_seen he),h3,K (aR c tmps (.inRegion ops (i::rest)::k)) c.cs λ u cc cR M=>?_⟩
 ·rw [hX ho (fF f hw) hd]
  exact Ho (by simpa [aR] using L) h1
 ·obtain ⟨st',T,F⟩:=M
  rw [ir ho]
  exact F _ ((f.put u J).sub T)
structure fL (ae:Jd P B main) (R:aA) {α S:Type} (A:g4 α) (v:Value) (y:α→S→Option (S × Bool)) (Inv:S→aA→ai→Prop):Prop where
 fn:∃ l,v = .func (.yield l) #[] #[]
 mono:∀ {s:S} {R1 R2:aA} {Hy:ai},aK R R1→aK R1 R2→Inv s R1 Hy→Inv s R2 Hy
 call:∀ (Hf:ai) {R':aA} {Hy:ai} {s:S} {x:α} {va:Value} {z:S × Bool},aK R R'→Inv s R' Hy→A R' x va→y x s=some z →
  q8 ae v #[va] R' (Hf++Hy) λ w cc cR=>aK R' cc∧w = .bool z.2∧∃ j6,Inv z.1 cc j6∧cR=Hf++j6
theorem fL.up{R':aA}{α S:Type}{A:g4 α}{v:Value}{y:α→S→Option (S × Bool)}{Inv:S→aA→ai→Prop}(h:fL ae R A v y Inv)(b:aK R R'):fL ae R' A v y Inv :=
 ⟨h.fn,λ h1 h2=>h.mono (b.trans h1) h2,λ Hf=>λ h1=>h.call Hf (b.trans h1)⟩
theorem fL.cells{α S:Type}{A:g4 α}{v:Value}{y:α→S→Option (S × Bool)}{Inv:S→aA→ai→Prop}(h:fL ae R A v y Inv):v.cells=#[v]:=by
 obtain ⟨l,rfl⟩:=h.fn; rfl
def dM{α S O:Type}(body:α→S→Option (S ⊕ O))(x:α):S ⊕ O→Option ((S ⊕ O) × Bool)
 | .inl s=>(body x s).map λ z=>(z,z.isLeft)
 | .inr _=>none
def Shape(I:aA→ai→ai→Prop):Prop:=∀ R T H,I R T H→∃ Hs,H=Hs++T∧∀ R' T',aK R R'→I R' T' (Hs++T')
theorem Sv{l:Nat}{jump:Option Code}{r:Loop}{Hs T:ai}:aL P B R (Hs++(l,.loop r)::T) (Instr.endRound l jump) λ v R' H'=>v = .bool jump.isNone∧R'=R∧H'=Hs++(l,.loop { r with state:=if jump.isNone then .ready else .done,pending:=jump })::T:=by
 unfold Instr.endRound
 exact aL.cE (aL.getLoop (by simp) (aL.cE (aL.setObj rfl rfl dg.at_ (aL.cN ⟨rfl,rfl,rfl⟩))))
theorem Su{l:Nat}{r:Loop}{Hs T:ai}(hb:(r.state == .busy)=false):aL P B R (Hs++(l,.loop r)::T) (Instr.endLoop l) λ v R' H'=>v=r.pending∧R'=R∧H'=Hs++(l,.loop { r with state:=.exhausted })::T:=by
 unfold Instr.endLoop
 refine aL.cE (aL.getLoop (r:=r) (by simp) ?_)
 simp only [hb]
 exact aL.cE (aL.setObj rfl rfl dg.at_ (aL.cN ⟨rfl,rfl,rfl⟩))
theorem Ss{l:Nat}{r:Loop}{H':ai}(b:dg H l (.loop r) (.loop { r with state:=.busy }) H')(f:r.state = .ready):aL P B R H (do Instr.beginRound l; pure Next.skip) λ v cc cR=>v = .skip∧cc=R∧cR=H':=by
 unfold Instr.beginRound
 refine aL.cE (aL.cE (aL.getLoop b.mem (aL.cE (aL.setObj rfl rfl b ?_))))
 simp only [f]
 exact aL.cN (aL.cN ⟨rfl,rfl,rfl⟩)
theorem U.beginRound{l:Nat}{r:Loop}{H':ai}(j:c.ro=some l)(b:(c.kind == CallKind.early)=false)(p:dg H l (.loop r) (.loop { r with state:=.busy }) H')(f:r.state = .ready)(h:U ae c R H' st k):U ae c R H st (.beginRound::k):=λ tmps s=>by
 refine ae.step rfl λ w hw=>?_
 obtain ⟨v,w',R',cR,h1,h2,h3,rfl,rfl,rfl⟩:=Ss (P:=P) p f w hw
 refine ⟨aS (aR c tmps k) c.cs,w',seen P c.fn ((do Instr.beginRound l; pure Next.skip:Sem Next).events P w #[]),R',cR,?_,λ e he=>h2 e (mem_seen he),h3,h tmps s⟩
 have e:=w6 (P:=P) (fr:=aR c tmps (.beginRound::k)) (cs:=c.cs) (by simpa [aR] using b) h1
 simpa [stepG,stepG.exec,aS,aR,j,Frame.finish] using e
def Leaves(todo:List Item)(jump:Option Code):Prop :=
 (todo=[]∧jump=none)∨(∃ b,todo = .code .ret::b∧jump=some .ret)∨(∃ id b,todo = .code (.exit id)::b∧exitTo id b=none∧jump=some (.exit id))
theorem DH{l f:Nat}{n:Nat}{cs:List Frame}{fr:Frame}{tmps:aU}{todo:List Item}{jump:Option Code}{r:Loop}{Hs T:ai}(hl:Leaves todo jump)
  (h:ae.J R (Hs++(l,.loop { r with state:=if jump.isNone then .ready else .done,pending:=jump })::T) (aS (fr.finish (.bool jump.isNone)) cs)) :
  ae.J R (Hs++(l,.loop r)::T) (aS (aR ⟨f,.normal,some l,n,[],fr::cs⟩ tmps todo) (fr::cs)):=by
 refine ae.step rfl λ w hw=>?_
 obtain ⟨v,w',R',H',h1,h2,h3,rfl,rfl,rfl⟩:=Sv (P:=P) (jump:=jump) w hw
 refine ⟨aS (fr.finish (.bool jump.isNone)) cs,w',seen P f ((Instr.endRound l jump).events P w #[]),R',_,?_,λ e he=>h2 e (mem_seen he),h3,h⟩
 rcases hl with ⟨rfl,rfl⟩ | ⟨j,rfl,rfl⟩ | ⟨id,j,rfl,b,rfl⟩
 ·simp at h1; simp [stepG,stepG.exec,aR,h1,doReturn,GStep.after,aS]
 ·simp at h1; simp [stepG,stepG.exec,aR,h1,doReturn,GStep.after,aS]
 ·simp at h1; simp [stepG,stepG.exec,aR,h1,b,doReturn,GStep.after,aS]
def kr(fn:FuncId)(tmps:aU)(t:Tmp)(assign body:Code)(d:Nat):Loop:={ state:=.ready,pending:=none,fn,tmps,params:=#[t],assign,body,defers:=d }
theorem zx{p:Nat × Obj}{Hf Hs D:ai}:List.Perm (Hs++p::(Hf++D)) (Hf++(Hs++p::D)):=by
 have h1:List.Perm (Hs++p::(Hf++D)) (p::(Hs++(Hf++D))):=List.perm_middle
 have h2:List.Perm (Hf++(Hs++p::D)) (p::(Hf++(Hs++D))):=by
  rw [← List.append_assoc,← List.append_assoc]
  exact List.perm_middle
 refine h1.trans (List.Perm.trans (List.Perm.cons _ ?_) h2.symm)
 rw [← List.append_assoc,← List.append_assoc]
 exact List.perm_append_comm.append_right D
section
variable {α S O:Type} {A:g4 α} {body:α→S→Option (S ⊕ O)} {t:Tmp} {assign fh:Code}
 (I:S→aA→ai→ai→Prop) (E:O→aA→ai→ai→Prop) (jc:O→Code)
def RInv(R:aA)(l:Nat)(r:Loop)(D:ai):S ⊕ O→aA→ai→Prop
 | .inl s,R',Hy=>aK R R'∧I s R' ((l,.loop r)::D) Hy
 | .inr o,R',Hy=>aK R R'∧E o R' ((l,.loop { r with state:=.done,pending:=some (jc o) })::D) Hy
def Ay(ae:Jd P B main)(c:Ctx)(R:aA)(H:ai)(st:St)(A:g4 α)(body:α→S→Option (S ⊕ O))(t:Tmp)(assign fh:Code):Prop :=
 ∀ (va:Value) (x:α) (s:S) (z:S ⊕ O) (R':aA) (T H':ai) (l:Nat) (ld:Loop) (cs:List Frame),aK R R'→List.Sublist H T→A R' x va→I s R' ((l,.loop ld)::T) H'→ld.state = .ready→body x s=some z →
  (∀ s' cc cR b,z = .inl s'→aK R' cc→I s' cc ((l,.loop { ld with state:=.busy })::T) cR→U ae ⟨c.fn,.normal,some l,c.n,[],cs⟩ cc cR b []) →
  (∀ o cc cR b f,z = .inr o→aK R' cc→E o cc ((l,.loop { ld with state:=.busy })::T) cR→Leaves (.code (jc o)::f) (some (jc o))→U ae ⟨c.fn,.normal,some l,c.n,[],cs⟩ cc cR b (.code (jc o)::f)) →
  U ae ⟨c.fn,.normal,some l,c.n,[],cs⟩ R' H' ((t,va)::st) [.code assign,.beginRound,.code fh]
variable {I E jc}
theorem Md{D:ai}{l:Nat}{d:Nat}{tmps:aU}(p:∀ s,Shape (I s))(L:∀ o,Shape (E o))(ab:cf c.n st tmps)(hd:Nat.blt t c.n=true)(V:List.Sublist H D)
  (hb:Ay I E jc ae c R H st A body t assign fh) :
  fL ae R A (.func (.yield l) #[] #[]) (dM body) (RInv I E jc R l (kr c.fn tmps t assign fh d) D) where
 fn:=⟨l,rfl⟩
 mono:=by
  intro s R1 R2 Hy h1 h2 b
  cases s with
  | inl s =>
   obtain ⟨j,b⟩:=b
   obtain ⟨Hs,rfl,h⟩:=p s _ _ _ b
   exact ⟨j.trans h2,h _ _ h2⟩
  | inr o =>
   obtain ⟨j,b⟩:=b
   obtain ⟨Hs,rfl,h⟩:=L o _ _ _ b
   exact ⟨j.trans h2,h _ _ h2⟩
 call:=by
  intro Hf R' Hy s x va z w b T G
  cases s with
  | inr o=>cases G
  | inl s =>
   simp only [dM,Option.map_eq_some_iff] at G
   obtain ⟨ag,ac,rfl⟩:=G
   obtain ⟨j,b⟩:=b
   obtain ⟨Hs,rfl,Z⟩:=p s _ _ _ b
   refine ⟨l,kr c.fn tmps t assign fh d,rfl,by simp,rfl,λ fr cs M=>?_⟩
   refine J.perm (H':=Hs++(l,.loop (kr c.fn tmps t assign fh d))::(Hf++D)) zx ?_
   have Y:cf c.n ((t,va)::st) (((kr c.fn tmps t assign fh d).params.zip #[va]).foldl (λ tmps (t,a)=>tmps.setIfInBounds t a) (kr c.fn tmps t assign fh d).tmps):=by
    have:=ab.put (dst:=some t) va hd
    simpa [kr,bT,dG] using this
   refine hb va x s ag R' (Hf++D) _ l (kr c.fn tmps t assign fh d) (fr::cs) w (V.trans (List.sublist_append_right _ _)) T (Z R' _ (aK.refl _)) rfl ac (λ s' cc cR ad K f W=>?_) (λ o cc cR ad ah K f U hl=>?_) _ Y
   ·subst K
    obtain ⟨Q,rfl,F⟩:=p s' _ _ _ W
    intro af _
    refine DH (jump:=none) (.inl ⟨rfl,rfl⟩) ?_
    refine J.perm zx.symm ?_
    exact M _ _ _ ⟨f,rfl,_,⟨w.trans f,F cc _ (aK.refl _)⟩,rfl⟩
   ·subst K
    obtain ⟨Q,rfl,F⟩:=L o _ _ _ U
    intro af _
    refine DH (jump:=some (jc o)) hl ?_
    refine J.perm zx.symm ?_
    exact M _ _ _ ⟨f,rfl,_,⟨w.trans f,F cc _ (aK.refl _)⟩,rfl⟩
theorem Sw{fn:FuncId}{tmps:aU}{b:Array Tmp}{assign fh:Code}:aL P B R H (Instr.enterLoop fn tmps b assign fh none) λ q R' H'=>R'=R∧∃ r,q.2=[⟨.collected r,#[]⟩]∧H'=(q.1,.loop ⟨.ready,none,fn,tmps,b,assign,fh,r⟩)::(r,.deferred (some []))::H:=by
 unfold Instr.enterLoop
 refine aL.cE (aL.new λ r _ _=>aL.cE (aL.cN ?_))
 refine aL.cE (aL.new λ l _ _=>aL.cN ?_)
 exact ⟨rfl,r,rfl,rfl⟩
theorem U.Kt{x:Operand}{f:FuncId}{first cap:aU}(Z:aY st x=some (.func (.func f) first cap))(he:aV P f)(T:(c.kind == CallKind.early)=false){K:Nat × List Deferred→aA→ai→Prop}
  (M:∀ tmps,aL P B R H (Instr.enterLoop c.fn tmps #[t] assign fh c.ro) λ q R' H'=>R'=R∧∃ d b,H'=(q.1,.loop (kr c.fn tmps t assign fh d))::b∧K q R b)
  (h:∀ l mark d b tmps,cf c.n st tmps→K (l,mark) R b→ae.J R ((l,.loop (kr c.fn tmps t assign fh d))::b) (aS (Frame.enter P f (first++#[.func (.yield l) #[] #[]]++cap) .normal) (aR ⟨c.fn,c.kind,c.ro,c.n,mark++c.defers,c.cs⟩ tmps (.inRangeFunc l::k)::c.cs))) :
  U ae c R H st (.code (.rangeFunc x #[t] assign fh)::k):=by
 intro tmps p
 refine ae.step rfl λ w hw=>?_
 obtain ⟨⟨l,mark⟩,w',R',H',h1,h2,h3,rfl,d,b,rfl,G⟩:=M tmps w hw
 have W:=p.knows ⟨c.fn,c.kind,c.ro,c.n,mark++c.defers,c.cs⟩ (.inRangeFunc l::k)
 have Y:aj P (do let d ← resolve (aR ⟨c.fn,c.kind,c.ro,c.n,mark++c.defers,c.cs⟩ tmps (.inRangeFunc l::k)).eval { callee:=.value x,args:=#[.const (.func (.yield l) #[] #[])],argTypes:=#[] } 0; invoke d.target d.args) (.enter f (first++#[.func (.yield l) #[] #[]]++cap)):=by
  obtain ⟨fn,e1,s,F⟩:=he.ex
  simp only [resolve,W x _ Z,Deferred.ofValue]
  refine aj.bt (a:=⟨.fn (.func f) cap,first++#[.func (.yield l) #[] #[]]⟩) (by simpa [Frame.eval] using aj.bj _) ?_
  simp only [invoke]
  exact py e1 s F
 have Q:=h l mark d b tmps p G
 refine ⟨_,w',seen P c.fn ((Instr.enterLoop c.fn tmps #[t] assign fh c.ro).events P w #[]),R',_,?_,λ e L=>h2 e (mem_seen L),h3,Q⟩
 have j:=Y w'
 simp only [aR] at j
 have V:(c.kind == CallKind.early)=false:=T
 simp [stepG,stepG.exec,stepG.apply,aS,aR,h1,j.1,j.2,GStep.after,V,seen]
theorem U.Ce{l:Nat}{r:Loop}{Hs T:ai}{pend:Option Code}(hb:(r.state == .busy)=false)(b:r.pending=pend)(h:U ae c R (Hs++T) st ((pend.map Item.code).toList++k)):U ae c R (Hs++(l,.loop r)::T) st (.endRangeFunc l::k):=λ tmps f=>by
 subst b
 refine ae.step rfl λ w hw=>?_
 obtain ⟨v,w',R',H',h1,h2,h3,rfl,rfl,rfl⟩:=Su (P:=P) hb w hw
 refine ⟨aS (aR c tmps ((r.pending.map Item.code).toList++k)) c.cs,w',seen P c.fn ((Instr.endLoop l).events P w #[]),R',_,?_,λ e he=>h2 e (mem_seen he),h3,J.drop ?_ (h tmps f)⟩
 ·simp [stepG,stepG.exec,aS,aR,h1,GStep.after]
 ·exact (List.sublist_cons_self _ _).append_left _
theorem LR{tmps:aU}{l:Nat}{w:Value}:(aR c tmps (.inRangeFunc l::k)).finish w=aR c tmps (.endRangeFunc l::k):=rfl
theorem U.Fu{V:Type}{jT:(α→(S ⊕ O)→Option ((S ⊕ O) × Bool))→(S ⊕ O)→Option (S ⊕ O)}{cont:S ⊕ O→Option V}{s0:S}{rr:V}{x:Operand}{f:FuncId}{first cap:aU}{H1:ai}
  (Z:(jT (dM body) (.inl s0)).bind cont=some rr) (al:aY st x=some (.func (.func f) first cap)) (he:aV P f) (ad:(c.kind == CallKind.early)=false) (w:c.ro=none) (hd:Nat.blt t c.n=true)
  (I:S→aA→ai→ai→Prop) (E:O→aA→ai→ai→Prop) (jc:O→Code) (j:∀ s,Shape (I s)) (M:∀ o,Shape (E o))
  (ag:∀ v Inv Hy z,fL ae R A v (dM body) Inv→Inv (.inl s0) R Hy→jT (dM body) (.inl s0)=some z→aO ae f (first++#[v]++cap) R Hy λ _ R' H'=>aK R R'∧Inv z R' H')
  (Y:I s0 R H H1)
  (ab:∀ r s R' H',aK R R'→I s R' ((r,.deferred (some []))::H) H'→cont (.inl s)=some rr→U ae ⟨c.fn,c.kind,none,c.n,⟨.collected r,#[]⟩::c.defers,c.cs⟩ R' H' st k)
  (am:∀ r o R' H',aK R R'→E o R' ((r,.deferred (some []))::H) H'→cont (.inr o)=some rr→U ae ⟨c.fn,c.kind,none,c.n,⟨.collected r,#[]⟩::c.defers,c.cs⟩ R' H' st (.code (jc o)::k))
  (hb:Ay I E jc ae c R H st A body t assign fh) :
  U ae c R H1 st (.code (.rangeFunc x #[t] assign fh)::k):=by
 obtain ⟨z,hm,T⟩:=af Z
 refine U.Kt al he ad (K:=λ q R' L=>∃ r,q.2=[⟨.collected r,#[]⟩]∧L=(r,.deferred (some []))::H1) (λ tmps=>?_) ?_
 ·rw [w]
  exact Sw.mono λ q R' H' ⟨h1,r,h2,h3⟩=>⟨h1,r,_,h3,r,h2,rfl⟩
 rintro l mark d L tmps G ⟨r,p,rfl⟩
 have p:mark=[⟨.collected r,#[]⟩]:=p
 subst p
 obtain ⟨Hs,rfl,ah⟩:=j s0 _ _ _ Y
 have ac:fL ae R A (.func (.yield l) #[] #[]) (dM body) (RInv I E jc R l (kr c.fn tmps t assign fh d) ((r,.deferred (some []))::H)):=Md j M G hd (List.sublist_cons_self _ _) hb
 refine J.perm (H':=Hs++(l,.loop (kr c.fn tmps t assign fh d))::(r,.deferred (some []))::H) ?_ ?_
 ·exact List.perm_middle.trans (List.Perm.cons _ List.perm_middle)
 refine ag _ _ _ z ac ⟨aK.refl R,ah R _ (aK.refl R)⟩ hm _ _ λ v R' H' ak=>?_
 rw [LR]
 obtain ⟨Q,b⟩:=ak
 cases z with
 | inl s =>
  obtain ⟨_,b⟩:=b
  obtain ⟨W,rfl,F⟩:=j s _ _ _ b
  rw [w]
  exact U.Ce (c:=⟨c.fn,c.kind,none,c.n,⟨.collected r,#[]⟩::c.defers,c.cs⟩) rfl rfl (ab r s R' _ Q (F R' _ (aK.refl R')) T) tmps G
 | inr o =>
  obtain ⟨_,b⟩:=b
  obtain ⟨W,rfl,F⟩:=M o _ _ _ b
  rw [w]
  exact U.Ce (c:=⟨c.fn,c.kind,none,c.n,⟨.collected r,#[]⟩::c.defers,c.cs⟩) rfl rfl (am r o R' _ Q (F R' _ (aK.refl R')) T) tmps G
theorem U.vM{p:Type}{body:α→S→Option (S ⊕ Empty)}(jT:(α→(S ⊕ Empty)→Option ((S ⊕ Empty) × Bool))→(S ⊕ Empty)→Option (S ⊕ Empty)){f:S→Option p}{g:Empty→Option p}{s0:S}{rr:p}{x:Operand}{b:FuncId}{first cap:aU}{H1:ai}
  (J:(jT (dM body) (.inl s0)).bind (Sum.elim f g)=some rr) (V:aY st x=some (.func (.func b) first cap)) (he:aV P b) (L:(c.kind == CallKind.early)=false) (M:c.ro=none) (hd:Nat.blt t c.n=true)
  (I:S→aA→ai→ai→Prop) (G:∀ s,Shape (I s))
  (Q:∀ v Inv Hy z,fL ae R A v (dM body) Inv→Inv (.inl s0) R Hy→jT (dM body) (.inl s0)=some z→aO ae b (first++#[v]++cap) R Hy λ _ R' H'=>aK R R'∧Inv z R' H')
  (w:I s0 R H H1)
  (K:∀ r s R' H',aK R R'→I s R' ((r,.deferred (some []))::H) H'→f s=some rr→U ae ⟨c.fn,c.kind,none,c.n,⟨.collected r,#[]⟩::c.defers,c.cs⟩ R' H' st k)
  (hb:∀ (va:Value) (x:α) (s:S) (R':aA) (T H':ai) (l:Nat) (ld:Loop) (cs:List Frame),aK R R'→List.Sublist H T→A R' x va→I s R' ((l,.loop ld)::T) H'→ld.state = .ready→∀ z,body x s=some z →
   (∀ s',z = .inl s'→∀ cc cR j,aK R' cc→I s' cc ((l,.loop { ld with state:=.busy })::T) cR→U ae ⟨c.fn,.normal,some l,c.n,[],cs⟩ cc cR j []) →
   U ae ⟨c.fn,.normal,some l,c.n,[],cs⟩ R' H' ((t,va)::st) [.code assign,.beginRound,.code fh]) :
  U ae c R H1 st (.code (.rangeFunc x #[t] assign fh)::k) :=
 U.Fu (jT:=jT) J V he L M hd I (λ o=>o.elim) (λ o=>o.elim) G (λ o=>o.elim) Q w K (λ _ o=>o.elim)
  (λ va x s z R' T H' l ld cs h1 h2 h3 h4 h5 h6 F _=>hb va x s R' T H' l ld cs h1 h2 h3 h4 h5 z h6 λ s' W cc cR j=>F s' cc cR j W)
theorem U.vN{F:Type}(jT:(α→(S ⊕ O)→Option ((S ⊕ O) × Bool))→(S ⊕ O)→Option (S ⊕ O)){f:S→Option F}{g:O→Option F}{s0:S}{rr:F}{x:Operand}{w:FuncId}{first cap:aU}{H1:ai}(jc:Code)
  (Q:(jT (dM body) (.inl s0)).bind (Sum.elim f g)=some rr) (ab:aY st x=some (.func (.func w) first cap)) (he:aV P w) (W:(c.kind == CallKind.early)=false) (Y:c.ro=none) (hd:Nat.blt t c.n=true)
  (I:S→aA→ai→ai→Prop) (E:O→aA→ai→ai→Prop) (M:∀ s,Shape (I s)) (L:∀ s,Shape (E s))
  (Z:∀ v Inv Hy z,fL ae R A v (dM body) Inv→Inv (.inl s0) R Hy→jT (dM body) (.inl s0)=some z→aO ae w (first++#[v]++cap) R Hy λ _ R' H'=>aK R R'∧Inv z R' H')
  (G:I s0 R H H1)
  (V:∀ r s R' H',aK R R'→I s R' ((r,.deferred (some []))::H) H'→f s=some rr→U ae ⟨c.fn,c.kind,none,c.n,⟨.collected r,#[]⟩::c.defers,c.cs⟩ R' H' st k)
  (j:∀ r o R' H',aK R R'→E o R' ((r,.deferred (some []))::H) H'→g o=some rr→U ae ⟨c.fn,c.kind,none,c.n,⟨.collected r,#[]⟩::c.defers,c.cs⟩ R' H' st (.code jc::k))
  (hb:∀ (va:Value) (x:α) (s:S) (R':aA) (T H':ai) (l:Nat) (ld:Loop) (cs:List Frame),aK R R'→List.Sublist H T→A R' x va→I s R' ((l,.loop ld)::T) H'→ld.state = .ready→∀ z,body x s=some z →
   (∀ s',z = .inl s'→∀ cc cR b,aK R' cc→I s' cc ((l,.loop { ld with state:=.busy })::T) cR→U ae ⟨c.fn,.normal,some l,c.n,[],cs⟩ cc cR b []) →
   (∀ o,z = .inr o→∀ cc cR b p,aK R' cc→E o cc ((l,.loop { ld with state:=.busy })::T) cR→Leaves (.code jc::p) (some jc)→U ae ⟨c.fn,.normal,some l,c.n,[],cs⟩ cc cR b (.code jc::p)) →
   U ae ⟨c.fn,.normal,some l,c.n,[],cs⟩ R' H' ((t,va)::st) [.code assign,.beginRound,.code fh]) :
  U ae c R H1 st (.code (.rangeFunc x #[t] assign fh)::k) :=
 U.Fu (jT:=jT) Q ab he W Y hd I E (λ _=>jc) M L Z G V j
  (λ va x s z R' T H' l ld cs h1 h2 h3 h4 h5 h6 J K=>hb va x s R' T H' l ld cs h1 h2 h3 h4 h5 z h6 (λ s' j cc cR b=>J s' cc cR b j) (λ o j cc cR b p=>K o cc cR b p j))
theorem Sy{r:Nat}{H':ai}(b:dg H r (.deferred (some [])) (.deferred none) H'):aL P B R H (Instr.takeDeferred r) λ v cc cR=>v=[]∧cc=R∧cR=H':=by
 unfold Instr.takeDeferred
 exact aL.cE (aL.getObj rfl (.inr b.mem) (aL.cE (aL.setObj rfl rfl b (aL.cN ⟨rfl,rfl,rfl⟩))))
theorem FC{fr:Frame}{cs:List Frame}{f:FuncId}{n r:Nat}{H':ai}{tmps:aU}{todo:List Item}(b:dg H r (.deferred (some [])) (.deferred none) H')
  (h:ae.J R H' (aS { (aR ⟨f,.normal,none,n,[],fr::cs⟩ tmps todo) with mode:=.returning } (fr::cs))) :
  ae.J R H (aS { (aR ⟨f,.normal,none,n,[⟨.collected r,#[]⟩],fr::cs⟩ tmps todo) with mode:=.returning } (fr::cs)):=by
 refine ae.step rfl λ w hw=>?_
 obtain ⟨v,w',R',H',h1,h2,h3,rfl,rfl,rfl⟩:=Sy (P:=P) b w hw
 refine ⟨_,w',seen P f ((Instr.takeDeferred r).events P w #[]),R',_,?_,λ e he=>h2 e (mem_seen he),h3,h⟩
 simp [stepG,unwind,aS,aR,h1,GStep.after]
theorem FB{fr:Frame}{cs:List Frame}{f:FuncId}{n:Nat}{fn:Func}{vs:bn}{tmps:aU}{todo:List Item}(b:P.funcs[f]? = some fn)(s:cf n st tmps)(p:gR P R H st fn.results.toList vs)(j:ae.J R H (aS (fr.finish (eE vs)) cs)) :
  ae.J R H (aS { (aR ⟨f,.normal,none,n,[],fr::cs⟩ tmps todo) with mode:=.returning } (fr::cs)):=by
 refine ae.step rfl λ w hw=>?_
 obtain ⟨v,w',R',H',h1,h2,h3,rfl,rfl,rfl⟩:=vX (P:=P) s p w hw
 refine ⟨aS (fr.finish (eE vs)) cs,w',seen P f ((results fn tmps).events P w #[]),R',H',?_,λ e he=>h2 e (mem_seen he),h3,j⟩
 simp [stepG,unwind,doReturn,aS,aR,b,h1,GStep.after]
theorem U.jU{fr:Frame}{cs:List Frame}{f:FuncId}{n r:Nat}{H':ai}{fn:Func}{vs:bn}(s:dg H r (.deferred (some [])) (.deferred none) H')(b:P.funcs[f]? = some fn)(p:gR P R H' st fn.results.toList vs)(j:ae.J R H' (aS (fr.finish (eE vs)) cs)) :
  U ae ⟨f,.normal,none,n,[⟨.collected r,#[]⟩],fr::cs⟩ R H st (.code .ret::k):=λ tmps F=>by
 refine Jd.ctl (g':=aS { (aR ⟨f,.normal,none,n,[⟨.collected r,#[]⟩],fr::cs⟩ tmps (.code .ret::k)) with mode:=.returning } (fr::cs)) rfl (λ w=>by simp [stepG,stepG.exec,aS,aR]) ?_
 exact FC s (FB b F p j)
theorem U.IG{fr:Frame}{cs:List Frame}{f:FuncId}{n r:Nat}{H':ai}{fn:Func}{vs:bn}(s:dg H r (.deferred (some [])) (.deferred none) H')(b:P.funcs[f]? = some fn)(p:gR P R H' st fn.results.toList vs)(j:ae.J R H' (aS (fr.finish (eE vs)) cs)) :
  U ae ⟨f,.normal,none,n,[⟨.collected r,#[]⟩],fr::cs⟩ R H st []:=λ tmps F=>by
 refine Jd.ctl (g':=aS { (aR ⟨f,.normal,none,n,[⟨.collected r,#[]⟩],fr::cs⟩ tmps []) with mode:=.returning } (fr::cs)) rfl (λ w=>by simp [stepG,stepG.exec,aS,aR]) ?_
 exact FC s (FB b F p j)
end
theorem aO.hole{f:FuncId}{args:aU}{G:ai→ai}{Hs:ai}(j:fX G){Q:Value→aA→ai→Prop}(h:aO ae f args R (Hs++G []) λ v R' H'=>∃ b,Q v R' b∧H'=b++G []) :
  aO ae f args R (G Hs) λ v R' H'=>∃ b,Q v R' b∧H'=G b:=by
 obtain ⟨A,D,j⟩:=j
 have key:∀ X:ai,List.Perm (X++G []) (G X):=λ X=>by
  rw [j,j,List.nil_append,← List.append_assoc,← List.append_assoc]
  exact List.perm_append_comm.append_right D
 intro fr cs p
 refine J.perm (key Hs) (h fr cs λ v R' H' w=>?_)
 obtain ⟨b,s,rfl⟩:=w
 exact J.perm (key b).symm (p v R' _ ⟨b,s,rfl⟩)
theorem Ox.jH{x y:Operand}{t u e:TypeId}{o:Oper}{C:aA→ai→St→Prop}{A:Option Addr}{n cap:Nat}{b:Bool}{st':St}(j:o.op = .binOp .eql t x y u)(G:aY st x=some (.slice A n cap))(J:aY st y=some (.slice none 0 0))(F:P.underlying t=some (.slice e))(hb:A.isNone=b)
  (hd:bO o.dst c.n) (w:aB (bT o.dst (.bool b) st) st') (h:C R H st'):aQ P B c o R H st C :=
 Ox.fU (s:=λ f=>do eqGuard .eql t x y (f x) (f y); binOp .eql t (f x) (f y)) (by rw [j]; rfl) hd (λ f=>by simp only [execOp,j]) (λ f p=>by
  rw [p x _ G,p y _ J]
  refine aj.bt (a:=()) (aj.bj _) ?_
  simp only [binOp]
  refine aj.bt (a:=b) ?_ (aj.bj _)
  unfold Op.equal Op.maxDepth Op.equalIn
  refine aj.bt (aj.underlying F) ?_
  cases A with
  | none=>subst hb; exact aj.bj _
  | some a=>subst hb; exact aj.bj _) w h
theorem cr.qK{α:Type}{K:bY α}{k:Nat}{v:Value}{xs:List α}(h:cr K k R H v xs):(∃ cap,v = .slice none 0 cap∧xs=[])∨∃ a n cap,v = .slice (some a) n cap:=by
 obtain ⟨A,cap,es,rfl,h2,h3,h4⟩:=h
 cases A with
 | some a=>exact .inr ⟨a,_,cap,rfl⟩
 | none =>
  cases xs with
  | nil=>exact .inl ⟨cap,rfl,rfl⟩
  | cons x xs =>
   obtain ⟨b,o,g,_⟩:=h4 (by simp)
   cases g
theorem Ox.lk{x y:Operand}{t e len:Nat}{cs:aU}{v:Value}{kd:IntKind}{i:Int}{o:Oper}{C:aA→ai→St→Prop}{st':St}(f:o.op = .index t x y)(G:aY st x=some (.agg cs))(J:aY st y=some (.int kd i))(j:jx P t len e 1)(he:aj P (isAgg e) false)(hi:0≤i∧i < len)(F:cs[i.toNat * 1]? = some v)
  (hd:bO o.dst c.n) (w:aB (bT o.dst v st) st') (h:C R H st'):aQ P B c o R H st C :=
 Ox.fU (s:=λ b=>Instr.index t (b x) (b y)) (by rw [f]; rfl) hd (λ b=>by simp only [execOp,f]) (λ b p=>by
  rw [p x _ G,p y _ J]
  unfold Instr.index
  refine aj.bt (a:=(kd,i)) (aj.bj _) (aj.bt (aj.underlying j.1) ?_)
  simp only [hi,and_self,if_true]
  refine aj.bt j.2 ?_
  unfold part
  refine aj.bt he ?_
  simp only [F]
  exact aj.bj _) w h
theorem U.g7{todo:List Item}{b:Nat}{cs:aU}{e:TypeId}{j:Nat × Nat}(G:ai→ai)(f:fX G){H2:ai}(h2:G []=H2)(h:∀ R',aK R R'→aI R' [] b 0 cs.toList→U ae c R' H2 st todo):U ae c R (G [(b,.cells cs e j)]) st todo:=by
 obtain ⟨A,D,f⟩:=f
 refine U.perm (H':=(b,.cells cs e j)::(A++D)) ?_ (U.freeze λ R' s hb=>?_)
 ·rw [f]; exact List.perm_middle.symm
 ·have p:A++D=H2:=by rw [← h2,f]; rfl
  rw [p]
  exact h R' s (aI.known (n:=cs.toList.length) hb (by rw [List.drop_zero,List.take_length]))
def n6(ae:Jd P B main)(R:aA){α S:Type}(A:g4 α)(v:Value)(q:(α→S→Option (S × Bool))→S→Option S):Prop :=
 ∃ b first cap,v = .func (.func b) first cap∧aV P b∧∀ R',aK R R'→∀ (w:Value) (y:α→S→Option (S × Bool)) (Inv:S→aA→ai→Prop) (Hy:ai) (s z:S),fL ae R' A w y Inv→Inv s R' Hy→q y s=some z →
  aO ae b (first++#[w]++cap) R' Hy λ _ cc H'=>aK R' cc∧Inv z cc H'
theorem n6.mono{R':aA}{α S:Type}{A:g4 α}{v:Value}{q:(α→S→Option (S × Bool))→S→Option S}(h:n6 ae R A v q)(f:aK R R'):n6 ae R' A v q:=by
 obtain ⟨b,first,cap,h1,h2,h3⟩:=h
 exact ⟨b,first,cap,h1,h2,λ cc j=>h3 cc (f.trans j)⟩
theorem fL.frame{α S:Type}{A:g4 α}{v:Value}{y:α→S→Option (S × Bool)}{Inv:S→aA→ai→Prop}(h:fL ae R A v y Inv)(Hf:ai):fL ae R A v y λ s R' H'=>∃ Hy,Inv s R' Hy∧H'=Hf++Hy where
 fn:=h.fn
 mono:=λ h1 h2 ⟨Hy,hi,e⟩=>⟨Hy,h.mono h1 h2 hi,e⟩
 call:=by
  intro H2 R' Hy s x va z j b f p
  obtain ⟨Hy,b,rfl⟩:=b
  have:=h.call (H2++Hf) j b f p
  rw [List.append_assoc] at this
  refine this.mono λ w cc cR ⟨h1,h2,j6,h3,h4⟩=>⟨h1,h2,Hf++j6,⟨j6,h3,rfl⟩,by rw [h4,List.append_assoc]⟩
theorem Ox.nilCheck{x:Operand}{a:Addr}{o:Oper}{C:aA→ai→St→Prop}{st':St}(b:o.op = .nilCheck x)(j:aY st x=some (.pointer (some a)))(hd:bO o.dst c.n)
  (f:aB (bT o.dst (.pointer (some a)) st) st') (h:C R H st'):aQ P B c o R H st C :=
 Ox.val (by rw [b]; rfl) hd (λ s p=>by simp only [execOp,b,p x _ j]; exact aj.bj _) f h
def many(a:ai):List (Nat × ai)→Nat→ai
 | [],_=>a
 | (q,l)::r,j=>if j=q then l else many a r j
section
variable {a N:ai} {ex:List (Nat × ai)} {rem D:List Nat} {i q:Nat} {l H':ai}
theorem a8(b:∀ p∈N,p∈a):∀ j∈rem,j≠i→j ∉ D→∀ p∈N,p∈many a [] j:=λ _ _ _ _ p f=>b p f
theorem aG(hd:(D.contains q || q == i || !rem.contains q)=true)(h:∀ j∈rem,j≠i→j ∉ D→∀ p∈N,p∈many a ex j):∀ j∈rem,j≠i→j ∉ D→∀ p∈N,p∈many a ((q,l)::ex) j:=by
 intro j b s f p w
 unfold many
 split
 ·subst_vars
  simp only [Bool.or_eq_true,Bool.not_eq_true',List.contains_iff_mem,beq_iff_eq] at hd
  rcases hd with (x | x) | x
  ·exact absurd x f
  ·exact absurd x s
  ·have:rem.contains j=true:=List.contains_iff_mem.2 b
   rw [this] at x; cases x
 ·exact h j b s f p w
theorem ze(hl:∀ p∈N,p∈l)(h:∀ j∈rem,j≠i→j ∉ D→∀ p∈N,p∈many a ex j):∀ j∈rem,j≠i→j ∉ D→∀ p∈N,p∈many a ((q,l)::ex) j:=by
 intro j f w s p b
 unfold many
 split
 ·exact hl p b
 ·exact h j f w s p b
theorem b3(he:many a ex i=l)(h:∀ p∈l,p∈H'):∀ p∈many a ex i,p∈H→p∈H':=by
 rw [he]; exact λ p b _=>h p b
end
end
def dP(p:Int):Value:=.int .i64 p
theorem uN{p b:Int}(h:dP p=dP b):p=b:=by
 simpa [dP] using h
def gy(m:Int→Int)(p z:Int):Int→Int:=λ a=>if a=p then z else m a
structure mM (es:List MapEntry) (m:Int→Int) (clock:Nat):Prop where
 uo:∀ e∈es,∃ p,e.key=dP p∧e.val = .int .i64 (m p)
 zero:∀ p,(∀ e∈es,e.key≠dP p)→m p=0
 keys:∀ (i j:Nat) (a b:MapEntry),es[i]? = some a→es[j]? = some b→a.key=b.key→i=j
 old:∀ e∈es,e.born < clock
 AY:∀ (i j:Nat) (a b:MapEntry),es[i]? = some a→es[j]? = some b→a.born=b.born→i=j
def n3(v:Value)(m:Int→Int)(Hs:ai):Prop:=∃ b es clock,v = .map (some b)∧Hs=[(b,.map es clock)]∧mM es.toList m clock
structure tx (P:Program) (t kt et:TypeId):Prop where
 ty:P.underlying t=some (.map kt et)
 key:P.underlying kt=some (.int .i64)
 fi:∀ (e:Bool) (a:Int),aj P (Instr.checkKey e 10000 kt (dP a)) ()
 zero:aj P (zeroValue et) (.int .i64 0)
section
variable {P:Program} {B:Base} {main:Bool} {ae:Jd P B main} {c:Ctx} {R:aA} {H:ai} {st st':St} {o:Oper} {C:aA→ai→St→Prop}
def GX(es:List MapEntry)(p:Int)(r:Option (Nat × Value)):Prop :=
 (r=none∧∀ e∈es,e.key≠dP p)∨∃ (i:Nat) (e:MapEntry),es[i]? = some e∧e.key=dP p∧r=some (i,e.val)
theorem C5(p:Int):∀ (es:List MapEntry) (i:Nat),(∀ e∈es,∃ p,e.key=dP p)→∃ r,Instr.findNow (.int .i64) (dP p) es i=some r∧((r=none∧∀ e∈es,e.key≠dP p)∨∃ (j:Nat) (e:MapEntry),es[j]? = some e∧e.key=dP p∧r=some (i+j,e.val))
 | [],i,h=>⟨none,rfl,.inl ⟨rfl,λ e he=>(by cases he)⟩⟩
 | e::es,i,h=>by
  obtain ⟨F,b⟩:=h e (by simp)
  by_cases heq:p=F
  ·subst heq
   refine ⟨some (i,e.val),?_,.inr ⟨0,e,rfl,b,rfl⟩⟩
   unfold Instr.findNow
   rw [b]
   simp [dP,Instr.sameNow]
  ·obtain ⟨r,w,f⟩:=C5 p es (i+1) (λ e he=>h e (by simp [he]))
   refine ⟨r,?_,?_⟩
   ·unfold Instr.findNow
    rw [b]
    simp only [dP] at w ⊢
    have hb:(p == F)=false:=by simpa using heq
    simp [Instr.sameNow,hb,w]
   ·rcases f with ⟨rfl,f⟩ | ⟨j,G,h1,h2,rfl⟩
    ·refine .inl ⟨rfl,λ x s=>?_⟩
     rcases c8.1 s with rfl | s
     ·intro J
      exact heq (uN (b.symm.trans J)).symm
     ·exact f x s
    ·exact .inr ⟨j+1,G,by simpa using h1,h2,by simp; omega⟩
theorem Gt{t kt et:TypeId}(G:tx P t kt et)(p:Int){es:List MapEntry}{m:Int→Int}{f:Nat}(h:mM es m f):∃ r,aj P (Instr.findKey kt (dP p) es) r∧GX es p r:=by
 obtain ⟨r,F,b⟩:=C5 p es 0 (λ e he=>let ⟨p,w,_⟩:=h.uo e he; ⟨p,w⟩)
 refine ⟨r,?_,?_⟩
 ·unfold Instr.findKey
  refine aj.bt (aj.underlying G.key) ?_
  rw [F]
  exact aj.bj _
 ·rcases b with b | ⟨j,s,h1,h2,h3⟩
  ·exact .inl b
  ·exact .inr ⟨j,s,h1,h2,by simpa using h3⟩
theorem Ox.Qe{t:TypeId}(p:o.op = .makeMap t none)(hd:bO o.dst c.n)
  (hC:∀ v Hs,n3 v (λ _=>0) Hs→∃ st',aB (bT o.dst v st) st'∧C R (Hs++H) st'):aQ P B c o R H st C :=
 Ox.mem (s:=λ w=>Instr.makeMap t none) (by rw [p]; rfl) hd (λ w=>by simp only [execOp,p]; rfl) (λ w F=>by
  unfold Instr.makeMap
  refine aL.cE (aL.new λ b _ _=>aL.cN ?_)
  exact hC (.map (some b)) [(b,.map #[] 0)] ⟨b,#[],0,rfl,rfl,⟨λ e he=>(by cases he),λ _ _=>rfl,λ i j a b f=>(by simp at f),λ e he=>(by cases he),λ i j a b f=>(by simp at f)⟩⟩)
theorem Ox.DS{x y:Operand}{t kt et:TypeId}{v:Value}{m:Int→Int}{p:Int}{Hs:ai}(F:o.op = .lookup t x y false)(V:aY st x=some v)(W:aY st y=some (dP p))(f:tx P t kt et)(hm:n3 v m Hs)(K:∀ q∈Hs,q∈H)
  (hd:bO o.dst c.n) (w:aB (bT o.dst (.int .i64 (m p)) st) st') (h:C R H st'):aQ P B c o R H st C :=
 Ox.mem (s:=λ j=>Instr.lookup t (j x) (j y) false) (by rw [F]; rfl) hd (λ j=>by simp only [execOp,F]) (λ j G=>by
  rw [G x _ V,G y _ W]
  unfold Instr.lookup
  refine aj.dc (aj.underlying f.ty) ?_
  obtain ⟨b,es,J,rfl,rfl,he⟩:=hm
  refine aL.cE (aL.getObj rfl (.inr (K (b,.map es J) (by simp))) ?_)
  refine aL.cE (aL.cN ?_)
  obtain ⟨r,T,L⟩:=Gt f p he
  refine aj.dc (f.fi _ p) (aj.dc T ?_)
  rcases L with ⟨rfl,Q⟩ | ⟨i,e,h1,h2,rfl⟩
  ·refine aj.dc f.zero (aL.cE (aL.cN (aL.cN ?_)))
   rw [he.zero p Q] at w
   exact ⟨st',w,h⟩
  ·obtain ⟨Y,M,U⟩:=he.uo e (List.mem_of_getElem? h1)
   obtain rfl:=uN (M.symm.trans h2)
   rw [U]
   exact aL.cE (aL.cN (aL.cN ⟨st',w,h⟩)))
theorem Sr(p:Int):Instr.sameBits 10000 (dP p) (dP p)=true:=by
 simp [Instr.sameBits,dP]
theorem mM.push{es:Array MapEntry}{m:Int→Int}{s:Nat}{p z:Int}(h:mM es.toList m s)(G:∀ e∈es.toList,e.key≠dP p) :
  mM (es.push { key:=dP p,val:=.int .i64 z,born:=s }).toList (gy m p z) (s+1):=by
 rw [Array.toList_push]
 refine ⟨λ e he=>?_,λ F J=>?_,λ i j a b f hb w=>?_,λ e he=>?_,λ i j a b f hb w=>?_⟩
 ·rcases List.mem_append.1 he with he | he
  ·obtain ⟨F,h1,h2⟩:=h.uo e he
   refine ⟨F,h1,?_⟩
   unfold gy
   rw [if_neg (λ K=>G e he (by rw [h1,K])),h2]
  ·rcases List.mem_singleton.1 he with rfl
   exact ⟨p,rfl,by simp [gy]⟩
 ·have h1:=h.zero F λ e he=>J e (List.mem_append.2 (.inl he))
  unfold gy
  rw [if_neg,h1]
  rintro rfl
  exact J { key:=dP F,val:=.int .i64 z,born:=s } (List.mem_append.2 (.inr (by simp))) rfl
 ·rw [List.getElem?_append] at f hb
  split at f <;> split at hb
  ·exact h.keys i j a b f hb w
  ·have:b={ key:=dP p,val:=.int .i64 z,born:=s }:=by
    have:=List.mem_of_getElem? hb; simpa using this
   subst this
   exact absurd w (G a (List.mem_of_getElem? f))
  ·have:a={ key:=dP p,val:=.int .i64 z,born:=s }:=by
    have:=List.mem_of_getElem? f; simpa using this
   subst this
   exact absurd w.symm (G b (List.mem_of_getElem? hb))
  ·have h1:=(eL.1 f).1
   have h2:=(eL.1 hb).1
   simp only [List.length_singleton,Array.length_toList] at *
   omega
 ·rcases List.mem_append.1 he with he | he
  ·have:=h.old e he; omega
  ·rcases List.mem_singleton.1 he with rfl
   exact Nat.lt_succ_self _
 ·rw [List.getElem?_append] at f hb
  split at f <;> split at hb
  ·exact h.AY i j a b f hb w
  ·have:b={ key:=dP p,val:=.int .i64 z,born:=s }:=by
    have:=List.mem_of_getElem? hb; simpa using this
   subst this
   have:=h.old a (List.mem_of_getElem? f)
   simp only at w
   omega
  ·have:a={ key:=dP p,val:=.int .i64 z,born:=s }:=by
    have:=List.mem_of_getElem? f; simpa using this
   subst this
   have:=h.old b (List.mem_of_getElem? hb)
   simp only at w
   omega
  ·have h1:=(eL.1 f).1
   have h2:=(eL.1 hb).1
   simp only [List.length_singleton,Array.length_toList] at *
   omega
theorem rX{α:Type}{a:Array α}{j:Nat}{x:α}(h:a.toList[j]? = some x):a[j]? = some x:=by rwa [Array.getElem?_toList] at h
theorem mM.j0{es:Array MapEntry}{m:Int→Int}{U i:Nat}{p z:Int}{e:MapEntry}(he:mM es.toList m U)(hi:es[i]? = some e)(J:e.key=dP p) :
  mM (es.modify i λ e=>{ e with key:=dP p,val:=.int .i64 z }).toList (gy m p z) U:=by
 have w:∀ j a,(es.modify i λ e=>{ e with key:=dP p,val:=.int .i64 z })[j]? = some a→∃ f,es[j]? = some f∧a.key=f.key∧a.born=f.born∧a.val=if i=j then .int .i64 z else f.val:=by
  intro j a b
  rw [Array.getElem?_modify] at b
  by_cases s:i=j
  ·subst s
   rw [hi] at b
   simp only [if_true,Option.map_some,ey] at b
   subst b
   exact ⟨e,hi,J.symm,rfl,by simp⟩
  ·simp only [s,if_false] at b
   exact ⟨a,b,rfl,rfl,by simp [s]⟩
 have V:∀ a∈(es.modify i λ e=>{ e with key:=dP p,val:=.int .i64 z }).toList,∃ j,(es.modify i λ e=>{ e with key:=dP p,val:=.int .i64 z })[j]? = some a:=λ a b=>by
  obtain ⟨j,s⟩:=List.mem_iff_getElem?.1 b
  exact ⟨j,rX s⟩
 refine ⟨λ a b=>?_,λ G W=>?_,λ j k a K b hb L=>?_,λ a b=>?_,λ j k a K b hb L=>?_⟩
 ·obtain ⟨j,s⟩:=V a b
  obtain ⟨f,h1,h2,h3,h4⟩:=w j a s
  obtain ⟨G,Q,Z⟩:=he.uo f (by rw [← Array.mem_def]; exact Array.mem_of_getElem? h1)
  refine ⟨G,h2.trans Q,?_⟩
  rw [h4]
  by_cases F:i=j
  ·subst F
   rw [hi] at h1; cases h1
   obtain rfl:=uN (J.symm.trans Q)
   simp [gy]
  ·rw [if_neg F,Z]
   unfold gy
   rw [if_neg]
   rintro rfl
   exact F (he.keys i j e f (by simpa using hi) (by simpa using h1) (J.trans Q.symm))
 ·unfold gy
  by_cases T:G=p
  ·subst T
   exfalso
   obtain ⟨ac,ab⟩:=Array.getElem?_eq_some_iff.1 hi
   refine W { e with key:=dP G,val:=.int .i64 z } ?_ rfl
   rw [← Array.mem_def]
   exact Array.mem_of_getElem? (i:=i) (by rw [Array.getElem?_modify]; simp [hi])
  ·rw [if_neg T]
   refine he.zero G λ a b=>?_
   obtain ⟨j,s⟩:=List.mem_iff_getElem?.1 b
   have M:es[j]? = some a:=by simpa using s
   by_cases F:i=j
   ·subst F
    rw [hi] at M; cases M
    intro Y
    exact T (uN (J.symm.trans Y)).symm
   ·exact W a (by rw [← Array.mem_def]; exact Array.mem_of_getElem? (i:=j) (by rw [Array.getElem?_modify]; simp [F,M]))
 ·obtain ⟨f,h1,h2,_⟩:=w j a (rX b)
  obtain ⟨b0,k1,k2,_⟩:=w k K (rX hb)
  exact he.keys j k f b0 (by simpa using h1) (by simpa using k1) (h2.symm.trans (L.trans k2))
 ·obtain ⟨j,s⟩:=V a b
  obtain ⟨f,h1,h2,h3,h4⟩:=w j a s
  rw [h3]
  exact he.old f (by rw [← Array.mem_def]; exact Array.mem_of_getElem? h1)
 ·obtain ⟨f,h1,_,h3,_⟩:=w j a (rX b)
  obtain ⟨b0,k1,_,k3,_⟩:=w k K (rX hb)
  exact he.AY j k f b0 (by simpa using h1) (by simpa using k1) (h3.symm.trans (L.trans k3))
theorem Ox.Qg{x y u:Operand}{t kt et:TypeId}{v:Value}{m:Int→Int}{p z:Int}{Hs:ai}(G:ai→ai)(M:o.op = .mapUpdate t x y u)(W:aY st x=some v)(Y:aY st y=some (dP p))(Z:aY st u=some (.int .i64 z))(F:tx P t kt et)(j:fX G)(hm:n3 v m Hs)
  (hd:o.dst=none) (w:aB st st') (hC:∀ K,n3 v (gy m p z) K→C R (G K) st'):aQ P B c o R (G Hs) st C :=
 Ox.vr (s:=λ f=>Instr.mapUpdate t (f x) (f y) (f u)) (by rw [M]; rfl) hd (λ f=>by simp only [execOp,M]) w (λ f J=>by
  rw [J x _ W,J y _ Y,J u _ Z]
  unfold Instr.mapUpdate
  refine aj.dc (aj.underlying F.ty) ?_
  obtain ⟨b,es,Q,rfl,rfl,he⟩:=hm
  refine aL.cE (aL.getObj rfl (.inr (j.set (o':=.map es Q)).mem) ?_)
  obtain ⟨r,V,T⟩:=Gt F p he
  refine aj.dc (F.fi _ p) (aj.dc V ?_)
  rcases T with ⟨rfl,U⟩ | ⟨i,e,h1,h2,rfl⟩
  ·exact aL.setObj rfl rfl j.set (hC _ ⟨b,_,_,rfl,rfl,he.push U⟩)
  ·have L:es[i]? = some e:=by simpa using h1
   have w:aj P (Instr.keyThatStays (((es[i]?).map (·.key)).getD (dP p)) (dP p)) (dP p):=by
    rw [L]
    simp only [Option.map_some,gP,h2,Instr.keyThatStays,Sr,if_true]
    exact aj.bj _
   exact aj.dc w (aL.setObj rfl rfl j.set (hC _ ⟨b,_,_,rfl,rfl,he.j0 L h2⟩)))
end
def eo{α:Type}(m:Nat)(xs:List α)(i:Int):Option (List α):=if 0≤i∧i.toNat * m+m≤xs.length then some ((xs.drop (i.toNat * m)).take m) else none
def fT{α:Type}(m:Nat)(xs:List α)(i k:Int)(x:α):List α:=xs.set (i.toNat * m+k.toNat) x
def qR{α:Type}(m:Nat)(xs:List α)(i:Int)(r:List α):List α:=xs.take (i.toNat * m)++(r++xs.drop (i.toNat * m+m))
section
variable {α:Type} {m n:Nat} {xs r g:List α} {i k:Int} {x y:α}
theorem mA(h:eo m xs i=some r):0≤i∧i.toNat * m+m≤xs.length∧r=(xs.drop (i.toNat * m)).take m:=by
 unfold eo at h
 split at h
 ·rename_i b; cases h; exact ⟨b.1,b.2,rfl⟩
 ·cases h
theorem hA(h:eo m xs i=some r):r.length=m:=by
 obtain ⟨_,h2,rfl⟩:=mA h
 simp only [gO,List.length_drop]
 omega
theorem qS(h:xs.length=n):(fT m xs i k x).length=n:=by simpa [fT] using h
theorem Sz(h:eo m xs i=some r)(f:xs.length=n)(b:g.length=m):(qR m xs i g).length=n:=by
 obtain ⟨_,h2,_⟩:=mA h
 simp only [qR,gi,gO,List.length_drop]
 omega
theorem lh{P:Program}{t e len K b o:Nat}(f:jx P t len e K)(hl:xs.length=len * m)(hm:0 < m)(h:eo m xs i=some r):lL P t (.pointer (some ⟨b,o,none⟩)) i b (o+i.toNat * K):=by
 obtain ⟨h1,h2,_⟩:=mA h
 refine Dh f ⟨h1,?_⟩
 rw [hl] at h2
 have h3:(i.toNat+1) * m≤len * m:=by rw [Nat.add_mul]; omega
 have:=Nat.le_of_mul_le_mul_right h3 hm
 omega
theorem Sn{pre post:bn}{f:α→Value}{p:Nat}(h:eo m xs i=some r)(b:pre.length=p):∃ a c,pre++(xs.map f++post)=a++(r.map f++c)∧a.length=p+i.toNat * m:=by
 obtain ⟨_,h2,rfl⟩:=mA h
 refine ⟨pre++(xs.take (i.toNat * m)).map f,(xs.drop (i.toNat * m+m)).map f++post,?_,by simp [b]; omega⟩
 have e:xs=xs.take (i.toNat * m)++((xs.drop (i.toNat * m)).take m++xs.drop (i.toNat * m+m)):=by
  rw [← List.drop_drop,List.take_append_drop,List.take_append_drop]
 conv=>lhs; rw [e]
 simp
theorem aI.row{R:aA}{H:ai}{b o p:Nat}{f:α→Value}{pre post:bn}(s:aI R H b o (pre++(xs.map f++post)))(h:eo m xs i=some r)(F:pre.length=p):aI R H b (o+p+i.toNat * m) ([]++(r.map f++[])):=by
 obtain ⟨a,c,e,w⟩:=Sn (post:=post) (f:=f) h F
 rw [e] at s
 have:=s.part (j:=a.length) (n:=(r.map f).length) (S9 rfl rfl)
 rw [w] at this
 simpa [Nat.add_assoc] using this
theorem w8{pre post:bn}{f:α→Value}{p:Nat}(h:eo m xs i=some r)(b:idx r k=some y)(j:pre.length=p):Nat.blt (p+i.toNat * m+k.toNat * 1) ((pre++(xs.map f++post)).toArray).size=true:=by
 obtain ⟨_,h2,_⟩:=mA h
 obtain ⟨_,h4,h5⟩:=km b
 have:=hA h
 have:=(eL.1 h5).1
 rw [Nat.blt_eq]
 simp
 omega
theorem w9{pre post:bn}{f:α→Value}{p:Nat}(h:eo m xs i=some r)(b:idx r k=some y)(j:pre.length=p):((pre++(xs.map f++post)).toArray).setIfInBounds (p+i.toNat * m+k.toNat * 1) (f x)=(pre++((fT m xs i k x).map f++post)).toArray:=by
 obtain ⟨_,h2,_⟩:=mA h
 obtain ⟨_,h4,h5⟩:=km b
 have:=hA h
 have:=(eL.1 h5).1
 subst j
 unfold fT
 simp only [Nat.mul_one,List.setIfInBounds_toArray,List.map_set]
 congr 1
 rw [List.set_append_right _ _ (by omega),show pre.length+i.toNat * m+k.toNat - pre.length=i.toNat * m+k.toNat by omega,List.set_append_left _ _ (by simp; omega)]
theorem Sk{pre post:bn}{f:α→Value}{p:Nat}(h:eo m xs i=some r)(b:pre.length=p):Nat.ble (p+i.toNat * m+m) ((pre++(xs.map f++post)).toArray).size=true:=by
 obtain ⟨_,h2,_⟩:=mA h
 rw [Nat.ble_eq]
 simp
 omega
theorem Rk{a c vs ws:bn}{cs:aU}{off:Nat}(p:cs=(a++(vs++c)).toArray)(f:a.length=off)(hl:ws.length=vs.length):dL cs off ws=(a++(ws++c)).toArray:=by
 subst p f
 apply Array.ext_getElem?
 intro j
 rw [nJ ws _ _ j (by simp; omega)]
 by_cases b:a.length≤j∧j < a.length+ws.length
 ·rw [if_pos b]
  simp only [List.getElem?_toArray]
  rw [g1 b.1,jw (by omega)]
 ·rw [if_neg b]
  simp only [List.getElem?_toArray]
  by_cases h1:j < a.length
  ·rw [jw h1,jw h1]
  ·rw [g1 (by omega),g1 (by omega),g1 (by omega),g1 (by omega),hl]
theorem Sp{pre post:bn}{f:α→Value}{p:Nat}(h:eo m xs i=some r)(j:g.length=m)(s:pre.length=p):dL ((pre++(xs.map f++post)).toArray) (p+i.toNat * m) (([]:bn)++(g.map f++[]))=(pre++((qR m xs i g).map f++post)).toArray:=by
 obtain ⟨_,h2,_⟩:=mA h
 have w:=hA h
 have e:xs=xs.take (i.toNat * m)++(r++xs.drop (i.toNat * m+m)):=by
  obtain ⟨_,_,rfl⟩:=mA h
  rw [← List.drop_drop,List.take_append_drop,List.take_append_drop]
 have b:(pre++(xs.map f++post)).toArray=((pre++(xs.take (i.toNat * m)).map f)++(r.map f++((xs.drop (i.toNat * m+m)).map f++post))).toArray:=by
  conv=>lhs; rw [e]
  simp
 have:=Rk (ws:=([]:bn)++(g.map f++[])) (off:=p+i.toNat * m) b (by simp [s]; omega) (by simp [j,w])
 rw [this]
 simp [qR]
end
section
variable {P:Program} {B:Base} {main:Bool} {c:Ctx} {R:aA} {H:ai} {st st':St} {o:Oper} {C:aA→ai→St→Prop}
theorem Ox.yD{α:Type}{x y:Operand}{t e len:Nat}{f:α→Value}{xs:List α}{a:α}{kd:IntKind}{i:Int}(b:o.op = .index t x y) (s:aY st x=some (.agg (List.toArray ([]++(xs.map f++[]))))) (w:aY st y=some (.int kd i)) (p:jx P t len e 1) (he:aj P (isAgg e) false) (hl:xs.length=len) (hi:idx xs i=some a)
  (hd:bO o.dst c.n) (j:aB (bT o.dst (f a) st) st') (h:C R H st'):aQ P B c o R H st C:=by
 obtain ⟨h1,h2,h3⟩:=km hi
 exact Ox.lk b s w p he ⟨h1,by omega⟩ (by simp [h3]) hd j h
end
instance {n:Nat}:CM (g2 Value.bool n):=⟨λ _ h=>h,λ ⟨_,h⟩ u hu=>by
 subst h
 simp only [List.nil_append,List.append_nil,List.mem_map] at hu
 obtain ⟨_,_,rfl⟩:=hu
 rfl⟩
instance {n:Nat} {kd:IntKind}:CM (g2 (Value.int kd) n):=⟨λ _ h=>h,λ ⟨_,h⟩ u hu=>by
 subst h
 simp only [List.nil_append,List.append_nil,List.mem_map] at hu
 obtain ⟨_,_,rfl⟩:=hu
 rfl⟩
section
variable {P:Program} {B:Base} {main:Bool} {c:Ctx} {R:aA} {H:ai} {st st':St} {o:Oper} {C:aA→ai→St→Prop}
theorem Ox.Rs{t:TypeId}{x:Operand}{s:ByteArray}(j:o.op = .range t x)(p:aY st x=some (.string s))(hu:P.underlying t=some .string)(hd:bO o.dst c.n)
  (hC:∀ b,R b=none→(∀ y,(b,y) ∉ H)→∃ st',aB (bT o.dst (.pointer (some ⟨b,0,none⟩)) st) st'∧C R ((b,.stringIter s 0)::H) st'):aQ P B c o R H st C :=
 Ox.mem (s:=λ f=>Instr.range t (f x)) (by rw [j]; rfl) hd (λ f=>by simp only [execOp,j]) (λ f w=>by
  rw [w x _ p]
  unfold Instr.range
  refine aj.dc (aj.underlying hu) (aj.dc (aj.bj _) ?_)
  exact aL.cE (aL.new λ b h1 h2=>aL.cN (hC b h1 h2)))
theorem Ox.Qz{x:Operand}{b:Nat}{s:ByteArray}{pos:Nat}(j:o.op = .next x true)(F:aY st x=some (.pointer (some ⟨b,0,none⟩)))(hb:(b,Obj.stringIter s pos)∈H)(p:¬ pos < s.size)(hd:bO o.dst c.n)
  (w:aB (bT o.dst (.tuple #[.bool false]) st) st') (h:C R H st'):aQ P B c o R H st C :=
 Ox.mem (s:=λ f=>Instr.next (f x) true o.type) (by rw [j]; rfl) hd (λ f=>by simp only [execOp,j]) (λ f G=>by
  rw [G x _ F]
  unfold Instr.next
  refine aL.cE (aL.getObj rfl (.inr hb) ?_)
  simp only [p,if_false]
  exact aL.cN ⟨st',w,h⟩)
theorem Ox.QA{x:Operand}{b:Nat}{s:ByteArray}{pos:Nat}{H':ai}(j:o.op = .next x true)(F:aY st x=some (.pointer (some ⟨b,0,none⟩)))(hb:dg H b (.stringIter s pos) (.stringIter s (pos+(Utf8.decode s pos).2)) H')(p:pos < s.size)(hd:bO o.dst c.n)
  (w:aB (bT o.dst (.tuple #[.bool true,.int .i64 (pos:Int),.int .i32 ((Utf8.decode s pos).1:Int)]) st) st') (h:C R H' st'):aQ P B c o R H st C :=
 Ox.mem (s:=λ f=>Instr.next (f x) true o.type) (by rw [j]; rfl) hd (λ f=>by simp only [execOp,j]) (λ f G=>by
  rw [G x _ F]
  unfold Instr.next
  refine aL.cE (aL.getObj rfl (.inr hb.mem) ?_)
  simp only [p,if_true]
  exact aL.cE (aL.setObj rfl rfl hb (aL.cN ⟨st',w,h⟩)))
end
theorem Rm{old vs:bn}(h:vs.length=old.length)(tl:bn):dL (List.toArray (old++tl)) 0 vs=List.toArray (vs++tl):=by
 apply Array.ext_getElem?
 intro j
 rw [nJ vs _ 0 j (by simp; omega)]
 simp only [Nat.zero_le,true_and,Nat.zero_add,Nat.sub_zero,List.getElem?_toArray]
 by_cases b:j < vs.length
 ·rw [if_pos b,jw b]
 ·rw [if_neg b,g1 (by omega),g1 (by omega),h]
theorem s6{α:Type}(T H:List α){l:α}:List.Perm (l::(T++H)) (H++l::T):=List.perm_append_comm (l₁:=l::T)
class gC (P:Program) where
 off:Nat→Nat→Option Nat
 ok:∀ s f n,off s f=some n→cT P s f n
def vJ(p:Nat→Nat→Option Nat)(st:St)(o:Oper):Option Value :=
 match o.op with
 | .move x=>aY st x
 | .assign x=>aY st x
 | .pick x y z=>match aY st x with
  | some (.bool true)=>aY st y
  | some (.bool false)=>aY st z
  | _=>none
 | .extract x j=>match aY st x with
  | some (.tuple vs)=>vs[j]?
  | _=>none
 | .unOp .not _ x=>match aY st x with
  | some (.bool a)=>some (.bool (!a))
  | _=>none
 | .binOp bo _ x y _=>match aY st x,aY st y with
  | some (.int kd a),some (.int w b)=>if kd=w then (match xJ bo a b with
   | some r=>some (.bool r)
   | none=>match w7 bo a b with
    | some z=>some (.int kd (kd.wrap z))
    | none=>none) else none
  | _,_=>none
 | .fieldAddr s x f=>match aY st x,p s f with
  | some (.pointer (some ⟨b,n,none⟩)),some off=>some (.pointer (some ⟨b,n+off,none⟩))
  | _,_=>none
 | _=>none
section
variable {P:Program} [gC P] {B:Base} {main:Bool} {ae:Jd P B main} {c:Ctx} {R:aA} {H:ai} {st st':St} {o:Oper} {C:aA→ai→St→Prop} {k:List Item}
theorem Ft{v:Value}(h:vJ (gC.off P) st o=some v)(hd:bO o.dst c.n)(F:aB (bT o.dst v st) st')(hC:C R H st'):aQ P B c o R H st C:=by
 unfold vJ at h
 split at h
 ·rename_i x p; exact Ox.move p h hd F hC
 ·rename_i x p; exact Ox.assign p h hd F hC
 ·rename_i x y z p
  split at h
  ·rename_i w; exact Ox.Rh p w h hd F hC
  ·rename_i w; exact Ox.Rg p w h hd F hC
  ·cases h
 ·rename_i x j p
  split at h
  ·rename_i w; exact Ox.extract p w h hd F hC
  ·cases h
 ·rename_i t x p
  split at h
  ·rename_i w; cases h; exact Ox.not p w hd F hC
  ·cases h
 ·rename_i bo t x y u p
  split at h
  ·rename_i kd a M b w G
   split at h
   ·rename_i e; subst e
    split at h
    ·rename_i r K; cases h; exact Ox.cmp p w G K hd F hC
    ·split at h
     ·rename_i z L; cases h; exact Ox.ar p w G L hd F hC
     ·cases h
   ·cases h
  ·cases h
 ·rename_i s x f p
  split at h
  ·rename_i w J; cases h; exact Ox.fieldAddr p w (gC.ok s f _ J) hd F hC
  ·cases h
 ·cases h
def zW(b:Nat→Nat→Option Nat)(ops:Array Oper)(n:Nat)(st:St)(i:Nat):Option St :=
 match ops[i]? with
 | none=>none
 | some o=>match ca ops st o with
  | some true=>match vJ b st o,o.dst with
   | some v,some d=>if Nat.blt d n=true then some ((d,v)::st) else none
   | _,_=>none
  | some false=>match gH o.op,o.dst with
   | false,some d=>if Nat.blt d n=true then some ((d,undef)::st) else none
   | false,none=>some st
   | _,_=>none
  | none=>none
def nQ(b:Nat→Nat→Option Nat)(ops:Array Oper)(n:Nat):List Nat→St→Option St
 | [],st=>some st
 | i::is,st=>match zW b ops n st i with
  | some st'=>nQ b ops n is st'
  | none=>none
theorem Gb{ops:Array Oper}{n i:Nat}{f:Nat→Nat→Option Nat}(h:zW f ops n st i=some st'):∃ o,ops[i]? = some o ∧
  ((ca ops st o=some true∧∃ v d,vJ f st o=some v∧o.dst=some d∧bO (some d) n∧st'=(d,v)::st) ∨
   (ca ops st o=some false∧gH o.op=false∧bO o.dst n∧st'=bT o.dst undef st)):=by
 unfold zW at h
 split at h
 ·cases h
 ·rename_i o ho
  refine ⟨o,ho,?_⟩
  split at h
  ·rename_i hw
   split at h
   ·rename_i v d j hd
    split at h
    ·rename_i hl; cases h; exact .inl ⟨hw,v,d,j,hd,hl,rfl⟩
    ·cases h
   ·cases h
  ·rename_i hw
   split at h
   ·rename_i d b hd
    split at h
    ·rename_i hl; cases h; exact .inr ⟨hw,b,by rw [hd]; exact hl,by rw [hd]; rfl⟩
    ·cases h
   ·rename_i b hd
    cases h; exact .inr ⟨hw,b,by rw [hd]; rfl,by rw [hd]; rfl⟩
   ·cases h
  ·cases h
theorem U.run{ops:Array Oper}(f:(c.kind == CallKind.early)=false):∀ {is rest:List Nat} {st:St},nQ (gC.off P) ops c.n is st=some st'→U ae c R H st' (.inRegion ops rest::k)→U ae c R H st (.inRegion ops (is++rest)::k)
 | [],rest,st,h,b=>by cases h; exact b
 | i::is,rest,st,h,b=>by
  unfold nQ at h
  split at h
  ·rename_i w h1
   have j:=U.run f h b
   obtain ⟨o,ho,⟨hw,v,d,p,hd,hl,rfl⟩ | ⟨hw,s,hl,rfl⟩⟩:=Gb h1
   ·exact U.e2 ho hw f (Ft p (by rw [hd]; exact hl) (by rw [hd]; exact aB.refl _) j)
   ·exact U.unwanted ho hw hl (aB.refl _) j
  ·cases h
theorem U.vs(m:Nat){ops:Array Oper}{is b:List Nat}(h:nQ (gC.off P) ops c.n (is.take m) st=some st')(p:is.drop m=b)(f:U ae c R H st' (.inRegion ops b::k))(j:(c.kind == CallKind.early)=false:=by rfl):U ae c R H st (.inRegion ops is::k):=by
 subst p
 have:=U.run (rest:=is.drop m) j h f
 rwa [List.take_append_drop] at this
def B6(ops:Array Oper)(rem:List Nat)(i:Nat):Nat→List Nat→List Nat
 | 0,D=>D
 | n+1,D=>B6 ops rem i n (rem.filter λ j=>j != i && (D.contains j || match ops[j]? with | some o=>o.after.any λ e=>Region.binds .any e && (e.on == i || D.contains e.on) | none=>false))
def rK(ops:Array Oper)(rem:List Nat)(i:Nat):List Nat:=B6 ops rem i rem.length []
def ub(ops:Array Oper):List Nat→List Nat→Bool
 | _,[]=>true
 | rem,i::is=>decide rem.Nodup && hY ops rem i (rK ops rem i) && ub ops (rem.erase i) is
theorem Any.Gz{S:Nat→ai}{ops:Array Oper}{n:Nat}:∀ (is:List Nat) {rem:List Nat} {st:St},nQ (gC.off P) ops c.n is st=some st'→ub ops rem is=true→Any ae c S ops k n (is.foldl List.erase rem) R H st'→Any ae c S ops k (n+is.length) rem R H st
 | [],rem,st,h,_,f=>by cases h; exact f
 | i::is,rem,st,h,b,f=>by
  unfold nQ at h
  split at h
  ·rename_i K h1
   simp only [ub,cO,decide_eq_true_eq] at b
   obtain ⟨⟨s,w⟩,b⟩:=b
   have F:=Any.Gz is h b f
   obtain ⟨o,ho,⟨hw,v,d,J,hd,hl,rfl⟩ | ⟨hw,G,hl,rfl⟩⟩:=Gb h1
   ·exact Any.ps (N:=[]) _ ho hd hw w (λ _ _ _ _ p j=>by cases j) (λ p j=>by cases j) (λ R' H' _ _=>Ft J (by rw [hd]; exact hl) (.one hd) ⟨rfl,rfl,rfl⟩) (aB.refl _) s rfl F
   ·exact Any.S7 _ ho w G hl hw (aB.refl _) s rfl F
  ·cases h
theorem Any.vs{S:Nat→ai}{ops:Array Oper}{n:Nat}(m:Nat)(is:List Nat){rem:List Nat}{st:St}(h:nQ (gC.off P) ops c.n is st=some st')(b:Any ae c S ops k n (is.foldl List.erase rem) R H st')(f:ub ops rem is=true:=by decide +kernel)(hm:is.length=m:=by rfl):Any ae c S ops k (n+m) rem R H st:=by
 subst hm
 exact Any.Gz is h f b
end
section
variable {P:Program} {B:Base} {main:Bool} {ae:Jd P B main} {c:Ctx} {R:aA} {H:ai} {st st':St} {o:Oper} {C:aA→ai→St→Prop} {k:List Item}
theorem U.rg(is:List Nat){id:Nat}{ops:Array Oper}(h:U ae c R H st (.inRegion ops is::k))(f:ops.size=is.length:=by rfl)(b:List.range is.length=is:=by rfl):U ae c R H st (.code (.region id ops false)::k):=U.RL f b h
theorem U.dw(is:List Nat){id:Nat}{ops:Array Oper}(hm:P.follows .mixedOrders=true)(h:Any ae c (λ _=>H) ops k is.length is R H st)(f:(c.kind == CallKind.early)=false:=by rfl)(hb:backward ops=true:=by decide +kernel)(j:ops.size=is.length:=by rfl)(b:List.range is.length=is:=by rfl):U ae c R H st (.code (.region id ops true)::k):=U.Iu hm f hb j b h
theorem Any.tk(i:Nat){N:ai}{ops:Array Oper}{n d:Nat}{rem:List Nat}{v:Value}(ho:ops[i]? = some o)(b:∀ p∈N,p∈H)(j:∀ R' H',aK R R'→(∀ p∈N,p∈H')→aQ P B c o R' H' st λ R1 H1 G=>R1=R'∧H1=H'∧G=[(d,v)])
  (h:Any ae c (λ _=>N) ops k n (rem.erase i) R H ((d,v)::st)) (f:o.dst=some d:=by rfl) (hw:ca ops st o=some true:=by rfl) (F:hY ops rem i (rK ops rem i)=true:=by decide +kernel) (s:rem.Nodup:=by decide):Any ae c (λ _=>N) ops k (n+1) rem R H st :=
 Any.ps _ ho f hw F (λ _ _ _ _ _ w=>w) b j (aB.refl _) s rfl h
theorem U.cv{ops:Array Oper}{i d:Nat}{rest:List Nat}{b:Call}{x:Operand}{f:FuncId}{first captured:aU}{vs:bn}{args:aU}{Post:Value→aA→ai→Prop}(he:aV P f)(w:aO ae f args R H Post)
  (h:∀ v R' H',Post v R' H'→U ae c R' H' ((d,v)::st) (.inRegion ops rest::k))
  (ho:ops[i]? = some o:=by rfl) (hw:ca ops st o=some true:=by rfl) (F:(c.kind == CallKind.early)=false:=by rfl) (G:o.op = .call b:=by rfl) (s:b.callee = .value x:=by rfl) (K:aY st x=some (.func (.func f) first captured):=by rfl)
  (j:eO st b.args.toList=some vs:=by rfl) (p:first++vs.toArray++captured=args:=by rfl) (hd:o.dst=some d:=by rfl) (hl:Nat.blt d c.n=true:=by rfl):U ae c R H st (.inRegion ops (i::rest)::k) :=
 U.step ho hw F (Ox.cD G s K j he p (by rw [hd]; exact hl) (w.mono λ v R' H' J=>⟨_,.put hd,h v R' H' J⟩))
theorem Any.cv(i:Nat){S:Nat→ai}{ops:Array Oper}{n d:Nat}{rem:List Nat}{b:Call}{x:Operand}{f:FuncId}{first captured:aU}{vs:bn}{args:aU}{Post:Value→aA→ai→Prop}(he:aV P f)(F:aO ae f args R H Post)
  (h:∀ v R' H',Post v R' H'→aK R R'∧(∀ p∈S i,p∈H→p∈H')∧Any ae c S ops k n (rem.erase i) R' H' ((d,v)::st))
  (ho:ops[i]? = some o:=by rfl) (hw:ca ops st o=some true:=by rfl) (J:o.op = .call b:=by rfl) (w:b.callee = .value x:=by rfl) (M:aY st x=some (.func (.func f) first captured):=by rfl)
  (j:eO st b.args.toList=some vs:=by rfl) (s:first++vs.toArray++captured=args:=by rfl) (hd:o.dst=some d:=by rfl) (hl:Nat.blt d c.n=true:=by rfl) (L:rem.filter (gx ops rem)=[i]:=by decide +kernel) (G:rem.Nodup:=by decide):Any ae c S ops k (n+1) rem R H st :=
 Any.one ho L hw G rfl (Ox.cD J w M j he s (by rw [hd]; exact hl) (F.mono λ v R' H' K=>⟨_,.put hd,h v R' H' K⟩))
theorem Any.on(i:Nat){S:Nat→ai}{ops:Array Oper}{n:Nat}{rem:List Nat}(ho:ops[i]? = some o)(hw:ca ops st o=some true)
  (h:hK ae c o R H st λ R' H' st'=>aK R R'∧(∀ p∈S i,p∈H→p∈H')∧Any ae c S ops k n (rem.erase i) R' H' st') (f:rem.filter (gx ops rem)=[i]:=by decide +kernel) (b:rem.Nodup:=by decide):Any ae c S ops k (n+1) rem R H st:=Any.one ho f hw b rfl h
theorem U.ld{ops:Array Oper}{i d:Nat}{rest:List Nat}{x:Operand}{t:TypeId}{b off:Nat}{v:Value}(s:dy P t)(f:Cell R H ⟨b,off,none⟩ v)(h:U ae c R H ((d,v)::st) (.inRegion ops rest::k))
  (ho:ops[i]? = some o:=by rfl) (hw:ca ops st o=some true:=by rfl) (j:(c.kind == CallKind.early)=false:=by rfl) (p:o.op = .load t x:=by rfl) (w:aY st x=some (.pointer (some ⟨b,off,none⟩)):=by rfl) (hd:o.dst=some d:=by rfl) (hl:Nat.blt d c.n=true:=by rfl):U ae c R H st (.inRegion ops (i::rest)::k) :=
 U.e2 ho hw j (Ox.iA p w s f (by rw [hd]; exact hl) (.put hd) h)
theorem U.kn(t:Nat){x b:Bool}{todo:List Item}(hb:x=b)(h:U ae c R H ((t,.bool b)::st) todo)(f:st.lookup t=some (.bool x):=by rfl):U ae c R H st todo:=U.known f hb h
theorem U.s{ops:Array Oper}{i:Nat}{rest:List Nat}(ho:ops[i]? = some o)(hw:ca ops st o=some true)(h:aQ P B c o R H st λ R' H' st'=>U ae c R' H' st' (.inRegion ops rest::k))(b:(c.kind == CallKind.early)=false:=by rfl):U ae c R H st (.inRegion ops (i::rest)::k):=U.e2 ho hw b h
end
abbrev aC:List Nat:=[0]
abbrev aD:List Nat:=[0,1]
abbrev aX:List Nat:=[0,1,2]
abbrev bp:List Nat:=[0,1,2,3]
abbrev bI:List Nat:=[0,1,2,3,4]
abbrev cZ:List Nat:=[0,1,2,3,4,5]
abbrev cQ:List Nat:=[0,1,2,3,4,5,6]
abbrev dx:List Nat:=[0,1,2,3,4,5,6,7]
abbrev eF:List Nat:=[0,1,2,3,4,5,6,7,8]
abbrev fS:List Nat:=[0,1,2,3,4,5,6,7,8,9]
abbrev jo:List Nat:=[0,1,2,3,4,5,6,7,8,9,10]
abbrev nL:List Nat:=[0,1,2,3,4,5,6,7,8,9,10,11]
abbrev zD:List Nat:=[0,1,2,3,4,5,6,7,8,9,10,11,12]
abbrev lH:List Nat:=[0,1,2,3,4,5,6,7,8,9,10,11,12,13]
abbrev nM:List Nat:=[0,1,2,3,4,5,6,7,8,9,10,11,12,13,14]
abbrev qQ:List Nat:=[0,1,2,3,4,5,6,7,8,9,10,11,12,13,14,15]
abbrev RP:List Nat:=[0,1,2,3,4,5,6,7,8,9,10,11,12,13,14,15,16]
abbrev zE:List Nat:=[0,1,2,3,4,5,6,7,8,9,10,11,12,13,14,15,16,17]
abbrev RQ:List Nat:=[0,1,2,3,4,5,6,7,8,9,10,11,12,13,14,15,16,17,18]
abbrev RR:List Nat:=[0,1,2,3,4,5,6,7,8,9,10,11,12,13,14,15,16,17,18,19]
abbrev RS:List Nat:=[0,1,2,3,4,5,6,7,8,9,10,11,12,13,14,15,16,17,18,19,20,21,22,23]
abbrev RU:List Nat:=[0,1,2,3,4,5,6,7,8,9,10,11,12,13,14,15,16,17,18,19,20,21,22,23,24,25]
abbrev FD:List Nat:=[0,1,2,3,4,5,6,7,8,9,10,11,12,13,14,15,16,17,18,19,20,21,22,23,24,25,26]
abbrev RV:List Nat:=[0,1,2,3,4,5,6,7,8,9,10,11,12,13,14,15,16,17,18,19,20,21,22,23,24,25,26,27]
abbrev RX:List Nat:=[0,1,2,3,4,5,6,7,8,9,10,11,12,13,14,15,16,17,18,19,20,21,22,23,24,25,26,27,28]
abbrev RY:List Nat:=[0,1,2,3,4,5,6,7,8,9,10,11,12,13,14,15,16,17,18,19,20,21,22,23,24,25,26,27,28,29,30,31]
abbrev RZ:List Nat:=[0,1,2,3,4,5,6,7,8,9,10,11,12,13,14,15,16,17,18,19,20,21,22,23,24,25,26,27,28,29,30,31,32,33]
abbrev R0:List Nat:=[0,1,2,3,4,5,6,7,8,9,10,11,12,13,14,15,16,17,18,19,20,21,22,23,24,25,26,27,28,29,30,31,32,33,34,35,36,37]
abbrev R3:List Nat:=[0,1,2,3,4,5,6,7,8,9,10,11,12,13,14,15,16,17,18,19,20,21,22,23,24,25,26,27,28,29,30,31,32,33,34,35,36,37,38,39,40,41]
abbrev FE:List Nat:=[0,1,2,3,4,5,6,7,8,9,10,11,12,13,14,15,16,17,18,19,20,21,22,23,24,25,26,27,28,29,30,31,32,33,34,35,36,37,38,39,40,41,42]
abbrev R4:List Nat:=[0,1,2,3,4,5,6,7,8,9,10,11,12,13,14,15,16,17,18,19,20,21,22,23,24,25,26,27,28,29,30,31,32,33,34,35,36,37,38,39,40,41,42,43,44]
abbrev R5:List Nat:=[0,1,2,3,4,5,6,7,8,9,10,11,12,13,14,15,16,17,18,19,20,21,22,23,24,25,26,27,28,29,30,31,32,33,34,35,36,37,38,39,40,41,42,43,44,45,46,47,48,49,50,51]
abbrev R6:List Nat:=[0,1,2,3,4,5,6,7,8,9,10,11,12,13,14,15,16,17,18,19,20,21,22,23,24,25,26,27,28,29,30,31,32,33,34,35,36,37,38,39,40,41,42,43,44,45,46,47,48,49,50,51,52,53,54,55,56,57,58,59,60,61,62,63,64,65,66,67]
section
variable {α:Type} {a tM xi A0 H4 T2 T3 T4 T5 x:α} {l l₁ ks:List α}
theorem so(h:List.Sublist l₁ ks):List.Sublist l₁ (a::ks):=h.cons a
theorem sk(h:List.Sublist l₁ ks):List.Sublist (a::l₁) (a::ks):=List.Sublist.cons_cons a h
theorem sr:List.Sublist l l:=.refl _
theorem sn:List.Sublist [] l:=List.nil_sublist _
theorem su(h:List.Sublist l₁ ks):∀ p∈l₁,p∈ks:=λ _ b=>h.subset b
theorem pp:∀ p∈l,p∈l:=λ _ h=>h
theorem z0:x∈x::l:=.head _
theorem z1:x∈a::x::l:=.tail _ z0
theorem z2:x∈a::tM::x::l:=.tail _ z1
theorem z3:x∈a::tM::xi::x::l:=.tail _ z2
theorem z4:x∈a::tM::xi::A0::x::l:=.tail _ z3
theorem z5:x∈a::tM::xi::A0::H4::x::l:=.tail _ z4
end
section
variable {P:Program} {B:Base} {main:Bool} {ae:Jd P B main} {c:Ctx} {R:aA} {H:ai} {st st':St} {o:Oper} {k:List Item}
theorem sq{x y:Code}(h:U ae c R H st (.code x :: .code y::k)):U ae c R H st (.code (.seq x y)::k):=U.seq h
theorem er{ops:Array Oper}(h:U ae c R H st k):U ae c R H st (.inRegion ops []::k):=U.aP h
theorem es{ops:Array Oper}{x y:Code}(h:U ae c R H st (.code x :: .code y::k)):U ae c R H st (.inRegion ops [] :: .code (.seq x y)::k):=U.aP (U.seq h)
theorem sg(is:List Nat){id:Nat}{ops:Array Oper}{y:Code}(h:U ae c R H st (.inRegion ops is :: .code y::k))(f:ops.size=is.length:=by rfl)(b:List.range is.length=is:=by rfl):U ae c R H st (.code (.seq (.region id ops false) y)::k):=U.seq (U.rg is h f b)
theorem nx(is:List Nat){id:Nat}{os ops:Array Oper}{y:Code}(h:U ae c R H st (.inRegion ops is :: .code y::k))(f:ops.size=is.length:=by rfl)(b:List.range is.length=is:=by rfl):U ae c R H st (.inRegion os [] :: .code (.seq (.region id ops false) y)::k):=U.aP (sg is h f b)
theorem sp(h:U ae c R H st k):U ae c R H st (.code .skip::k):=U.skip h
theorem vs[gC P](m:Nat){ops:Array Oper}{is b:List Nat}(f:U ae c R H st' (.inRegion ops b::k))(h:nQ (gC.off P) ops c.n (is.take m) st=some st':=by rfl)(p:is.drop m=b:=by rfl)(j:(c.kind == CallKind.early)=false:=by rfl):U ae c R H st (.inRegion ops is::k):=U.vs m h p f j
theorem ld(j:Nat){ops:Array Oper}{i d:Nat}{rest:List Nat}{x:Operand}{t e:TypeId}{b:Nat}{f:Nat × Nat}{L:bn}{v:Value}(F:dy P t)(hm:(b,Obj.cells L.toArray e f)∈H)(h:U ae c R H ((d,v)::st) (.inRegion ops rest::k))(p:L[j]? = some v:=by rfl)
  (ho:ops[i]? = some o:=by rfl) (hw:ca ops st o=some true:=by rfl) (s:(c.kind == CallKind.early)=false:=by rfl) (w:o.op = .load t x:=by rfl) (G:aY st x=some (.pointer (some ⟨b,0+j,none⟩)):=by rfl) (hd:o.dst=some d:=by rfl) (hl:Nat.blt d c.n=true:=by rfl):U ae c R H st (.inRegion ops (i::rest)::k) :=
 U.ld F ((aI.box hm).one p) h ho hw s w G hd hl
theorem lN(vs:bn)(j n:Nat){ops:Array Oper}{i d:Nat}{rest:List Nat}{x:Operand}{t e:TypeId}{b:Nat}{f:Nat × Nat}{L:bn}{m:Nat}(G:eU P t m)(hm:(b,Obj.cells L.toArray e f)∈H)(h:U ae c R H ((d,.agg vs.toArray)::st) (.inRegion ops rest::k))(J:(L.drop j).take n=vs:=by rfl)
  (ho:ops[i]? = some o:=by rfl) (hw:ca ops st o=some true:=by rfl) (p:(c.kind == CallKind.early)=false:=by rfl) (F:o.op = .load t x:=by rfl) (K:aY st x=some (.pointer (some ⟨b,0+j,none⟩)):=by rfl) (w:vs.length=m:=by rfl) (hd:o.dst=some d:=by rfl) (hl:Nat.blt d c.n=true:=by rfl):U ae c R H st (.inRegion ops (i::rest)::k) :=
 U.s ho hw (Ox.bH F K G w ((aI.box hm).part J) (by rw [hd]; exact hl) (.put hd) h) p
theorem bx{ops:Array Oper}{i d:Nat}{rest:List Nat}{x:Operand}{t:TypeId}{vs:aU}(h:∀ b,U ae c R ((b,.cells vs t)::H) ((d,.pointer (some ⟨b,0,none⟩))::st) (.inRegion ops rest::k))
  (ho:ops[i]? = some o:=by rfl) (hw:ca ops st o=some true:=by rfl) (f:(c.kind == CallKind.early)=false:=by rfl) (j:o.op = .box t x:=by rfl) (p:aY st x=some (.agg vs):=by rfl) (hd:o.dst=some d:=by rfl) (hl:Nat.blt d c.n=true:=by rfl):U ae c R H st (.inRegion ops (i::rest)::k) :=
 U.s ho hw (Ox.AZ j p (by rw [hd]; exact hl) λ b _ _=>⟨_,.put hd,h b⟩) f
theorem sc{α:Type}{t:Bool}{a b:Option α}{r:α}{x:Operand}{th el:Code}(f:ab t a b=some r)(h1:t=true→a=some r→U ae c R H st (.code th::k))(h2:t=false→b=some r→U ae c R H st (.code el::k))(j:aY st x=some (.bool t):=by rfl):U ae c R H st (.code (.cond x th el)::k) :=
 a4 f (λ h f=>U.dF j h (h1 h f)) (λ h f=>U.cU j h (h2 h f))
theorem ls{α:Type}{K:bY α}{n:Nat}{ops:Array Oper}{i d:Nat}{rest:List Nat}{x:Operand}{t e:TypeId}{v:Value}{xs:List α}(hl:aa K n R v xs)(p:P.underlying t=some (.slice e))(h:U ae c R H ((d,.int .i64 (xs.length:Int))::st) (.inRegion ops rest::k))
  (ho:ops[i]? = some o:=by rfl) (hw:ca ops st o=some true:=by rfl) (b:(c.kind == CallKind.early)=false:=by rfl) (j:o.op = .call ⟨.builtin .len,#[x],#[t]⟩:=by rfl) (w:aY st x=some v:=by rfl) (hd:o.dst=some d:=by rfl) (f:Nat.blt d c.n=true:=by rfl):U ae c R H st (.inRegion ops (i::rest)::k) :=
 U.s ho hw (Ox.ht j w hl p (by rw [hd]; exact f) (.put hd) h) b
theorem lr{α:Type}{K:bY α}{n:Nat}{ops:Array Oper}{i d:Nat}{rest:List Nat}{x:Operand}{t e:TypeId}{v:Value}{xs:List α}{b:ai}(hl:cr K n R b v xs)(w:P.underlying t=some (.slice e))(h:U ae c R H ((d,.int .i64 (xs.length:Int))::st) (.inRegion ops rest::k))
  (ho:ops[i]? = some o:=by rfl) (hw:ca ops st o=some true:=by rfl) (f:(c.kind == CallKind.early)=false:=by rfl) (p:o.op = .call ⟨.builtin .len,#[x],#[t]⟩:=by rfl) (F:aY st x=some v:=by rfl) (hd:o.dst=some d:=by rfl) (j:Nat.blt d c.n=true:=by rfl):U ae c R H st (.inRegion ops (i::rest)::k) :=
 U.s ho hw (Ox.r6 p F hl w (by rw [hd]; exact j) (.put hd) h) f
theorem rt{fr:Frame}{cs:List Frame}{f:FuncId}{n:Nat}{fn:Func}{vs:bn}{H':ai}(b:P.funcs[f]? = some fn)(p:gR P R H st fn.results.toList vs)(s:List.Sublist H' H)(j:ae.J R H' (aS (fr.finish (eE vs)) cs)):U ae ⟨f,.normal,none,n,[],fr::cs⟩ R H st (.code .ret::k) :=
 U.pq b p (J.drop s j)
theorem ts(i:Nat){ops:Array Oper}{n d:Nat}{rem:List Nat}{S:Nat→ai}{v:Value}{N:ai}(D:List Nat)(ho:ops[i]? = some o)(f:∀ j∈rem,j≠i→j ∉ D→∀ p∈N,p∈S j)(b:∀ p∈N,p∈H)
  (w:∀ R' H',aK R R'→(∀ p∈N,p∈H')→aQ P B c o R' H' st λ R1 H1 J=>R1=R'∧H1=H'∧J=[(d,v)]) (h:Any ae c S ops k n (rem.erase i) R H ((d,v)::st))
  (s:o.dst=some d:=by rfl) (hw:ca ops st o=some true:=by rfl) (G:hY ops rem i D=true:=by decide +kernel) (F:rem.Nodup:=by decide):Any ae c S ops k (n+1) rem R H st :=
 Any.ps D ho s hw G f b w (aB.refl _) F rfl h
theorem tl(i j:Nat){ops:Array Oper}{n d:Nat}{rem:List Nat}{x:Operand}{t e:TypeId}{b:Nat}{p:Nat × Nat}{L:bn}{v:Value}(J:dy P t)(hm:(b,Obj.cells L.toArray e p)∈H)(h:Any ae c (λ _=>H) ops k n (rem.erase i) R H ((d,v)::st))(w:L[j]? = some v:=by rfl)
  (ho:ops[i]? = some o:=by rfl) (G:o.op = .load t x:=by rfl) (M:aY st x=some (.pointer (some ⟨b,0+j,none⟩)):=by rfl) (f:o.dst=some d:=by rfl) (hl:Nat.blt d c.n=true:=by rfl) (hw:ca ops st o=some true:=by rfl) (K:hY ops rem i (rK ops rem i)=true:=by decide +kernel) (F:rem.Nodup:=by decide):Any ae c (λ _=>H) ops k (n+1) rem R H st :=
 Any.tk i ho pp (λ _ _ _ s=>Ox.iA G M J ((aI.box (s _ hm)).one w) (by rw [f]; exact hl) (.one f) ⟨rfl,rfl,rfl⟩) h f hw K F
theorem tN(i:Nat)(vs:bn)(j m:Nat){ops:Array Oper}{n d:Nat}{rem:List Nat}{x:Operand}{t e:TypeId}{b:Nat}{p:Nat × Nat}{L:bn}{q:Nat}(J:eU P t q)(hm:(b,Obj.cells L.toArray e p)∈H)(h:Any ae c (λ _=>H) ops k n (rem.erase i) R H ((d,.agg vs.toArray)::st))(M:(L.drop j).take m=vs:=by rfl)
  (ho:ops[i]? = some o:=by rfl) (F:o.op = .load t x:=by rfl) (Q:aY st x=some (.pointer (some ⟨b,0+j,none⟩)):=by rfl) (G:vs.length=q:=by rfl) (f:o.dst=some d:=by rfl) (hl:Nat.blt d c.n=true:=by rfl) (hw:ca ops st o=some true:=by rfl) (K:hY ops rem i (rK ops rem i)=true:=by decide +kernel) (w:rem.Nodup:=by decide):Any ae c (λ _=>H) ops k (n+1) rem R H st :=
 Any.tk i ho pp (λ _ _ _ s=>Ox.bH F Q J G ((aI.box (s _ hm)).part M) (by rw [f]; exact hl) (.one f) ⟨rfl,rfl,rfl⟩) h f hw K w
theorem tw(i j:Nat){S:Nat→ai}{ops:Array Oper}{n:Nat}{rem:List Nat}{a b:Oper}(h1:hK ae c a R H st λ R' H' st'=>aK R R'∧(∀ p∈S i,p∈H→p∈H')∧Any ae c S ops k n (rem.erase i) R' H' st')
  (h2:hK ae c b R H st λ R' H' st'=>aK R R'∧(∀ p∈S j,p∈H→p∈H')∧Any ae c S ops k n (rem.erase j) R' H' st') (f:ops[i]? = some a:=by rfl) (hb:ops[j]? = some b:=by rfl) (w:rem.filter (gx ops rem)=[i,j]:=by decide +kernel) (F:ca ops st a=some true:=by rfl) (G:ca ops st b=some true:=by rfl) (s:rem.Nodup:=by decide):Any ae c S ops k (n+1) rem R H st :=
 Any.Tg f hb w F G s rfl rfl h1 h2
theorem ka{H X:ai}:∀ p∈H,p∈X→p∈H:=λ _ h _=>h
theorem kp{R:aA}{H X:ai}{C:Prop}(h:C):aK R R∧(∀ p∈H,p∈X→p∈H)∧C:=⟨aK.refl _,ka,h⟩
theorem ku{H H' X:ai}(h:List.Sublist H H'):∀ p∈H,p∈X→p∈H':=λ _ b _=>h.subset b
theorem rr{R:aA}:aK R R:=aK.refl _
end
abbrev CZ:bY Int:=CI .i64
def j3(v:Value)(lo k:Nat):Value:=match v with | .slice A n cap=>.slice (if cap=lo then A else A.map (·.add (lo * k))) (n - lo) (cap - lo) | v=>v
def iU(xs:ah)(lo:Nat):ah:=xs.take lo++List.replicate (xs.length - lo) 0
theorem Ii{α:Type}{xs ys:List α}{lo hi:Int}(h:fP xs lo hi=some ys):lo.toNat≤xs.length:=by
 obtain ⟨h1,h2,h3,_⟩:=rG h
 omega
section
variable {P:Program} {B:Base} {main:Bool} {ae:Jd P B main} {c:Ctx} {R:aA} {H H':ai} {st st':St} {o:Oper} {C:aA→ai→St→Prop}
theorem a7.view{α:Type}{K:bY α}{k e:Nat}{v:Value}{xs:List α}{Hs:ai}{lo:Nat}(h:a7 K k e R v xs Hs)(L:∀ p∈Hs,p∈H):cr K k R H (j3 v lo k) (xs.drop lo):=by
 obtain ⟨A,cap,es,rfl,F,M,hm⟩:=h.rd L
 refine ⟨if cap=lo then A else A.map (·.add (lo * k)),cap - lo,es.drop (lo * k),by simp [j3],F.drop,by simp; omega,λ J=>?_⟩
 have G:lo < xs.length:=by
  apply Classical.byContradiction
  intro Q
  exact J (List.drop_eq_nil_of_le (by omega))
 obtain ⟨b,o',rfl,s⟩:=hm (by rintro rfl; simp at G)
 refine ⟨b,o'+lo * k,?_,λ j w f=>?_⟩
 ·rw [if_neg (by omega)]; simp [jy]
 ·rw [List.getElem?_drop] at f
  have:=s _ _ f
  simpa [Nat.add_assoc] using this
theorem a7.Gy{α:Type}{K:bY α}{k t e j:Nat}{v:Value}{xs ys:List α}{Hs:ai}{lo:Int}(h:a7 K k e R v xs Hs)(b:gk P t j k)(p:fP xs lo (xs.length:Int)=some ys):pA P t k v (xs.length:Int) lo (xs.length:Int) (j3 v lo.toNat k):=by
 obtain ⟨h1,h2,h3,_⟩:=rG p
 obtain ⟨A,cap,es,rfl,G,s,hm⟩:=h.rd (H:=Hs) (λ _ h=>h)
 intro L st x J hi F w hl f
 rw [cI] at f
 rw [w]
 unfold Instr.sliceAt
 refine aj.bt (aj.underlying b.1) ?_
 unfold Instr.slice
 refine aj.bt (aj.underlying b.1) (aj.bt (wH F hl f ⟨h1,h2,h3⟩ s) (aj.bt b.2 ?_))
 simp only [j3,cI]
 exact aj.bj _
theorem a7.front{α:Type}{K:bY α}{k t e G:Nat}{v:Value}{xs ys:List α}{Hs:ai}{hi:Int}(h:a7 K k e R v xs Hs)(p:gk P t G k)(U:fP xs 0 hi=some ys):∃ v',a7 K k e R v' ys Hs∧pA P t k v (xs.length:Int) 0 hi v':=by
 obtain ⟨h1,h2,h3,rfl⟩:=rG U
 have key:∀ A cap,v = .slice A xs.length cap→xs.length≤cap→pA P t k v (xs.length:Int) 0 hi (.slice (if cap=0 then A else A.map (·.add (0 * k))) (hi.toNat - 0) (cap - 0)):=by
  rintro A cap rfl V ac st x ab Z Y W hl s
  rw [cI] at s
  rw [W]
  unfold Instr.sliceAt
  refine aj.bt (aj.underlying p.1) ?_
  unfold Instr.slice
  exact aj.bt (aj.underlying p.1) (aj.bt (wH Y hl s ⟨h1,h2,h3⟩ V) (aj.bt p.2 (aj.bj _)))
 rcases h with ⟨A,rfl,rfl,rfl⟩ | ⟨b,cap,cs,es,rfl,rfl,J,L,M,Q⟩
 ·have:=key A 0 rfl (cq _)
  have T:hi.toNat=0:=by simp at h3; omega
  rw [T] at this
  exact ⟨_,.inl ⟨A,rfl,by simp,rfl⟩,by simpa using this⟩
 ·refine ⟨_,?_,key _ cap rfl L⟩
  have F:((xs.take hi.toNat).drop (0:Int).toNat).length=hi.toNat:=by simp; omega
  refine .inr ⟨b,cap,cs,es.take (hi.toNat * k),?_,rfl,J,by rw [F]; omega,by simpa using M.take,λ j w f=>?_⟩
  ·rw [F]
   congr 1
   split <;> simp [jy]
  ·rw [List.getElem?_take] at f
   split at f
   ·exact Q _ _ f
   ·cases f
theorem Ox.Nx{α:Type}{K:bY α}{k b lo:Nat}{x:Operand}{t e:TypeId}{v:Value}{xs:List α}{Hs:ai}(f:o.op = .call ⟨.builtin .len,#[x],#[t]⟩)(s:aY st x=some (j3 v lo k))(hl:a7 K k b R v xs Hs)(p:P.underlying t=some (.slice e))
  (hd:bO o.dst c.n) (j:aB (bT o.dst (.int .i64 ((xs.drop lo).length:Int)) st) st') (h:C R H st'):aQ P B c o R H st C :=
 Ox.r6 f s (hl.view (H:=Hs) (λ _ h=>h)) p hd j h
theorem Ox.H8{t e lo:Nat}(G:ai→ai){x:Operand}{v:Value}{xs:ah}{Hs:ai}(T:o.op = .call ⟨.builtin .clear,#[x],#[t]⟩)(s:aY st x=some (j3 v lo 1))(ap:gk P t e 1)(aq:dU P e #[.int .i64 0])(ab:fX G)
  (J:a7 (CI .i64) 1 e R v xs Hs) (aw:lo≤xs.length) (hd:bO o.dst c.n) (hC:∀ p,a7 (CI .i64) 1 e R v (iU xs lo) p→∃ st',aB (bT o.dst (.tuple #[]) st) st'∧C R (G p) st'):aQ P B c o R (G Hs) st C:=by
 refine ⟨by rw [T]; rfl,hd,λ U av=>?_⟩
 simp only [execOp,T]
 refine aj.dc (a:=⟨.builtin .clear #[t] o.type (#[x].map λ | .const _=>true | _=>false),#[x].map U⟩) (aj.bj _) ?_
 simp only [invoke,builtin]
 have e1:(#[x].map U)=#[j3 v lo 1]:=by simp [av x _ s]
 rw [e1]
 have fin:∀ p,a7 (CI .i64) 1 e R v (iU xs lo) p→aL P B R (G p) (pure (Value.tuple #[])) λ a R' H'=>aL P B R' H' (pure (Next.value a)) λ nx R' H'=>∃ v,(nx = .value v∨(nx = .skip∧v=undef))∧∃ st',aB (bT o.dst v st) st'∧C R' H' st':=λ p h=>by
  obtain ⟨st',ao,Z⟩:=hC p h
  exact aL.cN (aL.cN ⟨_,.inl rfl,st',ao,Z⟩)
 refine aL.cE ?_
 unfold Builtin.clear_
 refine aj.dc (aj.underlying ap.1) ?_
 by_cases L:xs.length - lo=0
 ·have F:∃ A cap,j3 v lo 1 = .slice A 0 cap:=by
   obtain ⟨A,cap,es,rfl,_⟩:=J.rd (H:=Hs) (λ _ h=>h)
   exact ⟨_,_,by simp only [j3,L]; rfl⟩
  obtain ⟨A,cap,F⟩:=F
  rw [F]
  have ac:iU xs lo=xs:=by
   unfold iU
   rw [L,List.replicate_zero,List.append_nil,List.take_of_length_le (by omega)]
  rw [ac] at fin
  cases A with
  | none=>exact aL.cE (aL.cN (fin Hs J))
  | some a=>exact aL.cE (aL.cN (fin Hs J))
 ·rcases J with ⟨A,rfl,rfl,rfl⟩ | ⟨b,cap,cs,es,rfl,rfl,V,W,M,Y⟩
  ·simp at L
  ·have F:j3 (.slice (some ⟨b,0,none⟩) xs.length cap) lo 1 = .slice (some ⟨b,lo,none⟩) (xs.length - lo) (cap - lo):=by
    simp only [j3]
    rw [if_neg (by omega)]
    simp [jy]
   rw [F]
   obtain ⟨m,hm⟩:∃ m,xs.length - lo=m+1:=⟨xs.length - lo - 1,by omega⟩
   rw [hm]
   dsimp only
   obtain ⟨z0,ar,au⟩:=aq
   refine aj.dc ar (aL.cE ?_)
   have an:(Builtin.zeroCells z0.cells (m+1)).toList=List.replicate (m+1) (Value.int .i64 0):=by
    rw [au]
    apply List.ext_getElem?
    intro j
    simp only [Builtin.zeroCells]
    by_cases f:j < m+1
    ·simp [f,Nat.mod_one]
    ·simp [f]
   rw [an]
   have ax:lo+(m+1)≤cs.size:=by omega
   refine aL.given λ am=>aL.wo _ cs lo 0 (G [(b,.cells cs e (0,0))]) (G [(b,.cells (dL cs lo (List.replicate (m+1) (Value.int .i64 0))) e (0,0))]) (λ u hu=>by rw [List.eq_of_mem_replicate hu]; rfl) (by simp; omega) (by simpa using fX.set ab) am ?_
   have Q:(iU xs lo).length=xs.length:=by simp [iU]; omega
   refine fin _ (.inr ⟨b,cap,dL cs lo (List.replicate (m+1) (Value.int .i64 0)),es.take lo++List.replicate (m+1) (Value.int .i64 0),by rw [Q],rfl,by rw [s7]; exact V,by rw [Q]; exact W,?_,λ j w f=>?_⟩)
   ·have h1:=M.take (n:=lo)
    rw [Nat.mul_one] at h1
    unfold iU
    rw [hm]
    refine h1.append ?_
    refine ⟨by simp,λ i x s=>?_⟩
    rw [List.getElem?_replicate] at s
    split at s
    ·rename_i hi
     cases s
     refine ⟨[.int .i64 0],rfl,rfl,λ j w f=>?_⟩
     have ag:=(eL.1 f).1
     have af:j=0:=by simp at ag; omega
     subst af
     rw [Nat.mul_one,List.getElem?_replicate,if_pos (by omega)]
     exact f
    ·cases s
   ·have ad:=M.len
    rw [Nat.mul_one] at ad
    rw [nJ _ _ _ _ (by simp; omega)]
    rcases Nat.lt_or_ge j lo with K | K
    ·rw [jw (by simp; omega),List.getElem?_take,if_pos K] at f
     rw [if_neg (by omega)]
     exact Y _ _ f
    ·rw [g1 (by simp; omega)] at f
     have al:(es.take lo).length=lo:=by simp; omega
     rw [al] at f
     have ak:=(eL.1 f).1
     rw [if_pos ⟨K,by simp at ak ⊢; omega⟩]
     exact f
end
def ag{α:Type}(a b:Option α):Prop:=∀ r,a=some r→b=some r
theorem ag.br{α:Type}(a:Option α):ag a a:=λ _ h=>h
theorem ag.none{α:Type}{b:Option α}:ag none b:=λ _ h=>by cases h
theorem ag.bu{α β:Type}{a j:Option α}{f p:α→Option β}(h:ag a j)(s:∀ x,ag (f x) (p x)):ag (a.bind f) (j.bind p):=by
 intro r b
 obtain ⟨x,w,b⟩:=af b
 rw [h x w]
 exact s x r b
theorem ag.ab{α:Type}{t:Bool}{a f b j:Option α}(h:ag a f)(p:ag b j):ag (ab t a b) (ab t f j):=by
 cases t
 ·exact p
 ·exact h
def hP{S O:Type}(body:S→Option (S ⊕ O))(s:S):Option O:=gI body 200 s
theorem ag.gI{S O:Type}{body f:S→Option (S ⊕ O)}(h:∀ s,ag (body s) (f s)):∀ (n:Nat) (s:S),ag (Go.Lg.gI body n s) (bb f s)
 | 0,_=>λ _ b=>by cases b
 | n+1,s=>λ r b=>by
  simp only [Go.Lg.gI] at b
  cases hb:body s with
  | none=>rw [hb] at b; cases b
  | some x =>
   rw [hb] at b
   have j:=h s x hb
   cases x with
   | inl s'=>rw [kq j]; exact ag.gI h n s' r b
   | inr o=>cases b; exact gf j
theorem ag.dD{S O:Type}{body b:S→Option (S ⊕ O)}{s:S}(h:∀ s,ag (body s) (b s)):ag (hP body s) (bb b s):=ag.gI h 200 s
theorem ag.e3{α β j:Type}{f b:α→Option j}{g g':β→Option j}(h:∀ x,ag (f x) (b x))(p:∀ x,ag (g x) (g' x))(x:α ⊕ β):ag (Sum.elim f g x) (Sum.elim b g' x):=by
 cases x
 ·exact h _
 ·exact p _
theorem ag.dM{α S O:Type}{f p:α→S→Option (S ⊕ O)}(h:∀ x s,ag (f x s) (p x s))(x:α)(s:S ⊕ O):ag (Go.Lg.dM f x s) (Go.Lg.dM p x s):=by
 intro r b
 cases s with
 | inr s=>cases b
 | inl s =>
  simp only [Go.Lg.dM] at b ⊢
  cases j:f x s with
  | none=>rw [j] at b; cases b
  | some z=>rw [j] at b; rw [h x s z j]; exact b
theorem ag.mapM{α β:Type}{f s:α→Option β}(h:∀ x,ag (f x) (s x)):∀ l:List α,ag (l.mapM f) (l.mapM s)
 | []=>ag.br _
 | a::l=>by
  intro r j
  rw [List.mapM_cons] at j ⊢
  cases p:f a with
  | none=>rw [p] at j; simp at j
  | some b =>
   cases hl:l.mapM f with
   | none=>rw [p,hl] at j; simp at j
   | some bs =>
    rw [p,hl] at j
    rw [h a b p,ag.mapM h l bs hl]
    exact j
abbrev av:Value:=.slice none 0 0
theorem bD{α β:Sort _}{a:α}{b:β}:a=a∧b=b:=⟨rfl,rfl⟩
theorem aH{α β f:Sort _}{a:α}{b:β}{d:f}:a=a∧b=b∧d=d:=⟨rfl,rfl,rfl⟩
theorem ao{st st':St}(h:bN st st'):aB st st':=bN.sub h
theorem gn{b:Option Value}:b=b∧True:=⟨rfl,trivial⟩
theorem cJ{b a1:Option Value}:b=b∧a1=a1∧True:=⟨rfl,rfl,trivial⟩
theorem cn{b a1 f:Option Value}:b=b∧a1=a1∧f=f∧True:=⟨rfl,rfl,rfl,trivial⟩
theorem bJ{b a1 f j:Option Value}:b=b∧a1=a1∧f=f∧j=j∧True:=⟨rfl,rfl,rfl,rfl,trivial⟩
theorem cL{b a1 f j p:Option Value}:b=b∧a1=a1∧f=f∧j=j∧p=p∧True:=⟨rfl,rfl,rfl,rfl,rfl,trivial⟩
theorem ea{b a1 f j p s:Option Value}:b=b∧a1=a1∧f=f∧j=j∧p=p∧s=s∧True:=⟨rfl,rfl,rfl,rfl,rfl,rfl,trivial⟩
theorem ej{b a1 f j p s w:Option Value}:b=b∧a1=a1∧f=f∧j=j∧p=p∧s=s∧w=w∧True:=⟨rfl,rfl,rfl,rfl,rfl,rfl,rfl,trivial⟩
theorem iH{b a1 f j p s w F:Option Value}:b=b∧a1=a1∧f=f∧j=j∧p=p∧s=s∧w=w∧F=F∧True:=⟨rfl,rfl,rfl,rfl,rfl,rfl,rfl,rfl,trivial⟩
theorem gw{b a1 f j p s w F G:Option Value}:b=b∧a1=a1∧f=f∧j=j∧p=p∧s=s∧w=w∧F=F∧G=G∧True:=⟨rfl,rfl,rfl,rfl,rfl,rfl,rfl,rfl,rfl,trivial⟩
theorem qI{b a1 f j p s w F G J:Option Value}:b=b∧a1=a1∧f=f∧j=j∧p=p∧s=s∧w=w∧F=F∧G=G∧J=J∧True:=⟨rfl,rfl,rfl,rfl,rfl,rfl,rfl,rfl,rfl,rfl,trivial⟩
theorem vw{b a1 j p s w F G J K f:Option Value}:b=b∧a1=a1∧j=j∧p=p∧s=s∧w=w∧F=F∧G=G∧J=J∧K=K∧f=f∧True:=⟨rfl,rfl,rfl,rfl,rfl,rfl,rfl,rfl,rfl,rfl,rfl,trivial⟩
theorem E5{b a1 p s w F G J K L f j:Option Value}:b=b∧a1=a1∧p=p∧s=s∧w=w∧F=F∧G=G∧J=J∧K=K∧L=L∧f=f∧j=j∧True:=⟨rfl,rfl,rfl,rfl,rfl,rfl,rfl,rfl,rfl,rfl,rfl,rfl,trivial⟩
theorem kK{b a1 w F G J K L M Q f j p s:Option Value}:b=b∧a1=a1∧w=w∧F=F∧G=G∧J=J∧K=K∧L=L∧M=M∧Q=Q∧f=f∧j=j∧p=p∧s=s∧True:=⟨rfl,rfl,rfl,rfl,rfl,rfl,rfl,rfl,rfl,rfl,rfl,rfl,rfl,rfl,trivial⟩
section
variable {P:Program} {B:Base} {main:Bool} {ae:Jd P B main} {c:Ctx} {R:aA} {H:ai} {st st':St} {o:Oper} {k:List Item} {ops:Array Oper} {i d:Nat} {rest:List Nat} {t e:TypeId}
theorem cb{x y:Operand}{v:Value}{kd:IntKind}{j:Int}{b n:Nat}(w:lL P t v j b n)(h:U ae c R H ((d,.pointer (some ⟨b,n,none⟩))::st) (.inRegion ops rest::k))(ho:ops[i]? = some o:=by rfl)(hw:ca ops st o=some true:=by rfl)(f:(c.kind == CallKind.early)=false:=by rfl)
  (p:o.op = .indexAddr t x y:=by rfl) (F:aY st x=some v:=by rfl) (G:aY st y=some (.int kd j):=by rfl) (hd:o.dst=some d:=by rfl) (hl:Nat.blt d c.n=true:=by rfl):U ae c R H st (.inRegion ops (i::rest)::k) :=
 U.s ho hw (Ox.uP p F G w (by rw [hd]; exact hl) (.put hd) h) f
theorem b4(cs:aU)(p:dU P t cs)(h:∀ b,U ae c R ((b,.cells cs t)::H) ((d,.pointer (some ⟨b,0,none⟩))::st) (.inRegion ops rest::k))(ho:ops[i]? = some o:=by rfl)(hw:ca ops st o=some true:=by rfl)(f:(c.kind == CallKind.early)=false:=by rfl)
  (j:o.op = .alloc t:=by rfl) (hd:o.dst=some d:=by rfl) (hl:Nat.blt d c.n=true:=by rfl):U ae c R H st (.inRegion ops (i::rest)::k) :=
 U.s ho hw (Ox.alloc j p (by rw [hd]; exact hl) λ b _ _=>⟨_,.put hd,h b⟩) f
theorem cF(cells:aU){parts:Array (Nat × Operand)}{b:List (Nat × Value)}{places:List (Nat × Nat)}{z:aU}(F:hn P t places z)(h:U ae c R H ((d,.agg cells)::st) (.inRegion ops rest::k))(ho:ops[i]? = some o:=by rfl)(hw:ca ops st o=some true:=by rfl)(j:(c.kind == CallKind.early)=false:=by rfl)
  (p:o.op = .build t parts:=by rfl) (w:nI st parts.toList=some b:=by rfl) (f:Instr.fill (places.toArray[·]?) z b=some cells:=by repeat first | refine gT rfl rfl rfl rfl ?_ | exact gr) (hd:o.dst=some d:=by rfl) (hl:Nat.blt d c.n=true:=by rfl):U ae c R H st (.inRegion ops (i::rest)::k) :=
 U.s ho hw (Ox.build p F w f (by rw [hd]; exact hl) (.put hd) h) j
theorem ev(cells:aU){n len:Nat}{parts:Array (Nat × Operand)}{f:List (Nat × Value)}{z base:aU}(J:ia P t e n z)(hb:(Array.range (len * n)).map (z[· % z.size]!)=base)(h:∀ b,U ae c R ((b,.cells cells e)::H) ((d,.slice (some ⟨b,0,none⟩) len len)::st) (.inRegion ops rest::k))
  (ho:ops[i]? = some o:=by rfl) (hw:ca ops st o=some true:=by rfl) (w:(c.kind == CallKind.early)=false:=by rfl) (F:o.op = .buildSlice t len parts:=by rfl) (G:nI st parts.toList=some f:=by rfl) (hlen:len * n≤16777216:=by decide) (p:Instr.fill (λ j=>some (j * n,n)) base f=some cells:=by repeat first | refine gT rfl rfl rfl rfl ?_ | exact gr) (hd:o.dst=some d:=by rfl) (hl:Nat.blt d c.n=true:=by rfl):U ae c R H st (.inRegion ops (i::rest)::k) :=
 U.s ho hw (Ox.buildSlice F J G hlen hb p (by rw [hd]; exact hl) λ b _ _=>⟨_,.put hd,h b⟩) w
theorem fQ(cs':aU){x y:Operand}{b off:Nat}{v:Value}{cs:aU}{H':ai}(F:dy P t)(w:dg H b (.cells cs e (0,0)) (.cells cs' e (0,0)) H')(h:U ae c R H' st (.inRegion ops rest::k))(ho:ops[i]? = some o:=by rfl)(hw:ca ops st o=some true:=by rfl)(j:(c.kind == CallKind.early)=false:=by rfl)
  (p:o.op = .store t x y:=by rfl) (J:aY st x=some (.pointer (some ⟨b,off,none⟩)):=by rfl) (K:aY st y=some v:=by rfl) (G:v.oneCell'=true:=by rfl) (hl:Nat.blt off cs.size=true:=by rfl) (f:cs.setIfInBounds off v=cs':=by rfl) (hd:o.dst=none:=by rfl):U ae c R H st (.inRegion ops (i::rest)::k) :=
 U.s ho hw (Ox.dR p J K F G w hl f hd (.refl _) h) j
theorem ck(cs':aU){x y:Operand}{b off n:Nat}{vs cs:aU}{H':ai}(G:eU P t n)(F:dg H b (.cells cs e (0,0)) (.cells cs' e (0,0)) H')(h:U ae c R H' st (.inRegion ops rest::k))(ho:ops[i]? = some o:=by rfl)(hw:ca ops st o=some true:=by rfl)(j:(c.kind == CallKind.early)=false:=by rfl)
  (w:o.op = .store t x y:=by rfl) (J:aY st x=some (.pointer (some ⟨b,off,none⟩)):=by rfl) (K:aY st y=some (.agg vs):=by rfl) (p:vs.size=n:=by rfl) (h1:∀ u∈vs.toList,u.oneCell'=true:=by repeat first | exact bE | refine ba rfl ?_ | refine ba (aa.one (by assumption)) ?_ | refine ba (cr.one (by assumption)) ?_ | refine ba (a7.one (by assumption)) ?_ | refine ba (L.one (by assumption)) ?_ | refine ba (M.one (by assumption)) ?_ | refine ba (fL.one (by assumption)) ?_) (hl:Nat.ble (off+n) cs.size=true:=by rfl) (f:dL cs off vs.toList=cs':=by rfl) (hd:o.dst=none:=by rfl):U ae c R H st (.inRegion ops (i::rest)::k) :=
 U.s ho hw (Ox.dn w J K G p h1 F hl f hd (.refl _) h) j
theorem nC{x:Operand}{u:TypeId}{kd F w:IntKind}{a:Int}(j:P.underlying t=some (.int w))(hu:P.underlying u=some (.int kd))(h:U ae c R H ((d,.int kd (kd.wrap a))::st) (.inRegion ops rest::k))(ho:ops[i]? = some o:=by rfl)(hw:ca ops st o=some true:=by rfl)(b:(c.kind == CallKind.early)=false:=by rfl)
  (f:o.op = .convert t u x:=by rfl) (p:aY st x=some (.int F a):=by rfl) (hd:o.dst=some d:=by rfl) (hl:Nat.blt d c.n=true:=by rfl):U ae c R H st (.inRegion ops (i::rest)::k) :=
 U.s ho hw (Ox.pK f p j hu (by rw [hd]; exact hl) (.put hd) h) b
end
abbrev pT(b:Nat):Value:=.pointer (some ⟨b,0,none⟩)
abbrev bW(l:aW):aU:=List.toArray ([]++(l.map Value.bool++[]))
abbrev f16:aW:=[false,false,false,false,false,false,false,false,false,false,false,false,false,false,false,false]
theorem au{α:Type}{a b:α}(h:some a=some b):b=a:=(eI h).symm
theorem vK{α:Type}{P:Program}{s:Sem α}{a:α}(h:∀ w,(s.run P w,s.events P w #[])=(.ok a w,#[])):aj P s a:=λ w=>⟨congrArg Prod.fst (h w),congrArg Prod.snd (h w)⟩
section
variable {A1:Type} {K1:bY A1} [CM K1] {k1:Nat} {v1:Value} {x1:List A1} {A2:Type} {K2:bY A2} [CM K2] {k2:Nat} {v2:Value} {x2:List A2} {A3:Type} {K3:bY A3} [CM K3] {k3:Nat} {v3:Value} {x3:List A3} {A4:Type} {K4:bY A4} [CM K4] {k4:Nat} {v4:Value} {x4:List A4} {A5:Type} {K5:bY A5} [CM K5] {k5:Nat} {v5:Value} {x5:List A5} {A6:Type} {K6:bY A6} [CM K6] {k6:Nat} {v6:Value} {x6:List A6} {A7:Type} {K7:bY A7} [CM K7] {k7:Nat} {v7:Value} {x7:List A7} {A8:Type} {K8:bY A8} [CM K8] {k8:Nat} {v8:Value} {x8:List A8} {A9:Type} {K9:bY A9} [CM K9] {k9:Nat} {v9:Value} {x9:List A9} {R R':aA}
theorem fs(h:aK R R')(a1:aa K1 k1 R v1 x1)(b:aa K2 k2 R v2 x2):aa K1 k1 R' v1 x1∧aa K2 k2 R' v2 x2:=⟨a1.mono h,b.mono h⟩
theorem qG(h:aK R R')(a1:aa K1 k1 R v1 x1)(b:aa K2 k2 R v2 x2)(f:aa K3 k3 R v3 x3):aa K1 k1 R' v1 x1∧aa K2 k2 R' v2 x2∧aa K3 k3 R' v3 x3:=⟨a1.mono h,b.mono h,f.mono h⟩
theorem jR(h:aK R R')(a1:aa K1 k1 R v1 x1)(b:aa K2 k2 R v2 x2)(f:aa K3 k3 R v3 x3)(j:aa K4 k4 R v4 x4):aa K1 k1 R' v1 x1∧aa K2 k2 R' v2 x2∧aa K3 k3 R' v3 x3∧aa K4 k4 R' v4 x4:=⟨a1.mono h,b.mono h,f.mono h,j.mono h⟩
theorem dm(h:aK R R')(a1:aa K1 k1 R v1 x1)(b:aa K2 k2 R v2 x2)(f:aa K3 k3 R v3 x3)(j:aa K4 k4 R v4 x4)(p:aa K5 k5 R v5 x5):aa K1 k1 R' v1 x1∧aa K2 k2 R' v2 x2∧aa K3 k3 R' v3 x3∧aa K4 k4 R' v4 x4∧aa K5 k5 R' v5 x5:=⟨a1.mono h,b.mono h,f.mono h,j.mono h,p.mono h⟩
theorem gm(h:aK R R')(a1:aa K1 k1 R v1 x1)(b:aa K2 k2 R v2 x2)(f:aa K3 k3 R v3 x3)(j:aa K4 k4 R v4 x4)(p:aa K5 k5 R v5 x5)(s:aa K6 k6 R v6 x6):aa K1 k1 R' v1 x1∧aa K2 k2 R' v2 x2∧aa K3 k3 R' v3 x3∧aa K4 k4 R' v4 x4∧aa K5 k5 R' v5 x5∧aa K6 k6 R' v6 x6:=⟨a1.mono h,b.mono h,f.mono h,j.mono h,p.mono h,s.mono h⟩
theorem E3(h:aK R R')(a1:aa K1 k1 R v1 x1)(b:aa K2 k2 R v2 x2)(f:aa K3 k3 R v3 x3)(j:aa K4 k4 R v4 x4)(p:aa K5 k5 R v5 x5)(s:aa K6 k6 R v6 x6)(w:aa K7 k7 R v7 x7):aa K1 k1 R' v1 x1∧aa K2 k2 R' v2 x2∧aa K3 k3 R' v3 x3∧aa K4 k4 R' v4 x4∧aa K5 k5 R' v5 x5∧aa K6 k6 R' v6 x6∧aa K7 k7 R' v7 x7:=⟨a1.mono h,b.mono h,f.mono h,j.mono h,p.mono h,s.mono h,w.mono h⟩
theorem dQ(h:aK R R')(a1:aa K1 k1 R v1 x1)(b:aa K2 k2 R v2 x2)(f:aa K3 k3 R v3 x3)(j:aa K4 k4 R v4 x4)(p:aa K5 k5 R v5 x5)(s:aa K6 k6 R v6 x6)(w:aa K7 k7 R v7 x7)(F:aa K8 k8 R v8 x8)(G:aa K9 k9 R v9 x9):aa K1 k1 R' v1 x1∧aa K2 k2 R' v2 x2∧aa K3 k3 R' v3 x3∧aa K4 k4 R' v4 x4∧aa K5 k5 R' v5 x5∧aa K6 k6 R' v6 x6∧aa K7 k7 R' v7 x7∧aa K8 k8 R' v8 x8∧aa K9 k9 R' v9 x9:=⟨a1.mono h,b.mono h,f.mono h,j.mono h,p.mono h,s.mono h,w.mono h,F.mono h,G.mono h⟩
end
section
variable {P:Program} {B:Base} {main:Bool} {ae:Jd P B main} {c:Ctx} {R:aA} {H:ai} {st st':St} {o:Oper} {k:List Item} {ops:Array Oper} {i d n:Nat} {rest rem:List Nat} {t e:TypeId}
theorem a2{f:FuncId}{fn:Func}{body:Code}{args:bn}{Post:Value→aA→ai→Prop}(b:P.funcs[f]? = some fn)(n:Nat)
  (h:∀ fr cs,(∀ v R' H',Post v R' H'→ae.J R' H' (aS (fr.finish v) cs))→U ae ⟨f,.normal,none,n,[],fr::cs⟩ R H (kh 0 args) [.code body]) (hb:fn.body=some body:=by rfl) (p:fn.ntmps=n:=by rfl) (j:Nat.ble args.length n=true:=by rfl):aO ae f args.toArray R H Post:=aO.ha b hb p j h
theorem kI{N:ai}{x y:Operand}{v:Value}{kd:IntKind}{j:Int}{b m:Nat}(s:lL P t v j b m)(f:o.op = .indexAddr t x y:=by rfl)(w:aY st x=some v:=by rfl)(F:aY st y=some (.int kd j):=by rfl)(hd:o.dst=some d:=by rfl)(hl:Nat.blt d c.n=true:=by rfl) :
  ∀ R' H',aK R R'→(∀ p∈N,p∈H')→aQ P B c o R' H' st λ R1 H1 G=>R1=R'∧H1=H'∧G=[(d,.pointer (some ⟨b,m,none⟩))] :=
 λ _ _ _ _=>Ox.uP f w F s (by rw [hd]; exact hl) (.one hd) ⟨rfl,rfl,rfl⟩
theorem kA{N N':ai}{x:Operand}{b q:Nat}{v:Value}{L:bn}(J:dy P t)(j:Nat)(w:aI R N' b q L)(hN:∀ p∈N',p∈N)(F:L[j]? = some v:=by rfl)(G:o.op = .load t x:=by rfl)(K:aY st x=some (.pointer (some ⟨b,q+j,none⟩)):=by rfl)(hd:o.dst=some d:=by rfl)(hl:Nat.blt d c.n=true:=by rfl) :
  ∀ R' H',aK R R'→(∀ p∈N,p∈H')→aQ P B c o R' H' st λ R1 H1 M=>R1=R'∧H1=H'∧M=[(d,v)] :=
 λ _ _ f s=>Ox.iA G K J (((w.le f).sub λ p h=>s p (hN p h)).one F) (by rw [hd]; exact hl) (.one hd) ⟨rfl,rfl,rfl⟩
theorem kU{N:ai}{x:Operand}{b q:Nat}{v:Value}{L:bn}(G:dy P t)(j:Nat)(s:aI R [] b q L)(w:L[j]? = some v:=by rfl)(F:o.op = .load t x:=by rfl)(J:aY st x=some (.pointer (some ⟨b,q+j,none⟩)):=by rfl)(hd:o.dst=some d:=by rfl)(hl:Nat.blt d c.n=true:=by rfl) :
  ∀ R' H',aK R R'→(∀ p∈N,p∈H')→aQ P B c o R' H' st λ R1 H1 K=>R1=R'∧H1=H'∧K=[(d,v)] :=
 λ _ _ f _=>Ox.iA F J G ((s.up f).one w) (by rw [hd]; exact hl) (.one hd) ⟨rfl,rfl,rfl⟩
theorem kX{N:ai}{x:Operand}{b:Nat}{v:Value}{L:bn}{f:Nat × Nat}(G:dy P t)(j:Nat)(hm:(b,Obj.cells L.toArray e f)∈N)(w:L[j]? = some v:=by rfl)(F:o.op = .load t x:=by rfl)(J:aY st x=some (.pointer (some ⟨b,0+j,none⟩)):=by rfl)(hd:o.dst=some d:=by rfl)(hl:Nat.blt d c.n=true:=by rfl) :
  ∀ R' H',aK R R'→(∀ p∈N,p∈H')→aQ P B c o R' H' st λ R1 H1 K=>R1=R'∧H1=H'∧K=[(d,v)] :=
 λ _ _ _ s=>Ox.iA F J G ((aI.box (s _ hm)).one w) (by rw [hd]; exact hl) (.one hd) ⟨rfl,rfl,rfl⟩
section
variable {N:ai} {m:Nat} {v:Value}
theorem tQ(i:Nat)(ho:ops[i]? = some o)(f:∀ R' H',aK R R'→(∀ p∈N,p∈H')→aQ P B c o R' H' st λ R1 H1 w=>R1=R'∧H1=H'∧w=[(d,v)])(h:Any ae c (λ _=>N) ops k m (rem.erase i) R N ((d,v)::st))
  (b:o.dst=some d:=by rfl) (hw:ca ops st o=some true:=by rfl) (s:hY ops rem i (rK ops rem i)=true:=by decide +kernel) (j:rem.Nodup:=by decide):Any ae c (λ _=>N) ops k (m+1) rem R N st:=Any.tk i ho pp f h b hw s j
end
theorem oW(i:Nat){S:Nat→ai}{m n b:Nat}{x y:Operand}{l:aW}{cs:aU}{H':ai}(J:eU P t n)(hl:l.length=n)(G:dg H b (.cells cs e (0,0)) (.cells (bW l) e (0,0)) H')(j:∀ p∈S i,p∈H→p∈H')(h:Any ae c S ops k m (rem.erase i) R H' st)(ho:ops[i]? = some o:=by rfl)(hw:ca ops st o=some true:=by rfl)
  (w:o.op = .store t x y:=by rfl) (K:aY st x=some (.pointer (some ⟨b,0,none⟩)):=by rfl) (L:aY st y=some (.agg (bW l)):=by rfl) (f:cs.size=n:=by simp) (hd:o.dst=none:=by rfl) (F:rem.filter (gx ops rem)=[i]:=by decide +kernel) (s:rem.Nodup:=by decide):Any ae c S ops k (m+1) rem R H st :=
 Any.on i ho hw (aQ.to (Ox.dn w K L J (by simp [hl]) (cG bE (cG (e0 λ _=>rfl) bE)) G (by simp [f]) (e9 (by simp [hl,f])) hd (.refl _) ⟨rr,j,h⟩)) F s
theorem oS(i:Nat)(cs':aU){S:Nat→ai}{m b off:Nat}{x y:Operand}{v:Value}{cs:aU}{H':ai}(J:dy P t)(G:dg H b (.cells cs e (0,0)) (.cells cs' e (0,0)) H')(f:∀ p∈S i,p∈H→p∈H')(h:Any ae c S ops k m (rem.erase i) R H' st)(ho:ops[i]? = some o:=by rfl)(hw:ca ops st o=some true:=by rfl)
  (w:o.op = .store t x y:=by rfl) (L:aY st x=some (.pointer (some ⟨b,off,none⟩)):=by rfl) (M:aY st y=some v:=by rfl) (K:v.oneCell'=true:=by rfl) (hl:Nat.blt off cs.size=true:=by rfl) (j:cs.setIfInBounds off v=cs':=by rfl) (hd:o.dst=none:=by rfl) (F:rem.filter (gx ops rem)=[i]:=by decide +kernel) (s:rem.Nodup:=by decide):Any ae c S ops k (m+1) rem R H st :=
 Any.on i ho hw (aQ.to (Ox.dR w L M J K G hl j hd (.refl _) ⟨rr,f,h⟩)) F s
theorem j9{α:Type}{K:bY α}{q cap b:Nat}{es:bn}{cs:aU}{f:Nat × Nat}{tl:ai}(x:α)(j:K R x es)(p:es.length=q:=by rfl)(he:es++[]=cs.toList:=by rfl):h8 K q R ((b,Obj.cells cs e f)::tl) (.slice (some ⟨b,0,none⟩) 1 cap) [x] :=
 h8.lit z0 (a6.le (a6.cons j p a6.nil) he) rfl
end
section
variable {P:Program} {t e n:Nat} {z:aU}
theorem vO(h:∀ w,((isAgg t).run P w,(isAgg t).events P w #[])=(.ok false w,#[]):=by intro _; kernel_rfl)(g:∀ w,((sizeOf t).run P w,(sizeOf t).events P w #[])=(.ok 1 w,#[]):=by intro _; kernel_rfl):dy P t:=⟨vK h,vK g⟩
theorem vA(h:∀ w,((isAgg t).run P w,(isAgg t).events P w #[])=(.ok true w,#[]):=by intro _; kernel_rfl)(g:∀ w,((sizeOf t).run P w,(sizeOf t).events P w #[])=(.ok n w,#[]):=by intro _; kernel_rfl):eU P t n:=⟨vK h,vK g⟩
theorem vZ(h:∀ w,((zeroValue t).run P w,(zeroValue t).events P w #[])=(.ok (.agg z) w,#[]):=by intro _; kernel_rfl):dU P t z:=⟨.agg z,vK h,rfl⟩
theorem vS(hu:P.underlying t=some (.slice e))(g:∀ w,((sizeOf e).run P w,(sizeOf e).events P w #[])=(.ok n w,#[]):=by intro _; kernel_rfl):gk P t e n:=⟨hu,vK g⟩
theorem vL(hu:P.underlying t=some (.slice e))(b:dU P e z:=by exact vZ)(g:∀ w,((sizeOf e).run P w,(sizeOf e).events P w #[])=(.ok n w,#[]):=by intro _; kernel_rfl)(h1:z.size=n:=by rfl)(h2:0 < n:=by decide):ia P t e n z:=⟨hu,vK g,b,h1,h2⟩
theorem vT{b:Array Field}{places:List (Nat × Nat)}(hu:P.underlying t=some (.struct b))(j:dU P t z:=by exact vZ)(g:∀ w,((b.mapM λ f=>do pure (f.offset,← sizeOf f.type):Sem _).run P w,(b.mapM λ f=>do pure (f.offset,← sizeOf f.type):Sem _).events P w #[])=(.ok places.toArray w,#[]):=by intro _; kernel_rfl):hn P t places z:=⟨j,_,hu,vK g⟩
theorem vE{f:FuncId}{fn:Func}(h:P.funcs[f]? = some fn)(a:(fn.name == "runtime.NumGoroutine")=false:=by decide +kernel)(b:fn.body.isNone=false:=by rfl):aV P f:=⟨⟨fn,h,a,b⟩⟩
end
section
variable {P:Program} {B:Base} {main:Bool} {ae:Jd P B main} {c:Ctx} {R:aA} {H:ai} {st:St} {o:Oper} {k:List Item}
theorem U.cp{ops:Array Oper}{i d:Nat}{rest:List Nat}{b:Call}{x:Operand}{f:FuncId}{first captured:aU}{vs:bn}{args:aU}{w:Value}(he:aV P f)(F:aO ae f args R H λ v R' H'=>R=R'∧H=H'∧v=w)
  (h:U ae c R H ((d,w)::st) (.inRegion ops rest::k))
  (ho:ops[i]? = some o:=by rfl) (hw:ca ops st o=some true:=by rfl) (G:(c.kind == CallKind.early)=false:=by rfl) (J:o.op = .call b:=by rfl) (s:b.callee = .value x:=by rfl) (K:aY st x=some (.func (.func f) first captured):=by rfl)
  (j:eO st b.args.toList=some vs:=by rfl) (p:first++vs.toArray++captured=args:=by rfl) (hd:o.dst=some d:=by rfl) (hl:Nat.blt d c.n=true:=by rfl):U ae c R H st (.inRegion ops (i::rest)::k) :=
 U.cv he F (by rintro _ _ _ ⟨rfl,rfl,rfl⟩; exact h) ho hw G J s K j p hd hl
theorem Any.cp(i:Nat){S:Nat→ai}{ops:Array Oper}{n d:Nat}{rem:List Nat}{b:Call}{x:Operand}{f:FuncId}{first captured:aU}{vs:bn}{args:aU}{w:Value}(he:aV P f)(F:aO ae f args R H λ v R' H'=>R=R'∧H=H'∧v=w)
  (h:Any ae c S ops k n (rem.erase i) R H ((d,w)::st))
  (ho:ops[i]? = some o:=by rfl) (hw:ca ops st o=some true:=by rfl) (J:o.op = .call b:=by rfl) (s:b.callee = .value x:=by rfl) (L:aY st x=some (.func (.func f) first captured):=by rfl)
  (j:eO st b.args.toList=some vs:=by rfl) (p:first++vs.toArray++captured=args:=by rfl) (hd:o.dst=some d:=by rfl) (hl:Nat.blt d c.n=true:=by rfl) (K:rem.filter (gx ops rem)=[i]:=by decide +kernel) (G:rem.Nodup:=by decide):Any ae c S ops k (n+1) rem R H st :=
 Any.cv i he F (by rintro _ _ _ ⟨rfl,rfl,rfl⟩; exact ⟨aK.refl _,λ _ _ h=>h,h⟩) ho hw J s L j p hd hl K G
theorem rT{fr:Frame}{cs:List Frame}{f:FuncId}{n:Nat}{fn:Func}{v:Value}{H':ai}{Post:Value→aA→ai→Prop}(b:P.funcs[f]? = some fn)(w:List.Sublist H' H)(j:∀ v R' H',Post v R' H'→ae.J R' H' (aS (fr.finish v) cs))(p:Post v R H')(s:gR P R H st fn.results.toList [v]:=by exact .tmp rfl .nil):U ae ⟨f,.normal,none,n,[],fr::cs⟩ R H st (.code .ret::k) :=
 rt b s w (j _ _ _ p)
theorem rU{fr:Frame}{cs:List Frame}{f:FuncId}{n:Nat}{fn:Func}{v w:Value}{H':ai}{Post:Value→aA→ai→Prop}(b:P.funcs[f]? = some fn)(F:List.Sublist H' H)(j:∀ v R' H',Post v R' H'→ae.J R' H' (aS (fr.finish v) cs))(p:Post (eE [v,w]) R H')(s:gR P R H st fn.results.toList [v,w]:=by exact .tmp rfl (.tmp rfl .nil)):U ae ⟨f,.normal,none,n,[],fr::cs⟩ R H st (.code .ret::k) :=
 rt b s F (j _ _ _ p)
end
end Go.Lg
