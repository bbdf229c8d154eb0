/- Models, operations, lists, maps, arrays, ranges over functions. Conditions: none. -/
import Derived.Test.YtihapemckcdicaaGreatDoorQDLgA
import Derived.Laws.RangeAny
namespace Go.Lg
open Go.Conc
def me{S O:Type}(body:S→Option (S ⊕ O)):Nat→S→Option O
 | 0,_=>none
 | n+1,s=>match body s with
  | none=>none
  | some (.inl s')=>me body n s'
  | some (.inr o)=>some o
open Classical in
noncomputable def bN{S O:Type}(body:S→Option (S ⊕ O))(s:S):Option O:=if h:∃ o n,me body n s=some o then some h.choose else none
theorem S0{S O:Type}{body:S→Option (S ⊕ O)}:∀ {n m:Nat} {s:S} {o:O},n≤m→me body n s=some o→me body m s=some o
 | 0,_,_,_,_,h=>by cases h
 | n+1,0,_,_,hm,_=>by omega
 | n+1,m+1,s,o,hm,h=>by
  simp only [me] at h ⊢
  cases hb:body s with
  | none=>rw [hb] at h; cases h
  | some x=>cases x with
   | inl s'=>rw [hb] at h; exact S0 (by omega) h
   | inr o'=>rw [hb] at h; exact h
theorem S2{S O:Type}{body:S→Option (S ⊕ O)}{n:Nat}{s:S}{o:O}(h:me body n s=some o):bN body s=some o:=by
 have hex:∃ o n,me body n s=some o:=⟨o,n,h⟩
 unfold bN
 rw [dif_pos hex]
 obtain ⟨m,hm⟩:=hex.choose_spec
 have h1:=S0 (Nat.le_max_left n m) h
 have h2:=S0 (Nat.le_max_right n m) hm
 rw [h1] at h2
 exact h2.symm
theorem S1{S O:Type}{body:S→Option (S ⊕ O)}{s:S}{o:O}(h:bN body s=some o):∃ n,me body n s=some o:=by
 unfold bN at h
 split at h
 ·rename_i hex
  cases h
  exact hex.choose_spec
 ·cases h
theorem yq{S O:Type}{body:S→Option (S ⊕ O)}{s:S}{o:O}(h:body s=some (.inr o)):bN body s=some o :=
 S2 (n:=1) (by simp [me,h])
theorem Hl{S O:Type}{body:S→Option (S ⊕ O)}{s s':S}(h:body s=some (.inl s')):bN body s=bN body s':=by
 cases h':bN body s' with
 | some o =>
  obtain ⟨n,hn⟩:=S1 h'
  exact S2 (n:=n+1) (by simp [me,h,hn])
 | none =>
  cases h2:bN body s with
  | none=>rfl
  | some o =>
   obtain ⟨n,hn⟩:=S1 h2
   cases n with
   | zero=>cases hn
   | succ n =>
    simp only [me,h] at hn
    rw [S2 hn] at h'
    cases h'
theorem aj{α β:Type}{o:Option α}{f:α→Option β}{r:β}(h:o.bind f=some r):∃ x,o=some x∧f x=some r:=by
 cases o with
 | none=>cases h
 | some x=>exact ⟨x,rfl,h⟩
def ag{α:Type}(t:Bool)(a b:Option α):Option α:=match t with | true=>a | false=>b
theorem bC{α:Type}{t:Bool}{a b:Option α}{r:α}{G:Prop}(h:ag t a b=some r)(h1:t=true→a=some r→G)(h2:t=false→b=some r→G):G:=by
 cases t with
 | true=>exact h1 rfl h
 | false=>exact h2 rfl h
theorem aa{α:Type}{a b:α}(h:some a=some b):a=b:=Option.some.inj h
def idx{α:Type}(xs:List α)(i:Int):Option α:=if 0≤i then xs[i.toNat]? else none
def gb{α:Type}(xs ys:List α):Option (List α):=if xs.length+ys.length≤16777216 then some (xs++ys) else none
def od{α:Type}(xs:List α)(lo hi:Int):Option (List α):=if 0≤lo∧lo≤hi∧hi≤xs.length then some ((xs.take hi.toNat).drop lo.toNat) else none
theorem sI{α:Type}{xs:List α}{i:Int}{x:α}(h:idx xs i=some x):0≤i∧i < xs.length∧xs[i.toNat]? = some x:=by
 unfold idx at h
 split at h
 ·have:=(List.getElem?_eq_some_iff.1 h).1
  exact ⟨‹_›,by omega,h⟩
 ·cases h
theorem afH{α:Type}{xs ys zs:List α}(h:gb xs ys=some zs):xs.length+ys.length≤16777216∧zs=xs++ys:=by
 unfold gb at h
 split at h
 ·cases h; exact ⟨‹_›,rfl⟩
 ·cases h
section
variable {P:Program} {B:Base} {main:Bool} {ab:Jd P B main} {c:Ctx} {R:av} {H:ai} {st st':St} {k:List Item}
theorem U.bN{S O ρ:Type}{body:S→Option (S ⊕ O)}{cont:O→Option ρ}{s0:S}{r:ρ}{code:Code}(hM:(bN body s0).bind cont=some r)(I:S→av→ai→St→Prop)
  (PI:∀ s R H st,I s R H st→∀ x,body s=some x→(∀ s',x = .inl s'→∀ R' H' st',I s' R' H' st'→U ab c R' H' st' (.inLoop code::k))→(∀ o,x = .inr o→cont o=some r)→U ab c R H st (.code code :: .inLoop code::k))
  (h0:I s0 R H st):U ab c R H st (.code (.loop code)::k):=by
 obtain ⟨o,hl,hc⟩:=aj hM
 obtain ⟨n,hn⟩:=S1 hl
 clear hM hl
 have key:∀ n s R H st,me body n s=some o→I s R H st→U ab c R H st (.code code :: .inLoop code::k):=by
  intro n
  induction n with
  | zero=>intro s R H st h; cases h
  | succ n ih =>
   intro s R H st h hI
   simp only [me] at h
   cases hb:body s with
   | none=>rw [hb] at h; cases h
   | some x =>
    rw [hb] at h
    refine PI s R H st hI x hb (λ s' hx R' H' st' Pt=>?_) (λ o' hx=>?_)
    ·subst hx; exact U.inLoop (ih s' R' H' st' h Pt)
    ·subst hx; cases h; exact hc
 exact U.enterLoop (key n s0 R H st hn h0)
theorem U.known{t:Nat}{x b:Bool}{todo:List Item}(hx:st.lookup t=some (.bool x))(hb:x=b)(h:U ab c R H ((t,.bool b)::st) todo):U ab c R H st todo:=by
 subst hb; exact λ tmps ht=>h tmps (ht.abp hx)
theorem Any.known{S:Nat→ai}{ops:Array Oper}{n:Nat}{rem:List Nat}{t:Nat}{x b:Bool}(hx:st.lookup t=some (.bool x))(hb:x=b)(h:Any ab c S ops k n rem R H ((t,.bool b)::st)):Any ab c S ops k n rem R H st:=by
 subst hb; exact ⟨h.1,λ tmps ht=>h.2 tmps (ht.abp hx)⟩
theorem U.fe{x:Operand}{th el:Code}{t:Bool}(hx:bg st x=some (.bool t))(ht:t=true)(h:U ab c R H st (.code th::k)):U ab c R H st (.code (.cond x th el)::k):=by subst ht; exact U.cond_true hx h
theorem U.dW{x:Operand}{th el:Code}{t:Bool}(hx:bg st x=some (.bool t))(ht:t=false)(h:U ab c R H st (.code el::k)):U ab c R H st (.code (.cond x th el)::k):=by subst ht; exact U.cond_false hx h
end
abbrev cx(α:Type):=av→α→List Value→Prop
class CM {α:Type} (C:cx α):Prop where
 mono:∀ {R R':av} {x:α} {es:List Value},aT R R'→C R x es→C R' x es
 one:∀ {R:av} {x:α} {es:List Value},C R x es→∀ u∈es,u.oneCell'=true
def CI(kd:IntKind):cx Int:=λ _ x es=>es=[.int kd x]
def CS:cx ByteArray:=λ _ x es=>es=[.string x]
instance {kd:IntKind}:CM (CI kd):=⟨λ _ h=>h,λ h=>by cases h; simp [Value.oneCell']⟩
instance:CM CS:=⟨λ _ h=>h,λ h=>by cases h; simp [Value.oneCell']⟩
structure bc {α:Type} (C:cx α) (k:Nat) (R:av) (xs:List α) (es:List Value):Prop where
 len:es.length=xs.length * k
 at_:∀ (i:Nat) (x:α),xs[i]? = some x→∃ e1:List Value,C R x e1∧e1.length=k∧∀ (j:Nat) (w:Value),e1[j]? = some w→es[i * k+j]? = some w
theorem bc.nil{α:Type}{C:cx α}{k:Nat}{R:av}:bc C k R [] []:=⟨by simp,by simp⟩
theorem bc.mono{α:Type}{C:cx α}[CM C]{k:Nat}{R R':av}{xs:List α}{es:List Value}(h:bc C k R xs es)(hR:aT R R'):bc C k R' xs es :=
 ⟨h.len,λ i x hx=>by obtain ⟨e1,h1,h2,h3⟩:=h.at_ i x hx; exact ⟨e1,CM.mono hR h1,h2,h3⟩⟩
theorem bc.append{α:Type}{C:cx α}{k:Nat}{R:av}{xs ys:List α}{es fs:List Value}(h:bc C k R xs es)(g:bc C k R ys fs):bc C k R (xs++ys) (es++fs):=by
 refine ⟨by rw [List.length_append,List.length_append,h.len,g.len,Nat.add_mul],λ i x hx=>?_⟩
 by_cases hi:i < xs.length
 ·rw [List.getElem?_append_left hi] at hx
  obtain ⟨e1,h1,h2,h3⟩:=h.at_ i x hx
  refine ⟨e1,h1,h2,λ j w hj=>?_⟩
  have:=h3 j w hj
  rw [List.getElem?_append_left (List.getElem?_eq_some_iff.1 this).1]
  exact this
 ·rw [List.getElem?_append_right (by omega)] at hx
  obtain ⟨e1,h1,h2,h3⟩:=g.at_ _ x hx
  refine ⟨e1,h1,h2,λ j w hj=>?_⟩
  have:=h3 j w hj
  have e:i * k+j=es.length+((i - xs.length) * k+j):=by
   rw [h.len]
   have:i=xs.length+(i - xs.length):=by omega
   rw [← Nat.add_assoc,← Nat.add_mul,← this]
  rw [e,List.getElem?_append_right (by omega),Nat.add_sub_cancel_left]
  exact this
theorem bc.single{α:Type}{C:cx α}{k:Nat}{R:av}{x:α}{es:List Value}(h:C R x es)(hk:es.length=k):bc C k R [x] es:=by
 refine ⟨by simp [hk],λ i y hy=>?_⟩
 cases i with
 | zero=>cases hy; exact ⟨es,h,hk,λ j w hj=>by simpa using hj⟩
 | succ i=>simp at hy
theorem bc.one{α:Type}{C:cx α}[CM C]{k:Nat}{R:av}{xs:List α}{es:List Value}(h:bc C k R xs es):∀ u∈es,u.oneCell'=true:=by
 intro u hu
 obtain ⟨j,hj⟩:=List.getElem?_of_mem hu
 have bJ:=(List.getElem?_eq_some_iff.1 hj).1
 rw [h.len] at bJ
 have hk:0 < k:=by cases k with | zero=>simp at bJ | succ k=>omega
 have hi:j / k < xs.length:=Nat.div_lt_of_lt_mul (by rw [Nat.mul_comm]; exact bJ)
 obtain ⟨e1,h1,h2,h3⟩:=h.at_ (j / k) _ (List.getElem?_eq_getElem hi)
 have hm:j % k < e1.length:=by rw [h2]; exact Nat.mod_lt _ hk
 have:=h3 (j % k) _ (List.getElem?_eq_getElem hm)
 rw [show j / k * k+j % k=j by rw [Nat.mul_comm]; exact Nat.div_add_mod j k,hj] at this
 cases this
 exact CM.one h1 _ (List.getElem_mem hm)
theorem bc.drop{α:Type}{C:cx α}{k n:Nat}{R:av}{xs:List α}{es:List Value}(h:bc C k R xs es):bc C k R (xs.drop n) (es.drop (n * k)):=by
 refine ⟨by simp [h.len,Nat.sub_mul],λ i x hx=>?_⟩
 rw [List.getElem?_drop] at hx
 obtain ⟨e1,h1,h2,h3⟩:=h.at_ _ x hx
 refine ⟨e1,h1,h2,λ j w hj=>?_⟩
 rw [List.getElem?_drop,← h3 j w hj,Nat.add_mul,Nat.add_assoc]
theorem bc.take{α:Type}{C:cx α}{k n:Nat}{R:av}{xs:List α}{es:List Value}(h:bc C k R xs es):bc C k R (xs.take n) (es.take (n * k)):=by
 refine ⟨by simp only [List.length_take,h.len]; exact Nat.mul_min_mul_right _ _ _,λ i x hx=>?_⟩
 rw [List.getElem?_take] at hx
 split at hx
 ·rename_i hi
  obtain ⟨e1,h1,h2,h3⟩:=h.at_ _ x hx
  refine ⟨e1,h1,h2,λ j w hj=>?_⟩
  have mI:j < k:=by rw [← h2]; exact (List.getElem?_eq_some_iff.1 hj).1
  rw [List.getElem?_take,if_pos,h3 j w hj]
  calc i * k+j < i * k+k:=by omega
   _=(i+1) * k:=by rw [Nat.add_mul,Nat.one_mul]
   _≤n * k:=Nat.mul_le_mul_right k hi
 ·cases hx
def ae{α:Type}(C:cx α)(k:Nat)(R:av)(v:Value)(xs:List α):Prop :=
 ∃ A cap es,v = .slice A xs.length cap∧bc C k R xs es∧xs.length≤cap∧(xs≠[]→∃ b o arr e fz,A=some ⟨b,o,none⟩∧R b=some (.cells arr e fz)∧∀ (j:Nat) (w:Value),es[j]? = some w→arr[o+j]? = some w)
theorem ae.mono{α:Type}{C:cx α}[CM C]{k:Nat}{R R':av}{v:Value}{xs:List α}(h:ae C k R v xs)(hR:aT R R'):ae C k R' v xs:=by
 obtain ⟨A,cap,es,h1,h2,hc,h3⟩:=h
 refine ⟨A,cap,es,h1,h2.mono hR,hc,λ hx=>?_⟩
 obtain ⟨b,o,arr,e,fz,g1,g2,g3⟩:=h3 hx
 exact ⟨b,o,arr,e,fz,g1,hR _ _ g2,g3⟩
theorem ae.nil{α:Type}{C:cx α}{k:Nat}{R:av}{A:Option Addr}{cap:Nat}:ae C k R (.slice A 0 cap) []:=⟨A,cap,[],rfl,.nil,Nat.zero_le _,λ h=>absurd rfl h⟩
def jL{α:Type}(C:cx α)(k:Nat):cx (List α):=λ R xs es=>∃ v,es=[v]∧ae C k R v xs
instance {α:Type} {C:cx α} [CM C] {k:Nat}:CM (jL C k):=⟨λ hR ⟨v,h1,h2⟩=>⟨v,h1,h2.mono hR⟩,λ ⟨v,h1,A,cap,es,h2,_⟩=>by subst h1; subst h2; simp [Value.oneCell']⟩
def bK{α:Type}(C:cx α)(k e:Nat)(R:av)(v:Value)(xs:List α)(Hs:ai):Prop :=
 (∃ A,v = .slice A 0 0∧xs=[]∧Hs=[])∨∃ b cap cs es,v = .slice (some ⟨b,0,none⟩) xs.length cap∧Hs=[(b,.cells cs e (0,0))]∧cs.size=cap * k∧xs.length≤cap∧bc C k R xs es∧∀ (j:Nat) (w:Value),es[j]? = some w→cs[j]? = some w
theorem bK.mono{α:Type}{C:cx α}[CM C]{k e:Nat}{R R':av}{v:Value}{xs:List α}{Hs:ai}(h:bK C k e R v xs Hs)(hR:aT R R'):bK C k e R' v xs Hs:=by
 rcases h with h | ⟨b,cap,cs,es,h1,h2,h3,h4,h5,h6⟩
 ·exact .inl h
 ·exact .inr ⟨b,cap,cs,es,h1,h2,h3,h4,h5.mono hR,h6⟩
theorem bK.nil{α:Type}{C:cx α}{k e:Nat}{R:av}{A:Option Addr}:bK C k e R (.slice A 0 0) [] []:=.inl ⟨A,rfl,rfl,rfl⟩
def kJ{α:Type}(C:cx α)(k:Nat)(R:av)(H:ai)(v:Value)(ys:List α):Prop :=
 ∃ A cap es,v = .slice A ys.length cap∧bc C k R ys es∧(ys≠[]→∃ b o,A=some ⟨b,o,none⟩∧aM R H b o es)
theorem ae.arg{α:Type}{C:cx α}{k:Nat}{R:av}{H:ai}{v:Value}{xs:List α}(h:ae C k R v xs):kJ C k R H v xs:=by
 obtain ⟨A,cap,es,h1,h2,_,h3⟩:=h
 refine ⟨A,cap,es,h1,h2,λ hx=>?_⟩
 obtain ⟨b,o,arr,e,fz,g1,g2,g3⟩:=h3 hx
 exact ⟨b,o,g1,λ j w hj=>⟨rfl,arr,e,fz,.inl g2,g3 j w hj⟩⟩
theorem kJ.lit{α:Type}{C:cx α}{k e n cap b:Nat}{R:av}{H:ai}{ys:List α}{cs:Array Value}{fz:Nat × Nat}(hm:(b,Obj.cells cs e fz)∈H)(hE:bc C k R ys cs.toList)(hn:ys.length=n):kJ C k R H (.slice (some ⟨b,0,none⟩) n cap) ys:=by
 subst hn
 exact ⟨_,cap,cs.toList,rfl,hE,λ _=>⟨b,0,rfl,λ j w hj=>⟨rfl,cs,e,fz,.inr hm,by simpa using hj⟩⟩⟩
def kK(G:ai→ai):Prop:=∃ A D,∀ X,G X=A++(X++D)
theorem kK.set{G:ai→ai}(hG:kK G){b:Nat}{o o':Obj}:eP (G [(b,o)]) b o o' (G [(b,o')]):=by
 obtain ⟨A,D,h⟩:=hG
 rw [h,h]
 clear h
 induction A with
 | nil=>exact .here
 | cons p A ih=>exact .there ih
end Go.Lg
namespace Go.Lg
open Go.Conc
section
variable {P:Program} {B:Base} {main:Bool} {ab:Jd P B main} {c:Ctx} {R:av} {H H':ai} {st st':St} {o:Oper} {C:av→ai→St→Prop}
def xB(P:Program)(t:TypeId)(v:Value)(i:Int)(b n:Nat):Prop:=∀ kd,ah P (Instr.indexAt t v (.int kd i)) (.pointer (some ⟨b,n,none⟩))
theorem ae.elem{α:Type}{K:cx α}{k t e:Nat}{v:Value}{xs:List α}{i:Int}{x:α}(h:ae K k R v xs)(ht:lV P t e k)(hi:idx xs i=some x) :
  ∃ b n es,K R x es∧aM R [] b n es∧xB P t v i b n:=by
 obtain ⟨h1,h2,h3⟩:=sI hi
 obtain ⟨A,cap,es,rfl,hE,_,hc⟩:=h
 obtain ⟨b,o,arr,e',fz,rfl,g2,g3⟩:=hc (by rintro rfl; simp at h3)
 obtain ⟨e1,f1,f2,f3⟩:=hE.at_ _ _ h3
 refine ⟨b,o+i.toNat * k,e1,f1,λ j w hj=>⟨rfl,arr,e',fz,.inl g2,?_⟩,λ kd=>?_⟩
 ·have:=g3 _ _ (f3 j w hj)
  simpa [Nat.add_assoc] using this
 ·have:=Um (P:=P) (b:=b) (m:=o) (cap:=cap) (kd:=kd) ht (j:=i.toNat) (len:=xs.length) (by omega)
  rwa [Int.toNat_of_nonneg h1] at this
theorem Ox.eo{x y:Operand}{t:TypeId}{v:Value}{kd:IntKind}{i:Int}{b n:Nat}(an:o.op = .indexAddr t x y)(hx:bg st x=some v)(hy:bg st y=some (.int kd i))(hv:xB P t v i b n)
  (hd:bQ o.dst c.n) (hs:aF (bT o.dst (.pointer (some ⟨b,n,none⟩)) st) st') (h:C R H st'):aW P B c o R H st C :=
 Ox.kR (s:=λ ρ=>Instr.indexAt t (ρ x) (ρ y)) (by rw [an]; rfl) hd (λ ρ=>by simp only [execOp,an]) (λ ρ ba=>by rw [ba x _ hx,ba y _ hy]; exact hv kd) hs h
theorem ZD{t e len k b m:Nat}{i:Int}(ht:rK P t len e k)(hi:0≤i∧i < len):xB P t (.pointer (some ⟨b,m,none⟩)) i b (m+i.toNat * k):=λ kd=>by
 have:=ax0 (P:=P) (b:=b) (m:=m) (kd:=kd) ht (j:=i.toNat) (by omega)
 rwa [Int.toNat_of_nonneg hi.1] at this
theorem Ox.uF{α:Type}{K:cx α}{k:Nat}{x:Operand}{t e:TypeId}{v:Value}{xs:List α}(an:o.op = .call ⟨.builtin .len,#[x],#[t]⟩)(hx:bg st x=some v)(hl:ae K k R v xs)(ht:P.underlying t=some (.slice e))
  (hd:bQ o.dst c.n) (hs:aF (bT o.dst (.int .i64 (xs.length:Int)) st) st') (h:C R H st'):aW P B c o R H st C:=by
 obtain ⟨A,cap,es,rfl,_⟩:=hl
 exact Ox.len an hx ht hd hs h
theorem Ox.K2{α:Type}{K:cx α}{k e':Nat}{x:Operand}{t e:TypeId}{v:Value}{xs:List α}{Hs:ai}(an:o.op = .call ⟨.builtin .len,#[x],#[t]⟩)(hx:bg st x=some v)(hl:bK K k e' R v xs Hs)(ht:P.underlying t=some (.slice e))
  (hd:bQ o.dst c.n) (hs:aF (bT o.dst (.int .i64 (xs.length:Int)) st) st') (h:C R H st'):aW P B c o R H st C:=by
 rcases hl with ⟨A,rfl,rfl,_⟩ | ⟨b,cap,cs,es,rfl,_⟩
 ·exact Ox.len an hx ht hd hs h
 ·exact Ox.len an hx ht hd hs h
def i64(z:Int):Int:=IntKind.wrap .i64 z
theorem KS{z:Int}(h : -9223372036854775808≤z∧z≤9223372036854775807):i64 z=z:=acE h
theorem Ox.ar{x y:Operand}{bo:BinOp}{t u:TypeId}{a b z:Int}{kd:IntKind}(an:o.op = .binOp bo t x y u)(hx:bg st x=some (.int kd a))(hy:bg st y=some (.int kd b))(hr:N2 bo a b=some z)
  (hd:bQ o.dst c.n) (hs:aF (bT o.dst (.int kd (kd.wrap z)) st) st') (h:C R H st'):aW P B c o R H st C :=
 Ox.kR (s:=λ ρ=>do eqGuard bo t x y (ρ x) (ρ y); binOp bo t (ρ x) (ρ y)) (by rw [an]; rfl) hd (λ ρ=>by simp only [execOp,an]) (λ ρ ba=>by
  rw [ba x _ hx,ba y _ hy]
  refine ah.bind (Bu _ _ _ _ _ _ _ _) ?_
  cases bo <;> simp only [N2,Option.some.injEq,reduceCtorEq] at hr <;> subst hr <;> simp only [binOp,ne_eq,not_true_eq_false,if_false,Op.intArith] <;> exact ah.pure _) hs h
def IE(a b:Int):Option Int:=if b=0 then none else some (a.tmod b)
theorem Ox.rem{x y:Operand}{t u:TypeId}{a b z:Int}{kd:IntKind}(an:o.op = .binOp .rem t x y u)(hx:bg st x=some (.int kd a))(hy:bg st y=some (.int kd b))(hr:IE a b=some z)
  (hd:bQ o.dst c.n) (hs:aF (bT o.dst (.int kd z) st) st') (h:C R H st'):aW P B c o R H st C :=
 Ox.kR (s:=λ ρ=>do eqGuard .rem t x y (ρ x) (ρ y); binOp .rem t (ρ x) (ρ y)) (by rw [an]; rfl) hd (λ ρ=>by simp only [execOp,an]) (λ ρ ba=>by
  rw [ba x _ hx,ba y _ hy]
  refine ah.bind (Bu _ _ _ _ _ _ _ _) ?_
  unfold IE at hr
  split at hr
  ·cases hr
  ·cases hr; simp only [binOp,ne_eq,not_true_eq_false,if_false,Op.intDiv, *]; exact ah.pure _) hs h
def IF(kd:IntKind)(a b:Int):Option Int:=if b < 0 then none else some (kd.wrap (a * 2 ^ (min b.toNat kd.bits)))
def lR(kd:IntKind)(a b:Int):Option Int:=if b < 0 then none else some (a.fdiv (2 ^ (min b.toNat kd.bits)))
theorem Ox.shl{x y:Operand}{t u:TypeId}{a b z:Int}{kd yk:IntKind}(an:o.op = .binOp .shl t x y u)(hx:bg st x=some (.int kd a))(hy:bg st y=some (.int yk b))(hr:IF kd a b=some z)
  (hd:bQ o.dst c.n) (hs:aF (bT o.dst (.int kd z) st) st') (h:C R H st'):aW P B c o R H st C :=
 Ox.kR (s:=λ ρ=>do eqGuard .shl t x y (ρ x) (ρ y); binOp .shl t (ρ x) (ρ y)) (by rw [an]; rfl) hd (λ ρ=>by simp only [execOp,an]) (λ ρ ba=>by
  rw [ba x _ hx,ba y _ hy]
  refine ah.bind (Bu _ _ _ _ _ _ _ _) ?_
  unfold IF at hr
  split at hr
  ·cases hr
  ·cases hr; simp only [binOp,Op.shift,if_false, *]; exact ah.pure _) hs h
theorem Ox.shr{x y:Operand}{t u:TypeId}{a b z:Int}{kd yk:IntKind}(an:o.op = .binOp .shr t x y u)(hx:bg st x=some (.int kd a))(hy:bg st y=some (.int yk b))(hr:lR kd a b=some z)
  (hd:bQ o.dst c.n) (hs:aF (bT o.dst (.int kd z) st) st') (h:C R H st'):aW P B c o R H st C :=
 Ox.kR (s:=λ ρ=>do eqGuard .shr t x y (ρ x) (ρ y); binOp .shr t (ρ x) (ρ y)) (by rw [an]; rfl) hd (λ ρ=>by simp only [execOp,an]) (λ ρ ba=>by
  rw [ba x _ hx,ba y _ hy]
  refine ah.bind (Bu _ _ _ _ _ _ _ _) ?_
  unfold lR at hr
  split at hr
  ·cases hr
  ·cases hr; simp only [binOp,Op.shift,if_false, *]; exact ah.pure _) hs h
def fN(bo:BinOp)(kd:IntKind)(a b:Int):Option Int :=
 let a:=BitVec.ofInt kd.bits a
 let b:=BitVec.ofInt kd.bits b
 match bo with
 | .and=>some (kd.wrap (a &&& b).toNat)
 | .or=>some (kd.wrap (a ||| b).toNat)
 | .xor=>some (kd.wrap (a ^^^ b).toNat)
 | .andNot=>some (kd.wrap (a &&& ~~~b).toNat)
 | _=>none
theorem Ox.bits{x y:Operand}{bo:BinOp}{t u:TypeId}{a b z:Int}{kd:IntKind}(an:o.op = .binOp bo t x y u)(hx:bg st x=some (.int kd a))(hy:bg st y=some (.int kd b))(hr:fN bo kd a b=some z)
  (hd:bQ o.dst c.n) (hs:aF (bT o.dst (.int kd z) st) st') (h:C R H st'):aW P B c o R H st C :=
 Ox.kR (s:=λ ρ=>do eqGuard bo t x y (ρ x) (ρ y); binOp bo t (ρ x) (ρ y)) (by rw [an]; rfl) hd (λ ρ=>by simp only [execOp,an]) (λ ρ ba=>by
  rw [ba x _ hx,ba y _ hy]
  refine ah.bind (Bu _ _ _ _ _ _ _ _) ?_
  cases bo <;> simp only [fN,Option.some.injEq,reduceCtorEq] at hr <;> subst hr <;> simp only [binOp,ne_eq,not_true_eq_false,if_false,Op.intBits] <;> exact ah.pure _) hs h
def Xx:BinOp→ByteArray→ByteArray→Option Bool
 | .eql,x,y=>some (x.toList == y.toList)
 | .neq,x,y=>some (!(x.toList == y.toList))
 | _,_,_=>none
theorem axZ(op:BinOp)(t:TypeId)(x y:Operand)(a b:ByteArray):ah P (eqGuard op t x y (.string a) (.string b)) ():=by
 unfold eqGuard
 cases op <;> exact ah.pure _
theorem Ox.Xy{x y:Operand}{bo:BinOp}{t u:TypeId}{a b:ByteArray}{r:Bool}(an:o.op = .binOp bo t x y u)(hx:bg st x=some (.string a))(hy:bg st y=some (.string b))(hr:Xx bo a b=some r)
  (hd:bQ o.dst c.n) (hs:aF (bT o.dst (.bool r) st) st') (h:C R H st'):aW P B c o R H st C :=
 Ox.kR (s:=λ ρ=>do eqGuard bo t x y (ρ x) (ρ y); binOp bo t (ρ x) (ρ y)) (by rw [an]; rfl) hd (λ ρ=>by simp only [execOp,an]) (λ ρ ba=>by
  rw [ba x _ hx,ba y _ hy]
  refine ah.bind (axZ _ _ _ _ _ _) ?_
  cases bo <;> simp only [Xx,Option.some.injEq,reduceCtorEq] at hr <;> subst hr <;> simp only [binOp,Op.stringOp] <;> exact ah.pure _) hs h
def Fw:BinOp→Bool→Bool→Option Bool
 | .eql,x,y=>some (x == y)
 | .neq,x,y=>some (!(x == y))
 | _,_,_=>none
theorem axY(op:BinOp)(t:TypeId)(x y:Operand)(a b:Bool):ah P (eqGuard op t x y (.bool a) (.bool b)) ():=by
 unfold eqGuard
 cases op <;> exact ah.pure _
theorem axV{t:TypeId}(ht:P.underlying t=some .bool)(a b:Bool):ah P (Op.equal t (.bool a) (.bool b)) (a == b):=by
 unfold Op.equal Op.maxDepth
 rw [Op.equalIn]
 exact ah.bind (ah.underlying ht) (ah.pure _)
theorem Ox.JH{x y:Operand}{bo:BinOp}{t u:TypeId}{a b r:Bool}(an:o.op = .binOp bo t x y u)(hx:bg st x=some (.bool a))(hy:bg st y=some (.bool b))(ht:P.underlying t=some .bool)(hr:Fw bo a b=some r)
  (hd:bQ o.dst c.n) (hs:aF (bT o.dst (.bool r) st) st') (h:C R H st'):aW P B c o R H st C :=
 Ox.kR (s:=λ ρ=>do eqGuard bo t x y (ρ x) (ρ y); binOp bo t (ρ x) (ρ y)) (by rw [an]; rfl) hd (λ ρ=>by simp only [execOp,an]) (λ ρ ba=>by
  rw [ba x _ hx,ba y _ hy]
  refine ah.bind (axY _ _ _ _ _ _) ?_
  cases bo <;> simp only [Fw,Option.some.injEq,reduceCtorEq] at hr <;> subst hr <;> simp only [binOp] <;> exact ah.bind (axV ht a b) (ah.pure _)) hs h
theorem Ox.Ck{x y:Operand}{bo:BinOp}{t u:TypeId}{a b:Array Value}{q:Bool}(an:o.op = .binOp bo t x y u)(hx:bg st x=some (.agg a))(hy:bg st y=some (.agg b))(hg:P.eqGuardType P.depth t=false)(hq:ah P (Op.equal t (.agg a) (.agg b)) q){r:Bool}(hr:Fw bo q true=some r)
  (hd:bQ o.dst c.n) (hs:aF (bT o.dst (.bool r) st) st') (h:C R H st'):aW P B c o R H st C :=
 Ox.kR (s:=λ ρ=>do eqGuard bo t x y (ρ x) (ρ y); binOp bo t (ρ x) (ρ y)) (by rw [an]; rfl) hd (λ ρ=>by simp only [execOp,an]) (λ ρ ba=>by
  rw [ba x _ hx,ba y _ hy]
  have hgd:ah P (eqGuard bo t x y (.agg a) (.agg b)) ():=by
   unfold eqGuard
   cases bo <;> simp only [Fw,reduceCtorEq] at hr <;> exact ah.bind ah.program (ah.bind ah.program (by simp only [hg]; exact ah.pure _))
  refine ah.bind hgd ?_
  cases bo <;> simp only [Fw,Option.some.injEq,reduceCtorEq] at hr <;> subst hr <;> simp only [binOp]
  ·exact ah.bind hq (by cases q <;> exact ah.pure _)
  ·exact ah.bind hq (by cases q <;> exact ah.pure _)) hs h
def oE:Int→List Int→Int
 | x,[]=>x
 | x,y::r=>oE (if y > x then y else x) r
def HR:Int→List Int→Int
 | x,[]=>x
 | x,y::r=>HR (if y < x then y else x) r
theorem abY{kd:IntKind}:∀ (l:List Int) (x:Int),ah P ((l.map (Value.int kd)).foldlM Builtin.max2 (.int kd x)) (.int kd (oE x l))
 | [],x=>ah.pure _
 | y::r,x=>by
  simp only [List.map_cons,List.foldlM_cons,oE]
  exact ah.bind (a:=.int kd (if y > x then y else x)) (ah.pure _) (abY r _)
theorem abZ{kd:IntKind}:∀ (l:List Int) (x:Int),ah P ((l.map (Value.int kd)).foldlM Builtin.min2 (.int kd x)) (.int kd (HR x l))
 | [],x=>ah.pure _
 | y::r,x=>by
  simp only [List.map_cons,List.foldlM_cons,HR]
  exact ah.bind (a:=.int kd (if y < x then y else x)) (ah.pure _) (abZ r _)
theorem Ox.max{xs:Array Operand}{ts:Array TypeId}{kd:IntKind}{a:Int}{l:List Int}(an:o.op = .call ⟨.builtin .max,xs,ts⟩)(hx:ia st xs.toList=some (.int kd a::l.map (Value.int kd)))
  (hd:bQ o.dst c.n) (hs:aF (bT o.dst (.int kd (oE a l)) st) st') (h:C R H st'):aW P B c o R H st C :=
 Ox.val (by rw [an]; rfl) hd (λ ρ ba=>by
  simp only [execOp,an]
  refine ah.bind (a:=⟨.builtin .max ts o.type (xs.map λ | .const _=>true | _=>false),xs.map ρ⟩) (ah.pure _) ?_
  simp only [invoke,builtin,Builtin.max_]
  have e:(xs.map ρ).toList = .int kd a::l.map (Value.int kd):=by simpa using zC ba _ _ hx
  rw [e]
  exact ah.bind (abY l a) (ah.pure _)) hs h
theorem Ox.min{xs:Array Operand}{ts:Array TypeId}{kd:IntKind}{a:Int}{l:List Int}(an:o.op = .call ⟨.builtin .min,xs,ts⟩)(hx:ia st xs.toList=some (.int kd a::l.map (Value.int kd)))
  (hd:bQ o.dst c.n) (hs:aF (bT o.dst (.int kd (HR a l)) st) st') (h:C R H st'):aW P B c o R H st C :=
 Ox.val (by rw [an]; rfl) hd (λ ρ ba=>by
  simp only [execOp,an]
  refine ah.bind (a:=⟨.builtin .min ts o.type (xs.map λ | .const _=>true | _=>false),xs.map ρ⟩) (ah.pure _) ?_
  simp only [invoke,builtin,Builtin.min_]
  have e:(xs.map ρ).toList = .int kd a::l.map (Value.int kd):=by simpa using zC ba _ _ hx
  rw [e]
  exact ah.bind (abZ l a) (ah.pure _)) hs h
theorem Ox.agp{x:Operand}{t u:TypeId}{kd ks k0:IntKind}{a:Int}(an:o.op = .convert t u x)(hx:bg st x=some (.int ks a))(ht:P.underlying t=some (.int k0))(hu:P.underlying u=some (.int kd))
  (hd:bQ o.dst c.n) (hs:aF (bT o.dst (.int kd (kd.wrap a)) st) st') (h:C R H st'):aW P B c o R H st C :=
 Ox.kR (s:=λ ρ=>convert t u (ρ x)) (by rw [an]; rfl) hd (λ ρ=>by simp only [execOp,an]) (λ ρ ba=>by
  rw [ba x _ hx]
  unfold convert
  refine ah.bind (ah.underlying ht) (ah.bind (ah.underlying hu) ?_)
  exact ah.pure _) hs h
theorem Fy{α:Type}{xs ys:List α}{lo hi:Int}(h:od xs lo hi=some ys):0≤lo∧lo≤hi∧hi≤xs.length∧ys=(xs.take hi.toNat).drop lo.toNat:=by
 unfold od at h
 split at h
 ·cases h; rename_i h; exact ⟨h.1,h.2.1,h.2.2,rfl⟩
 ·cases h
def Hk(st:St):Option Operand→Option Int
 | none=>some 0
 | some x=>match bg st x with | some (.int _ i)=>some i | _=>none
def F9(st:St)(n:Nat):Option Operand→Option Int
 | none=>some n
 | some x=>match bg st x with | some (.int _ i)=>some i | _=>none
theorem Mi{kd:IntKind}{i:Int}{y:Nat}{cd:BoundsCode}(h:0≤i∧i≤y):ah P (Instr.sliceBound (.int kd i) y cd) i.toNat:=by
 unfold Instr.sliceBound
 refine ah.bind (a:=(kd,i)) (ah.pure _) ?_
 simp only [h,and_self,if_true]
 exact ah.pure _
theorem Mj{ρ:Operand→Value}(ba:Knows st ρ){len cap:Nat}{lo hi:Option Operand}{l h:Int}(hl:Hk st lo=some l)(hh:F9 st len hi=some h)(hb:0≤l∧l≤h∧h≤len)(hc:len≤cap) :
  ah P (Instr.sliceBounds true len cap (lo.map ρ) (hi.map ρ) none) (l.toNat,h.toNat,cap):=by
 have h1:(lo=none∧l=0)∨∃ x kd,lo=some x∧ρ x = .int kd l:=by
  cases lo with
  | none=>simp only [Hk,Option.some.injEq] at hl; exact .inl ⟨rfl,hl.symm⟩
  | some x =>
   simp only [Hk] at hl
   cases hx:bg st x with
   | none=>simp [hx] at hl
   | some v =>
    cases v <;> simp [hx] at hl
    subst hl
    exact .inr ⟨x,_,rfl,ba x _ hx⟩
 have h2:(hi=none∧h=len)∨∃ x kd,hi=some x∧ρ x = .int kd h:=by
  cases hi with
  | none=>simp only [F9,Option.some.injEq] at hh; exact .inl ⟨rfl,hh.symm⟩
  | some x =>
   simp only [F9] at hh
   cases hx:bg st x with
   | none=>simp [hx] at hh
   | some v =>
    cases v <;> simp [hx] at hh
    subst hh
    exact .inr ⟨x,_,rfl,ba x _ hx⟩
 unfold Instr.sliceBounds
 rcases h1 with ⟨rfl,rfl⟩ | ⟨x,kx,rfl,hx⟩ <;> rcases h2 with ⟨rfl,rfl⟩ | ⟨y,ky,rfl,hy⟩ <;> simp only [Option.map_none,Option.map_some, *]
 ·exact ah.bind (a:=cap) (ah.pure _) (ah.bind (a:=(len:Int).toNat) (by rw [Int.toNat_natCast]; exact ah.pure _) (ah.bind (a:=(0:Int).toNat) (ah.pure _) (ah.pure _)))
 ·exact ah.bind (a:=cap) (ah.pure _) (ah.bind (a:=h.toNat) (Mi ⟨by omega,by omega⟩) (ah.bind (a:=(0:Int).toNat) (ah.pure _) (ah.pure _)))
 ·exact ah.bind (a:=cap) (ah.pure _) (ah.bind (a:=(len:Int).toNat) (by rw [Int.toNat_natCast]; exact ah.pure _) (ah.bind (a:=l.toNat) (Mi ⟨by omega,by omega⟩) (ah.pure _)))
 ·exact ah.bind (a:=cap) (ah.pure _) (ah.bind (a:=h.toNat) (Mi ⟨by omega,by omega⟩) (ah.bind (a:=l.toNat) (Mi ⟨by omega,by omega⟩) (ah.pure _)))
end
end Go.Lg
namespace Go.Lg
open Go.Conc
theorem yJ:∀ (vs:List Value) (cs:Array Value) (o j:Nat),o+vs.length≤cs.size→(ft cs o vs)[j]? = if o≤j∧j < o+vs.length then vs[j - o]? else cs[j]?
 | [],cs,o,j,_=>by
  simp only [ft,List.length_nil,Nat.add_zero]
  rw [if_neg (by omega)]
 | v::r,cs,o,j,h=>by
  simp only [List.length_cons] at h
  simp only [ft]
  rw [yJ r _ (o+1) j (by simp; omega)]
  by_cases h1:o+1≤j∧j < o+1+r.length
  ·rw [if_pos h1,if_pos (by simp only [List.length_cons]; omega)]
   have:j - o=(j - (o+1))+1:=by omega
   rw [this]; simp
  ·rw [if_neg h1]
   by_cases h2:o=j
   ·subst h2
    rw [if_pos (by simp only [List.length_cons]; omega)]
    rw [Array.getElem?_setIfInBounds_self_of_lt (by omega)]
    simp
   ·rw [if_neg (by simp only [List.length_cons]; omega),Array.getElem?_setIfInBounds_ne h2]
structure rJ (P:Program) (t e k:Nat):Prop where
 sl:P.underlying t=some (.slice e)
 size:ah P (sizeOf e) k
 info:∃ i,P.info? e=some i∧i.bytes≤65536
 zero:∃ z,ah P (zeroValue e) z∧z.cells.size=k
section
variable {P:Program} {B:Base} {main:Bool} {ab:Jd P B main} {c:Ctx} {R:av} {H H':ai} {st st':St} {o:Oper}
theorem aL.weaken{α:Type}{s:Sem α}{K K':α→av→ai→Prop}(h:aL P B R H s K)(hk:∀ a R' H',K a R' H'→∃ cy dI,(∀ w,Fits B R' H' w→fw B R' H' w cy dI w)∧K' a cy dI):aL P B R H s K':=by
 intro w hw
 obtain ⟨a,w',R',H',h1,h2,h3,h4⟩:=h w hw
 obtain ⟨cy,dI,g1,g2⟩:=hk a R' H' h4
 exact ⟨a,w',cy,dI,h1,h2,h3.trans (g1 w' h3.fits),g2⟩
theorem aL.firstCells{α:Type}{K:cx α}{k:Nat}{u:Value}{ys:List α}{Q:Array Value→av→ai→Prop}(hu:kJ K k R H u ys)(hQ:∀ es:List Value,bc K k R ys es→Q es.toArray R H):aL P B R H (Builtin.firstCells k ys.length u) Q:=by
 obtain ⟨A,cap,es,rfl,hE,hc⟩:=hu
 cases ys with
 | nil =>
  have e0:es=[]:=by have:=hE.len; simpa using this
  subst e0
  cases A with
  | none=>exact aL.pure (hQ [] hE)
  | some a =>
   simp only [Builtin.firstCells,List.length_nil,Nat.zero_mul,loadCells]
   exact aL.pure (hQ [] hE)
 | cons y ys =>
  obtain ⟨b,o,rfl,pg⟩:=hc (by simp)
  simp only [Builtin.firstCells,loadCells]
  rw [← hE.len]
  exact aL.loadCellsFrom es 0 #[] (by simpa using pg) (by simpa using hQ es hE)
theorem bK.arg{α:Type}{K:cx α}{k e:Nat}{G:ai→ai}(hG:kK G){v:Value}{xs:List α}{Hs:ai}(h:bK K k e R v xs Hs):kJ K k R (G Hs) v xs:=by
 rcases h with ⟨A,rfl,rfl,_⟩ | ⟨b,cap,cs,es,rfl,rfl,h3,h4,h5,h6⟩
 ·exact ⟨A,0,[],rfl,.nil,λ h=>absurd rfl h⟩
 ·refine ⟨_,cap,es,rfl,h5,λ _=>⟨b,0,rfl,λ j w hj=>⟨rfl,cs,e,(0,0),.inr ?_,by simpa using h6 j w hj⟩⟩⟩
  obtain ⟨A,D,xW⟩:=hG
  rw [xW]; simp
theorem avp{n m:Nat}(h:m < n)(hn:n≤16777216):Builtin.nextslicecap n m≤67108864:=by
 unfold Builtin.nextslicecap
 split
 ·omega
 ·split
  ·omega
  ·have:∀ (r c:Nat),c≤16777216→Builtin.growBy n r c≤67108864:=by
    intro r
    induction r with
    | zero=>intro c hc; simp only [Builtin.growBy]; omega
    | succ r ih =>
     intro c hc
     simp only [Builtin.growBy]
     split
     ·omega
     ·rename_i eE
      by_cases h2:c+(c+768) / 4≤16777216
      ·exact ih _ h2
      ·
       cases r with
       | zero=>simp only [Builtin.growBy]; omega
       | succ r=>simp only [Builtin.growBy]; rw [if_pos (by omega)]; omega
   exact this 4 m (by omega)
theorem aL.append{α:Type}{K:cx α}[CM K]{k t e xT T:Nat}{G:ai→ai}(hG:kK G){v u:Value}{xs ys:List α}{Hs:ai}{dx:TypeDesc}(ht:rJ P t e k)(SH:P.underlying xT=some dx)(P1:∀ kd,dx ≠ .int kd)
  (hO:bK K k e R v xs Hs) (hu:kJ K k R (G Hs) u ys) (hl:xs.length+ys.length≤16777216) {Q:Value→av→ai→Prop} (hk:∀ v' dG,bK K k e R v' (xs++ys) dG→Q v' R (G dG)) :
  aL P B R (G Hs) (Builtin.append_ #[t,xT] T #[v,u]) Q:=by
 obtain ⟨A2,aFk,es2,hu2⟩:=id hu
 have hv:∃ base cap,v = .slice base xs.length cap:=by
  rcases hO with ⟨A,rfl,rfl,_⟩ | ⟨b,cap,cs,es,rfl,_⟩
  ·exact ⟨A,0,rfl⟩
  ·exact ⟨_,cap,rfl⟩
 obtain ⟨base,cap,rfl⟩:=hv
 obtain ⟨i,hi,akp⟩:=ht.info
 obtain ⟨z,hz,hzs⟩:=ht.zero
 have hlen:ah P (Builtin.lenOf u) ys.length:=by rw [hu2.1]; exact ah.pure _
 have run:aL P B R (G Hs) (do
   let A7:=xs.length+ys.length
   if A7≤cap then do
    let new ← Builtin.firstCells k ys.length u
    if let some a:=base then storeCells (a.add (xs.length * k)) new.toList
    Pure.pure (Value.slice base A7 cap)
   else do
    if (A7:Int) > IntKind.i64.max∧(false=true∨(← typeInfo e).bytes=0) then runtimePanic (.error "growslice: len out of range")
    if Builtin.nextslicecap A7 cap * (← typeInfo e).bytes > 2 ^ 48 then (if false=true then runtimePanic (.error "growslice: len out of range") else do
     if !(← Builtin.mayShare k xs.length ys.length base u) then mark .noRoom
     unsupported (.resourceLimit "append: a slice or a string whose bytes no memory bears"))
    let yD ← Go.choose (Question.appendCap A7 cap e)
    askRoom (yD * (← typeInfo e).bytes)
    let old ← Builtin.firstCells k xs.length (.slice base xs.length cap)
    let new ← Builtin.firstCells k ys.length u
    let rest:=Builtin.zeroCells (← zeroValue e).cells (yD - A7)
    Pure.pure (Value.slice (some (← newRow e (old++new++rest))) A7 yD)) Q:=by
  dsimp only
  by_cases hc:xs.length+ys.length≤cap
  ·rw [if_pos hc]
   refine aL.bind (aL.firstCells hu λ es hE=>?_)
   rcases hO with ⟨A,e1,rfl,rfl⟩ | ⟨b,aFj,cs,zI,e1,rfl,h3,h4,h5,h6⟩
   ·injection e1 with e1 e2 e3
    subst e1; subst e3
    have hy:ys=[]:=by simpa using hc
    subst hy
    have e0:es=[]:=by have:=hE.len; simpa using this
    subst e0
    have key:Q (.slice base ([]:List α).length 0) R (G []):=hk _ [] (.inl ⟨base,rfl,by simp,rfl⟩)
    cases base with
    | none=>exact aL.bind (aL.pure (aL.pure key))
    | some a=>exact aL.bind (aL.pure (aL.pure key))
   ·injection e1 with e1 _ e3
    subst e1; subst e3
    dsimp only
    rw [show (⟨b,0,none⟩:Addr).add (xs.length * k)=⟨b,0+xs.length * k,none⟩ from pK _ _ _,Nat.zero_add]
    refine aL.given λ dA=>aL.bind (aL.Ig es cs (xs.length * k) 0 (G [(b,.cells cs e (0,0))]) (G [(b,.cells (ft cs (xs.length * k) es) e (0,0))]) hE.one ?_ (by simpa using kK.set hG) dA (aL.pure ?_))
    ·rw [h3,hE.len,Nat.add_zero,← Nat.add_mul]; exact Nat.mul_le_mul_right k hc
    ·have vG:xs.length * k+es.length≤cs.size:=by rw [h3,hE.len,← Nat.add_mul]; exact Nat.mul_le_mul_right k hc
     refine hk _ _ (.inr ⟨b,cap,ft cs (xs.length * k) es,zI++es,by rw [List.length_append],rfl,by rw [H5]; exact h3,by rw [List.length_append]; exact hc,h5.append hE,λ j w hj=>?_⟩)
     rw [yJ es cs _ _ vG]
     by_cases Qj:j < zI.length
     ·rw [List.getElem?_append_left Qj] at hj
      rw [if_neg (by rw [← h5.len]; omega)]
      exact h6 j w hj
     ·rw [List.getElem?_append_right (by omega)] at hj
      have:=(List.getElem?_eq_some_iff.1 hj).1
      rw [if_pos (by rw [← h5.len]; omega),← h5.len]
      exact hj
  ·rw [if_neg hc]
   have Zc:Builtin.nextslicecap (xs.length+ys.length) cap * i.bytes≤2 ^ 48:=by
    have h1:=avp (n:=xs.length+ys.length) (m:=cap) (by omega) hl
    calc _≤67108864 * 65536:=Nat.mul_le_mul h1 akp
     _≤2 ^ 48:=by decide
   have hni:¬ (((xs.length+ys.length:Nat):Int) > IntKind.i64.max∧(false=true∨i.bytes=0)):=by
    intro h
    have:IntKind.i64.max=9223372036854775807:=by decide
    omega
   refine ah.dM (ah.typeInfo hi) ?_
   rw [if_neg hni]
   refine ah.dM (ah.typeInfo hi) ?_
   rw [if_neg (by omega)]
   refine (aL.bind (aL.choose λ tape=>ah.dM (ah.typeInfo hi) (aL.bind ?_)))
   have ako:∀ (n:Nat) (Q':Unit→av→ai→Prop),Q' () R (G Hs)→aL P B R (G Hs) (askRoom n) Q':=by
    intro n Q' hq
    unfold askRoom
    split
    ·exact aL.avc hq
    ·exact aL.pure hq
   refine ako _ _ ?_
   simp only [Question.forced,Bool.false_eq_true,if_false,Question.cut]
   generalize tT:xs.length+ys.length+tape % (2 ^ 63 - (xs.length+ys.length))=yD
   refine aL.bind (aL.firstCells (bK.arg hG hO) λ zI YG=>aL.bind (aL.firstCells hu λ J0 YH=>ah.dM hz ?_))
   simp only [newRow]
   refine aL.bind (aL.bind (aL.weaken (aL.new (K:=λ r R' H'=>R'=R∧H'=(r,.cells (zI.toArray++J0.toArray++Builtin.zeroCells z.cells (yD - (xs.length+ys.length))) e (0,0))::G Hs) λ r _ _=>⟨rfl,rfl⟩) λ r R' H' hrh=>?_))
   obtain ⟨rfl,rfl⟩:=hrh
   refine ⟨R',G [(r,.cells (zI.toArray++J0.toArray++Builtin.zeroCells z.cells (yD - (xs.length+ys.length))) e (0,0))],λ w hw=>?_,aL.pure (aL.pure (hk _ _ (.inr ⟨r,yD,_,zI++J0,by rw [List.length_append],rfl,?_,by rw [List.length_append]; omega,YG.append YH,λ j w hj=>?_⟩)))⟩
   ·obtain ⟨A,D,xW⟩:=hG
    rw [xW,xW] at *
    have h1:=Uh (H':=A++(Hs++((r,.cells (zI.toArray++J0.toArray++Builtin.zeroCells z.cells (yD - (xs.length+ys.length))) e (0,0))::D))) (by simpa using List.perm_middle (l₁:=A++Hs)) hw
    refine h1.trans (Ma ?_ h1.fits)
    exact List.Sublist.append_left (List.sublist_append_right _ _) _
   ·simp only [Array.size_append,List.size_toArray,YG.len,YH.len,Builtin.zeroCells,Array.size_map,Array.size_range,hzs]
    rw [← Nat.add_mul,← Nat.add_mul]
    congr 1; omega
   ·have:=(List.getElem?_eq_some_iff.1 hj).1
    rw [Array.getElem?_append_left (by simpa using this)]
    simpa using hj
 unfold Builtin.append_
 refine ah.dM (ah.underlying ht.sl) (ah.dM ht.size (ah.dM (ah.underlying SH) (ah.dM (a:=false) (by cases dx <;> first | exact ah.pure _ | exact absurd rfl (P1 _)) ?_)))
 exact ah.dM hlen run
theorem Ox.append{α:Type}{K:cx α}[CM K]{k t e xT:Nat}(G:ai→ai){x y:Operand}{v u:Value}{xs ys zs:List α}{Hs:ai}{dx:TypeDesc}{C:av→ai→St→Prop}(an:o.op = .call ⟨.builtin .append,#[x,y],#[t,xT]⟩)(hx:bg st x=some v)(hy:bg st y=some u)
  (ht:rJ P t e k) (SH:P.underlying xT=some dx) (P1:∀ kd,dx ≠ .int kd) (hG:kK G) (hO:bK K k e R v xs Hs) (hu:kJ K k R (G Hs) u ys) (hl:gb xs ys=some zs) (hd:bQ o.dst c.n)
  (hC:∀ v' dG,bK K k e R v' zs dG→∃ st',aF (bT o.dst v' st) st'∧C R (G dG) st'):aW P B c o R (G Hs) st C:=by
 obtain ⟨se,rfl⟩:=afH hl
 refine ⟨by rw [an]; rfl,hd,λ ρ ba=>?_⟩
 simp only [execOp,an]
 refine ah.dM (a:=⟨.builtin .append #[t,xT] o.type (#[x,y].map λ | .const _=>true | _=>false),#[x,y].map ρ⟩) (ah.pure _) ?_
 simp only [invoke,builtin]
 have e:(#[x,y].map ρ)=#[v,u]:=by simp [ba x _ hx,ba y _ hy]
 rw [e]
 refine aL.bind (aL.append hG ht SH P1 hO hu se λ v' dG J6=>aL.pure ?_)
 obtain ⟨st',hs,h⟩:=hC v' dG J6
 exact ⟨v',.inl rfl,st',hs,h⟩
theorem U.nD{α:Type}{K:cx α}[CM K]{k e:Nat}{todo:List Item}(G:ai→ai)(hG:kK G){v:Value}{xs:List α}{Hs H2:ai}(h2:G []=H2)(hO:bK K k e R v xs Hs)(h:∀ R',aT R R'→ae K k R' v xs→U ab c R' H2 st todo):U ab c R (G Hs) st todo:=by
 subst h2
 rcases hO with ⟨A,rfl,rfl,rfl⟩ | ⟨b,cap,cs,es,rfl,rfl,h3,h4,h5,h6⟩
 ·exact h R (aT.refl R) .nil
 ·obtain ⟨A,D,xW⟩:=hG
  rw [xW] at h ⊢
  refine U.perm (H':=(b,.cells cs e (0,0))::(A++([]++D))) (by simpa using List.perm_middle.symm) (U.freeze λ R' hR hb=>h R' hR ?_)
  exact ⟨_,cap,es,rfl,h5.mono hR,h4,λ _=>⟨b,0,cs,e,(0,0),rfl,hb,λ j w hj=>by simpa using h6 j w hj⟩⟩
theorem U.pd{α:Type}{K:cx α}[CM K]{k e b n:Nat}{todo:List Item}(G:ai→ai)(hG:kK G){H2:ai}(h2:G []=H2){ys:List α}{cs:Array Value}(hE:bc K k R ys cs.toList)(hn:ys.length=n)(h:∀ R',aT R R'→ae K k R' (.slice (some ⟨b,0,none⟩) n n) ys→U ab c R' H2 st todo):U ab c R (G [(b,.cells cs e (0,0))]) st todo:=by
 subst hn h2
 obtain ⟨A,D,xW⟩:=hG
 rw [xW] at h ⊢
 refine U.perm (H':=(b,.cells cs e (0,0))::(A++([]++D))) (by simpa using List.perm_middle.symm) (U.freeze λ R' hR hb=>h R' hR ?_)
 exact ⟨_,ys.length,cs.toList,rfl,hE.mono hR,Nat.le_refl _,λ _=>⟨b,0,cs,e,(0,0),rfl,hb,λ j w hj=>by simpa using hj⟩⟩
theorem bK.lit{α:Type}{K:cx α}{k e b n:Nat}{ys:List α}{cs:Array Value}(hE:bc K k R ys cs.toList)(hn:ys.length=n):bK K k e R (.slice (some ⟨b,0,none⟩) n n) ys [(b,.cells cs e (0,0))]:=by
 subst hn
 exact .inr ⟨b,_,cs,cs.toList,rfl,rfl,by simpa using hE.len,Nat.le_refl _,hE,λ j w hj=>by simpa using hj⟩
end
end Go.Lg
namespace Go.Lg
open Go.Conc
theorem aF.one{dst:Option Tmp}{d:Tmp}{v:Value}{st:St}(h:dst=some d):aF (bT dst v st) [(d,v)]:=by
 subst h
 intro t u hu
 simp only [List.lookup_cons,List.lookup_nil] at hu
 simp only [bT,List.lookup_cons]
 split at hu
 ·exact hu
 ·cases hu
theorem eP.skip{Ks H H':ai}{b:Nat}{o o':Obj}(h:eP H b o o' H'):eP (Ks++H) b o o' (Ks++H'):=by
 induction Ks with
 | nil=>exact h
 | cons p Ks ih=>exact .there ih
theorem aM.box{R:av}{H:ai}{b:Nat}{e:TypeId}{fz:Nat × Nat}{L:List Value}(hm:(b,Obj.cells L.toArray e fz)∈H):aM R H b 0 L:=λ j v hj=>⟨rfl,_,e,fz,.inr hm,by simpa using hj⟩
theorem kK.id{D:ai}:kK (λ X=>X++D):=⟨[],D,λ _=>rfl⟩
theorem kK.cons{p:Nat × Obj}{G:ai→ai}(h:kK G):kK (λ X=>p::G X):=by
 obtain ⟨A,D,h⟩:=h
 exact ⟨p::A,D,λ X=>by show p::G X=_; rw [h]; rfl⟩
theorem kK.app{L:ai}{G:ai→ai}(h:kK G):kK (λ X=>L++G X):=by
 obtain ⟨A,D,h⟩:=h
 exact ⟨L++A,D,λ X=>by show L++G X=_; rw [h,List.append_assoc]⟩
theorem o9{place:Nat→Option (Nat × Nat)}{cells:Array Value}:Instr.fill place cells []=some cells:=rfl
theorem awb(vc:List Value):∀ (cells:Array Value) (off j:Nat),(vc.zipIdx j).foldl (λ cs (c,i)=>cs.setIfInBounds (off+i) c) cells=ft cells (off+j) vc:=by
 induction vc with
 | nil=>intro cells off j; rfl
 | cons v r ih=>intro cells off j; simp only [List.zipIdx_cons,List.foldl_cons,ft]; rw [ih]; rfl
theorem awc(vc cells:Array Value)(off:Nat):vc.zipIdx.foldl (λ cs (c,i)=>cs.setIfInBounds (off+i) c) cells=ft cells off vc.toList:=by
 have h:=awb vc.toList cells off 0
 rw [Nat.add_zero] at h
 rw [← h,← Array.foldl_toList]
 simp
theorem nB{place:Nat→Option (Nat × Nat)}{cells cells' out vc:Array Value}{i off size:Nat}{v:Value}{rest:List (Nat × Value)}(hp:place i=some (off,size))(hc:v.cells=vc)
  (hs:(vc.size == size && Nat.ble (off+vc.size) cells.size)=true) (lh:ft cells off vc.toList=cells') (h:Instr.fill place cells' rest=some out):Instr.fill place cells ((i,v)::rest)=some out:=by
 subst hc
 rw [Bool.and_eq_true] at hs
 have h1:v.cells.size=size:=by simpa using hs.1
 have h2:off+v.cells.size≤cells.size:=by simpa [Nat.ble_eq] using hs.2
 simp only [Instr.fill,hp]
 rw [if_neg (by simp [h1]; omega),awc,lh]
 exact h
theorem bf:∀ u∈([]:List Value),u.oneCell'=true:=λ _ h=>by cases h
theorem cc{v:Value}{l:List Value}(h:v.oneCell'=true)(t:∀ u∈l,u.oneCell'=true):∀ u∈v::l,u.oneCell'=true:=λ u hu=>by
 rcases List.mem_cons.1 hu with rfl | hu
 ·exact h
 ·exact t u hu
theorem bp{l m:List Value}(h:∀ u∈l,u.oneCell'=true)(t:∀ u∈m,u.oneCell'=true):∀ u∈l++m,u.oneCell'=true:=λ u hu=>(List.mem_append.1 hu).elim (h u) (t u)
theorem cB{α:Type}{f:α→Value}{xs:List α}(h:∀ x,(f x).oneCell'=true):∀ u∈xs.map f,u.oneCell'=true:=λ u hu=>by
 obtain ⟨x,_,rfl⟩:=List.mem_map.1 hu
 exact h x
theorem aM.part{R:av}{H:ai}{b o j n:Nat}{L vs:List Value}(h:aM R H b o L)(hv:(L.drop j).take n=vs):aM R H b (o+j) vs:=by
 intro i v hi
 subst hv
 rw [List.getElem?_take] at hi
 split at hi
 ·rw [List.getElem?_drop] at hi
  have:=h _ _ hi
  simpa [Nat.add_assoc] using this
 ·cases hi
theorem aM.arr{α:Type}{R:av}{H:ai}{b o k:Nat}{f:α→Value}{pre post:List Value}{xs:List α}{i:Int}{x:α}(h:aM R H b o (pre++(xs.map f++post)))(hi:idx xs i=some x)(hk:pre.length=k):Cell R H ⟨b,o+k+i.toNat * 1,none⟩ (f x):=by
 obtain ⟨_,_,h3⟩:=sI hi
 have bJ:=(List.getElem?_eq_some_iff.1 h3).1
 have:=h (k+i.toNat) (f x) (by
  rw [List.getElem?_append_right (by omega),← hk,Nat.add_sub_cancel_left,List.getElem?_append_left (by simpa using bJ)]
  simp [h3])
 simpa [Nat.add_assoc] using this
theorem aM.sub{R:av}{H H':ai}{b o:Nat}{L:List Value}(h:aM R H b o L)(hs:∀ p∈H,p∈H'):aM R H' b o L:=λ j v hj=>by
 obtain ⟨h1,cs,e,fz,h2,h3⟩:=h j v hj
 exact ⟨h1,cs,e,fz,h2.imp id (hs _),h3⟩
theorem aM.le{R R':av}{H:ai}{b o:Nat}{L:List Value}(h:aM R H b o L)(hs:aT R R'):aM R' H b o L:=λ j v hj=>by
 obtain ⟨h1,cs,e,fz,h2,h3⟩:=h j v hj
 exact ⟨h1,cs,e,fz,h2.imp (hs _ _) id,h3⟩
theorem N5{α:Type}{f:α→Value}{pre post:List Value}{xs:List α}{i:Int}{x y:α}{k:Nat}(hi:idx xs i=some y)(hk:pre.length=k):((pre++(xs.map f++post)).toArray).setIfInBounds (k+i.toNat * 1) (f x)=(pre++((xs.set i.toNat x).map f++post)).toArray:=by
 obtain ⟨_,_,h3⟩:=sI hi
 have bJ:=(List.getElem?_eq_some_iff.1 h3).1
 subst hk
 simp only [Nat.mul_one,List.setIfInBounds_toArray,List.map_set]
 congr 1
 rw [List.set_append_right _ _ (by omega),Nat.add_sub_cancel_left,List.set_append_left _ _ (by simpa using bJ)]
theorem N3{α:Type}{f:α→Value}{pre post:List Value}{xs:List α}{i:Int}{y:α}{k:Nat}(hi:idx xs i=some y)(hk:pre.length=k):Nat.blt (k+i.toNat * 1) ((pre++(xs.map f++post)).toArray).size=true:=by
 obtain ⟨_,_,h3⟩:=sI hi
 have bJ:=(List.getElem?_eq_some_iff.1 h3).1
 rw [Nat.blt_eq]
 simp
 omega
theorem eA{L:List Value}{n:Nat}(h:L.length=n):(L.drop 0).take n=L:=by subst h; simp
theorem axD{pre mid post:List Value}{k n:Nat}(hk:pre.length=k)(hn:mid.length=n):((pre++(mid++post)).drop k).take n=mid:=by subst hk; subst hn; simp
theorem nP{P:Program}{α:Type}{t e len k b m:Nat}{i:Int}{xs:List α}{x:α}(ht:rK P t len e k)(hl:xs.length=len)(hi:idx xs i=some x):xB P t (.pointer (some ⟨b,m,none⟩)) i b (m+i.toNat * k):=by
 obtain ⟨h1,h2,_⟩:=sI hi
 exact ZD ht ⟨h1,by omega⟩
theorem ae.one{α:Type}{C:cx α}{k:Nat}{R:av}{v:Value}{xs:List α}(h:ae C k R v xs):v.oneCell'=true:=by
 obtain ⟨A,cap,es,rfl,_⟩:=h; rfl
theorem ae.cells{α:Type}{C:cx α}{k:Nat}{R:av}{v:Value}{xs:List α}(h:ae C k R v xs):v.cells=#[v]:=by
 obtain ⟨A,cap,es,rfl,_⟩:=h; rfl
theorem bK.cells{α:Type}{C:cx α}{k e:Nat}{R:av}{v:Value}{xs:List α}{Hs:ai}(h:bK C k e R v xs Hs):v.cells=#[v]:=by
 rcases h with ⟨A,rfl,_⟩ | ⟨b,cap,cs,es,rfl,_⟩ <;> rfl
theorem bK.one{α:Type}{C:cx α}{k e:Nat}{R:av}{v:Value}{xs:List α}{Hs:ai}(h:bK C k e R v xs Hs):v.oneCell'=true:=by
 rcases h with ⟨A,rfl,_⟩ | ⟨b,cap,cs,es,rfl,_⟩ <;> rfl
theorem bc.cons{α:Type}{C:cx α}{k:Nat}{R:av}{x:α}{xs:List α}{e1 es:List Value}(h:C R x e1)(hk:e1.length=k)(g:bc C k R xs es):bc C k R (x::xs) (e1++es):=(bc.single h hk).append g
theorem bc.le{α:Type}{C:cx α}{k:Nat}{R:av}{xs:List α}{es fs:List Value}(h:bc C k R xs es)(e:es=fs):bc C k R xs fs:=by subst e; exact h
section
variable {P:Program} {B:Base} {main:Bool} {ab:Jd P B main} {c:Ctx} {R:av} {H H':ai} {st st':St} {o:Oper} {k:List Item}
inductive oa (P:Program) (R:av) (H:ai) (st:St):List ResultVar→List Value→Prop
 | nil:oa P R H st [] []
 | tmp {t:Tmp} {v:Value} {r:List ResultVar} {vs:List Value}:st.lookup t=some v→oa P R H st r vs→oa P R H st (.tmp t::r) (v::vs)
 | one {a:Tmp} {t:TypeId} {b o:Nat} {v:Value} {r:List ResultVar} {vs:List Value}:st.lookup a=some (.pointer (some ⟨b,o,none⟩))→gB P t→Cell R H ⟨b,o,none⟩ v→oa P R H st r vs→oa P R H st (.cell a t::r) (v::vs)
 | agg {a:Tmp} {t:TypeId} {b o n:Nat} {us:List Value} {r:List ResultVar} {vs:List Value}:st.lookup a=some (.pointer (some ⟨b,o,none⟩))→mB P t n→us.length=n→aM R H b o us→oa P R H st r vs→oa P R H st (.cell a t::r) (.agg us.toArray::vs)
theorem awZ{tmps:Array Value}{n:Nat}(ht:cL n st tmps):∀ {l:List ResultVar} {vs:List Value},oa P R H st l vs→∀ {K:List Value→av→ai→Prop},K vs R H →
  aL P B R H (l.mapM (m:=Sem) λ
   | .tmp t=>pure (tmps.getD t undef)
   | .cell a t=>do loadVar t (← asAddr (tmps.getD a undef))) K:=by
 intro l vs h
 induction h with
 | nil=>intro K hk; exact aL.pure hk
 | @tmp t v r vs hl _ ih =>
  intro K hk
  rw [List.mapM_cons]
  have:tmps.getD t undef=v:=by simp [Array.getD_eq_getD_getElem?,ht.2 t v hl]
  refine ah.dM (a:=v) (by show ah P (pure (tmps.getD t undef)) v; rw [this]; exact ah.pure _) (aL.bind (ih (K:=λ us R' H'=>K (v::us) R' H') hk |>.mono λ us R' H' h=>aL.pure h))
 | @one a t b o v r vs hl KD hc _ ih =>
  intro K hk
  rw [List.mapM_cons]
  have:tmps.getD a undef = .pointer (some ⟨b,o,none⟩):=by simp [Array.getD_eq_getD_getElem?,ht.2 a _ hl]
  simp only [this]
  refine aL.bind (ah.dM (a:=⟨b,o,none⟩) (ah.pure _) ?_)
  unfold loadVar
  refine ah.dM KD.1 (aL.load hc (aL.bind (ih (K:=λ us R' H'=>K (v::us) R' H') hk |>.mono λ us R' H' h=>aL.pure h)))
 | @agg a t b o n us r vs hl KD hn hc _ ih =>
  intro K hk
  rw [List.mapM_cons]
  have:tmps.getD a undef = .pointer (some ⟨b,o,none⟩):=by simp [Array.getD_eq_getD_getElem?,ht.2 a _ hl]
  simp only [this]
  refine aL.bind (ah.dM (a:=⟨b,o,none⟩) (ah.pure _) ?_)
  unfold loadVar
  refine ah.dM KD.1 ?_
  simp only [if_true]
  subst hn
  refine ah.dM KD.2 (aL.bind (aL.loadCellsFrom us 0 #[] (by simpa using hc) (aL.pure ?_)))
  simp only [List.append_toArray,List.nil_append]
  exact aL.bind (ih (K:=λ vs R' H'=>K (.agg us.toArray::vs) R' H') hk |>.mono λ us R' H' h=>aL.pure h)
theorem LX{fn:Func}{tmps:Array Value}{n:Nat}{vs:List Value}(ht:cL n st tmps)(h:oa P R H st fn.results.toList vs):aL P B R H (results fn tmps) λ v R' H'=>v=gG vs∧R'=R∧H'=H:=by
 unfold results
 rw [← Array.toArray_toList (xs:=fn.results),List.mapM_toArray]
 refine aL.bind (aL.map (awZ ht h ?_))
 cases vs with
 | nil=>exact aL.pure ⟨rfl,rfl,rfl⟩
 | cons v r=>cases r with
  | nil=>exact aL.pure ⟨rfl,rfl,rfl⟩
  | cons _ _=>exact aL.pure ⟨rfl,rfl,rfl⟩
theorem U.Bi{fr:Frame}{cs:List Frame}{f:FuncId}{n:Nat}{fn:Func}{vs:List Value}(hf:P.funcs[f]? = some fn)(hr:oa P R H st fn.results.toList vs)(hj:ab.J R H (aX (fr.finish (gG vs)) cs)) :
  U ab ⟨f,.normal,none,n,[],fr::cs⟩ R H st (.code .ret::k):=λ tmps ht=>by
 refine Jd.ctl (g':=aX { (aV ⟨f,.normal,none,n,[],fr::cs⟩ tmps (.code .ret::k)) with mode:=.returning } (fr::cs)) rfl (λ w=>by simp [stepG,stepG.exec,aX,aV])
  (ab.step rfl λ w hw=>?_)
 obtain ⟨v,w',R',H',h1,h2,h3,rfl,rfl,rfl⟩:=LX (P:=P) ht hr w hw
 refine ⟨aX (fr.finish (gG vs)) cs,w',seen P f ((results fn tmps).events P w #[]),R',H',?_,λ e he=>h2 e (mem_seen he),h3,hj⟩
 simp [stepG,unwind,doReturn,aX,aV,hf,h1,GStep.after]
theorem U.JO{fr:Frame}{cs:List Frame}{f:FuncId}{n:Nat}{fn:Func}{vs:List Value}(hf:P.funcs[f]? = some fn)(hr:oa P R H st fn.results.toList vs)(hj:ab.J R H (aX (fr.finish (gG vs)) cs)) :
  U ab ⟨f,.normal,none,n,[],fr::cs⟩ R H st []:=λ tmps ht=>by
 refine Jd.ctl (g':=aX { (aV ⟨f,.normal,none,n,[],fr::cs⟩ tmps []) with mode:=.returning } (fr::cs)) rfl (λ w=>by simp [stepG,stepG.exec,aX,aV])
  (ab.step rfl λ w hw=>?_)
 obtain ⟨v,w',R',H',h1,h2,h3,rfl,rfl,rfl⟩:=LX (P:=P) ht hr w hw
 refine ⟨aX (fr.finish (gG vs)) cs,w',seen P f ((results fn tmps).events P w #[]),R',H',?_,λ e he=>h2 e (mem_seen he),h3,hj⟩
 simp [stepG,unwind,doReturn,aX,aV,hf,h1,GStep.after]
end
section
variable {P:Program} {B:Base} {main:Bool}
abbrev mP(α:Type):=av→α→Value→Prop
def mO(ab:Jd P B main)(R:av)(H:ai){α β:Type}(A:mP α)(D:mP β)(v:Value)(f:α→Option β):Prop :=
 ∃ gr first captured,v = .func (.func gr) first captured∧bj P gr∧∀ R' H',aT R R'→(∀ p∈H,p∈H')→∀ x r va,A R' x va→f x=some r→ax ab gr (first++#[va]++captured) R' H' λ v cy dI=>aT R' cy∧dI=H'∧D cy r v
def VI(kd:IntKind):mP Int:=λ _ x v=>v = .int kd x
def VB:mP Bool:=λ _ x v=>v = .bool x
def iJ{α:Type}(C:cx α):mP α:=λ R x v=>∃ es,v = .agg (List.toArray es)∧C R x es
theorem mO.up{ab:Jd P B main}{R R':av}{H H':ai}{α β:Type}{A:mP α}{D:mP β}{v:Value}{f:α→Option β}(h:mO ab R H A D v f)(hR:aT R R')(hH:∀ p∈H,p∈H'):mO ab R' H' A D v f:=by
 obtain ⟨gr,first,captured,h1,h2,h3⟩:=h
 exact ⟨gr,first,captured,h1,h2,λ cy dI FL hH'=>h3 cy dI (hR.trans FL) (λ p hp=>hH' p (hH p hp))⟩
end
end Go.Lg
namespace Go.Lg
open Go.Conc
theorem rq{h l1 l2:ai}(p:List.Sublist l1 l2):List.Sublist (h++l1) (h++l2):=List.Sublist.append (List.Sublist.refl _) p
theorem cK{h l1 l2:ai}(p:List.Sublist l1 l2):List.Sublist l1 (h++l2):=by
 induction h with
 | nil=>exact p
 | cons a h ih=>exact ih.cons a
def mN{α:Type}(f:α→Value)(n:Nat):cx (List α):=λ _ xs es=>xs.length=n∧es=[]++(xs.map f++[])
theorem cz{vs:List Value}{cs:Array Value}(h:vs.length=cs.size):ft cs 0 vs=vs.toArray:=by
 have hs:(ft cs 0 vs).size=cs.size:=H5 _ _ _
 apply Array.ext_getElem?
 intro j
 rw [yJ vs cs 0 j (by omega)]
 by_cases hj:j < vs.length
 ·rw [if_pos (by omega)]; simp
 ·rw [if_neg (by omega)]
  rw [Array.getElem?_eq_none (by omega)]
  simp [Nat.not_lt.1 hj]
section
variable {P:Program} {B:Base} {main:Bool} {ab:Jd P B main} {c:Ctx} {R:av} {H:ai} {st:St} {k:List Item} {o:Oper} {C:av→ai→St→Prop}
theorem U.atg{S Q ρ:Type}{body:S→Option (S ⊕ Q)}{s0:S}{code:Code}{g:Q→Option ρ}{r:ρ}(hM:(Go.Lg.bN body s0).bind g=some r)(I:S→av→ai→St→Prop)(h0:I s0 R H st)(hb:∀ s R H st,I s R H st→∀ x,body s=some x→(∀ s',x=Sum.inl s'→∀ R' H' st',I s' R' H' st'→U ab c R' H' st' (.inLoop code::k))→(∀ p,x=(Sum.inr p)→g p=some r)→U ab c R H st (.code code :: .inLoop code::k)):U ab c R H st (.code (.loop code)::k):=U.bN hM I (λ s R H st hI x hx again out=>hb s R H st hI x hx again (λ _ hp=>out _ hp)) h0
theorem U.lp{S P0 ρ:Type}{body:S→Option (S ⊕ P0)}{s0:S}{code:Code}{f0:P0→Option ρ}{r:ρ}{k0:List Item}(hM:(Go.Lg.bN body s0).bind f0=some r)(I:S→av→ai→St→Prop)(E0:P0→av→ai→St→Prop)(SM:Nat)(_:exitTo SM k=some k0)(h0:I s0 R H st)(tR:∀ p R H st,E0 p R H st→f0 p=some r→U ab c R H st k0)(hb:∀ s R H st,I s R H st→∀ x,body s=some x→(∀ s',x=Sum.inl s'→∀ R' H' st',I s' R' H' st'→U ab c R' H' st' (.inLoop code::k))→(∀ p,x=(Sum.inr p)→∀ R' H' st',E0 p R' H' st'→U ab c R' H' st' k0)→U ab c R H st (.code code :: .inLoop code::k)):U ab c R H st (.code (.loop code)::k):=U.bN hM I (λ s R H st hI x hx again out=>hb s R H st hI x hx again (λ p hp R' H' st' hE=>tR p R' H' st' hE (out _ hp))) h0
theorem U.fH{S P0 Q ρ:Type}{body:S→Option (S ⊕ (P0 ⊕ Q))}{s0:S}{code:Code}{f0:P0→Option ρ}{g:Q→Option ρ}{r:ρ}{k0:List Item}(hM:(Go.Lg.bN body s0).bind (Sum.elim f0 g)=some r)(I:S→av→ai→St→Prop)(E0:P0→av→ai→St→Prop)(SM:Nat)(_:exitTo SM k=some k0)(h0:I s0 R H st)(tR:∀ p R H st,E0 p R H st→f0 p=some r→U ab c R H st k0)(hb:∀ s R H st,I s R H st→∀ x,body s=some x→(∀ s',x=Sum.inl s'→∀ R' H' st',I s' R' H' st'→U ab c R' H' st' (.inLoop code::k))→(∀ p,x=(Sum.inr (Sum.inl p))→∀ R' H' st',E0 p R' H' st'→U ab c R' H' st' k0)→(∀ p,x=(Sum.inr (Sum.inr p))→g p=some r)→U ab c R H st (.code code :: .inLoop code::k)):U ab c R H st (.code (.loop code)::k):=U.bN hM I (λ s R H st hI x hx again out=>hb s R H st hI x hx again (λ p hp R' H' st' hE=>tR p R' H' st' hE (out _ hp)) (λ _ hp=>out _ hp)) h0
theorem U.iU{P0 ρ:Type}{A:Option P0}{it:Item}{f0:P0→Option ρ}{r:ρ}(hM:A.bind f0=some r)(E0:P0→av→ai→St→Prop)(tR:∀ p R H st,E0 p R H st→f0 p=some r→U ab c R H st k)(hb:∀ x,A=some x→(∀ p,x=p→∀ R' H' st',E0 p R' H' st'→U ab c R' H' st' k)→U ab c R H st (it::k)):U ab c R H st (it::k):=by
 obtain ⟨x,h1,h2⟩:=aj hM
 exact hb x h1 (λ p hp R' H' st' hE=>tR p R' H' st' hE (by subst hp; exact h2))
theorem Ox.qM{α β:Type}{A:mP α}{D:mP β}{f:α→Option β}{x y:Operand}{ts:Array TypeId}{v va:Value}{a:α}{r:β}{H0:ai}(h:mO ab R H0 A D v f)
  (an:o.op = .call ⟨.value x,#[y],ts⟩) (hx:bg st x=some v) (hy:bg st y=some va) (hA:A R a va) (hf:f a=some r) (hd:bQ o.dst c.n) (hH:∀ p∈H0,p∈H)
  (hC:∀ w R',aT R R'→D R' r w→∃ st',aF (bT o.dst w st) st'∧C R' H st'):n9 ab c o R H st C:=by
 obtain ⟨gr,first,captured,rfl,he,hk⟩:=h
 refine Ox.fx (vs:=[va]) an rfl hx (by simp [ia,hy]) he rfl hd ((hk R H (aT.refl _) hH a r va hA hf).mono λ w R' H' h=>?_)
 obtain ⟨h1,rfl,h3⟩:=h
 exact hC w R' h1 h3
end
end Go.Lg
namespace Go.Lg
open Go.Conc
def cO{α:Type}(C:cx α)(k:Nat)(R:av)(H:ai)(v:Value)(xs:List α):Prop :=
 ∃ A cap es,v = .slice A xs.length cap∧bc C k R xs es∧xs.length≤cap∧(xs≠[]→∃ b o,A=some ⟨b,o,none⟩∧aM R H b o es)
theorem cO.le{α:Type}{C:cx α}[CM C]{k:Nat}{R R':av}{H:ai}{v:Value}{xs:List α}(h:cO C k R H v xs)(hR:aT R R'):cO C k R' H v xs:=by
 obtain ⟨A,cap,es,h1,h2,h3,h4⟩:=h
 refine ⟨A,cap,es,h1,h2.mono hR,h3,λ hx=>?_⟩
 obtain ⟨b,o,g1,g2⟩:=h4 hx
 exact ⟨b,o,g1,g2.le hR⟩
theorem cO.sub{α:Type}{C:cx α}{k:Nat}{R:av}{H H':ai}{v:Value}{xs:List α}(h:cO C k R H v xs)(hs:∀ p∈H,p∈H'):cO C k R H' v xs:=by
 obtain ⟨A,cap,es,h1,h2,h3,h4⟩:=h
 refine ⟨A,cap,es,h1,h2,h3,λ hx=>?_⟩
 obtain ⟨b,o,g1,g2⟩:=h4 hx
 exact ⟨b,o,g1,g2.sub hs⟩
theorem ae.rd{α:Type}{C:cx α}{k:Nat}{R:av}{H:ai}{v:Value}{xs:List α}(h:ae C k R v xs):cO C k R H v xs:=by
 obtain ⟨A,cap,es,h1,h2,hc,h3⟩:=h
 refine ⟨A,cap,es,h1,h2,hc,λ hx=>?_⟩
 obtain ⟨b,o,arr,e,fz,g1,g2,g3⟩:=h3 hx
 exact ⟨b,o,g1,λ j w hj=>⟨rfl,arr,e,fz,.inl g2,g3 j w hj⟩⟩
theorem bK.rd{α:Type}{C:cx α}{k e:Nat}{R:av}{H:ai}{v:Value}{xs:List α}{Hs:ai}(h:bK C k e R v xs Hs)(hs:∀ p∈Hs,p∈H):cO C k R H v xs:=by
 rcases h with ⟨A,rfl,rfl,rfl⟩ | ⟨b,cap,cs,es,rfl,rfl,h3,h4,h5,h6⟩
 ·exact ⟨A,0,[],rfl,.nil,Nat.le_refl _,λ h=>absurd rfl h⟩
 ·exact ⟨_,cap,es,rfl,h5,h4,λ _=>⟨b,0,rfl,λ j w hj=>⟨rfl,cs,e,(0,0),.inr (hs _ (by simp)),by simpa using h6 j w hj⟩⟩⟩
theorem cO.lit{α:Type}{C:cx α}{k e n b:Nat}{R:av}{H:ai}{ys:List α}{cs:Array Value}{fz:Nat × Nat}(hm:(b,Obj.cells cs e fz)∈H)(hE:bc C k R ys cs.toList)(hn:ys.length=n):cO C k R H (.slice (some ⟨b,0,none⟩) n n) ys:=by
 subst hn
 exact ⟨_,ys.length,cs.toList,rfl,hE,Nat.le_refl _,λ _=>⟨b,0,rfl,λ j w hj=>⟨rfl,cs,e,fz,.inr hm,by simpa using hj⟩⟩⟩
theorem cO.arg{α:Type}{C:cx α}{k:Nat}{R:av}{H:ai}{v:Value}{xs:List α}(h:cO C k R H v xs):kJ C k R H v xs:=by
 obtain ⟨A,cap,es,h1,h2,_,h3⟩:=h
 exact ⟨A,cap,es,h1,h2,h3⟩
theorem cO.elem{P:Program}{α:Type}{K:cx α}{k t e:Nat}{R:av}{H:ai}{v:Value}{xs:List α}{i:Int}{x:α}(h:cO K k R H v xs)(ht:lV P t e k)(hi:idx xs i=some x) :
  ∃ b n es,K R x es∧aM R H b n es∧xB P t v i b n:=by
 obtain ⟨h1,h2,h3⟩:=sI hi
 obtain ⟨A,cap,es,rfl,hE,_,hc⟩:=h
 obtain ⟨b,o,rfl,g2⟩:=hc (by rintro rfl; simp at h3)
 obtain ⟨e1,f1,f2,f3⟩:=hE.at_ _ _ h3
 refine ⟨b,o+i.toNat * k,e1,f1,λ j w hj=>?_,λ kd=>?_⟩
 ·have:=g2 _ _ (f3 j w hj)
  simpa [Nat.add_assoc] using this
 ·have:=Um (P:=P) (b:=b) (m:=o) (cap:=cap) (kd:=kd) ht (j:=i.toNat) (len:=xs.length) (by omega)
  rwa [Int.toNat_of_nonneg h1] at this
theorem pA(a b:Nat × Obj)(l:ai):List.Perm (a::b::l) (b::a::l):=List.Perm.swap _ _ _
section
variable {P:Program} {B:Base} {main:Bool} {ab:Jd P B main} {c:Ctx} {R:av} {H H':ai} {st st':St} {o:Oper} {C:av→ai→St→Prop} {k:List Item}
theorem Ox.SZ{α:Type}{K:cx α}{k:Nat}{x:Operand}{t e:TypeId}{v:Value}{xs:List α}{H0:ai}(an:o.op = .call ⟨.builtin .len,#[x],#[t]⟩)(hx:bg st x=some v)(hl:cO K k R H0 v xs)(ht:P.underlying t=some (.slice e))
  (hd:bQ o.dst c.n) (hs:aF (bT o.dst (.int .i64 (xs.length:Int)) st) st') (h:C R H st'):aW P B c o R H st C:=by
 obtain ⟨A,cap,es,rfl,_⟩:=hl
 exact Ox.len an hx ht hd hs h
theorem U.cut{it:Item}(E:av→ai→St→Prop)(h1:∀ R' H' st',E R' H' st'→U ab c R' H' st' k)(h2:(∀ R' H' st',E R' H' st'→U ab c R' H' st' k)→U ab c R H st (it::k)):U ab c R H st (it::k):=h2 h1
theorem Any.axL{S:Nat→ai}{ops:Array Oper}{n:Nat}{rem ra rb:List Nat}{i j:Nat}{a b:Oper}(ha:ops[i]? = some a)(hb:ops[j]? = some b)(l8:rem.filter (m7 ops rem)=[i,j])(GV:cF ops st a=some true)(GX:cF ops st b=some true)(dA:rem.Nodup)(Ac:rem.erase i=ra)(QC:rem.erase j=rb)
  (h1:n9 ab c a R H st λ R' H' st'=>aT R R'∧(∀ p∈S i,p∈H→p∈H')∧Any ab c S ops k n ra R' H' st')
  (h2:n9 ab c b R H st λ R' H' st'=>aT R R'∧(∀ p∈S j,p∈H→p∈H')∧Any ab c S ops k n rb R' H' st'):Any ab c S ops k (n+1) rem R H st:=by
 subst Ac QC
 refine ⟨dA,λ tmps ht=>.inr ⟨(λ e=>by rw [e] at l8; cases l8),λ _ x hx SI=>?_⟩⟩
 have:x∈rem.filter (m7 ops rem):=List.mem_filter.2 ⟨hx,SI⟩
 rw [l8] at this
 simp only [List.mem_cons,List.not_mem_nil,or_false] at this
 rcases this with rfl | rfl
 ·exact h1.DN ha (jY ht GV) ht
 ·exact h2.DN hb (jY ht GX) ht
theorem Any.L6{S:Nat→ai}{ops:Array Oper}{n:Nat}{rem ra rb rc:List Nat}{i j l:Nat}{a b d:Oper}(ha:ops[i]? = some a)(hb:ops[j]? = some b)(hd:ops[l]? = some d)(l8:rem.filter (m7 ops rem)=[i,j,l])(GV:cF ops st a=some true)(GX:cF ops st b=some true)(hwd:cF ops st d=some true)(dA:rem.Nodup)(Ac:rem.erase i=ra)(QC:rem.erase j=rb)(hrc:rem.erase l=rc)
  (h1:n9 ab c a R H st λ R' H' st'=>aT R R'∧(∀ p∈S i,p∈H→p∈H')∧Any ab c S ops k n ra R' H' st')
  (h2:n9 ab c b R H st λ R' H' st'=>aT R R'∧(∀ p∈S j,p∈H→p∈H')∧Any ab c S ops k n rb R' H' st')
  (h3:n9 ab c d R H st λ R' H' st'=>aT R R'∧(∀ p∈S l,p∈H→p∈H')∧Any ab c S ops k n rc R' H' st'):Any ab c S ops k (n+1) rem R H st:=by
 subst Ac QC hrc
 refine ⟨dA,λ tmps ht=>.inr ⟨(λ e=>by rw [e] at l8; cases l8),λ _ x hx SI=>?_⟩⟩
 have:x∈rem.filter (m7 ops rem):=List.mem_filter.2 ⟨hx,SI⟩
 rw [l8] at this
 simp only [List.mem_cons,List.not_mem_nil,or_false] at this
 rcases this with rfl | rfl | rfl
 ·exact h1.DN ha (jY ht GV) ht
 ·exact h2.DN hb (jY ht GX) ht
 ·exact h3.DN hd (jY ht hwd) ht
end
end Go.Lg
namespace Go.Lg
open Go.Conc
section
variable {P:Program} {d:Nat} {xs ys:Array Value}
inductive EK (P:Program) (d:Nat) (xs ys:Array Value):List Field→Bool→Prop
 | nil:EK P d xs ys [] true
 | cons {f:Field} {rest:List Field} {a b:Value} {r r':Bool}:(f.name == "_")=false→ah P (part f.type xs f.offset) a→ah P (part f.type ys f.offset) b→ah P (Op.equalIn d f.type a b) r→EK P d xs ys rest r'→EK P d xs ys (f::rest) (r && r')
def qi(r:Bool):Option Bool × Unit:=(if r then none else some false,())
theorem axX{fs:List Field}{r:Bool}(h:EK P d xs ys fs r) :
  ah P (forIn fs ((none:Option Bool),()) λ f (_:Option Bool × Unit) =>
      if f.name ≠ "_" then do
       let a ← part f.type xs f.offset
       let b ← part f.type ys f.offset
       let q ← Op.equalIn d f.type a b
       if (!q)=true then pure (ForInStep.done (some false,())) else pure (ForInStep.yield (none,()))
      else pure (ForInStep.yield (none,()))) (qi r):=by
 induction h with
 | nil=>rw [List.forIn_nil]; exact ah.pure _
 | @cons f rest a b r r' hn ha hb hq _ ih =>
  have vI:f.name ≠ "_":=by simpa using hn
  rw [List.forIn_cons]
  simp only [vI,ne_eq,not_false_iff,if_true,bind_assoc]
  refine ah.bind ha (ah.bind hb (ah.bind hq ?_))
  cases r with
  | false=>simp only [Bool.not_false,if_true,pure_bind,Bool.false_and]; exact ah.pure _
  | true =>
   simp only [Bool.not_true,Bool.false_eq_true,if_false,pure_bind,Bool.true_and]
   simpa only [ne_eq] using ih
theorem Ul{t:TypeId}{fields:Array Field}{r:Bool}(hu:P.underlying t=some (.struct fields))(cJ:P.stoodInHeld t=false)(h:EK P d xs ys fields.toList r):ah P (Op.equalIn (d+1) t (.agg xs) (.agg ys)) r:=by
 rw [Op.equalIn]
 refine ah.bind (ah.underlying hu) ?_
 dsimp only
 refine ah.bind ah.program ?_
 simp only [cJ,Bool.false_eq_true,if_false]
 rw [← Array.forIn_toList]
 refine ah.bind (axX h) ?_
 cases r <;> exact ah.pure _
theorem Bt{t:TypeId}{kd:IntKind}{a b:Int}(hu:P.underlying t=some (.int kd)):ah P (Op.equalIn (d+1) t (.int kd a) (.int kd b)) (a == b):=by
 rw [Op.equalIn]
 refine ah.bind (ah.underlying hu) ?_
 simp only [if_true]
 exact ah.pure _
theorem Mk{t:TypeId}{a b:Bool}(hu:P.underlying t=some .bool):ah P (Op.equalIn (d+1) t (.bool a) (.bool b)) (a == b):=by
 rw [Op.equalIn]
 exact ah.bind (ah.underlying hu) (ah.pure _)
inductive EJ (P:Program) (d:Nat) (elem:TypeId) (n:Nat) (xs ys:Array Value):List Nat→Bool→Prop
 | nil:EJ P d elem n xs ys [] true
 | cons {i:Nat} {rest:List Nat} {a b:Value} {r r':Bool}:ah P (part elem xs (i * n)) a→ah P (part elem ys (i * n)) b→ah P (Op.equalIn d elem a b) r→EJ P d elem n xs ys rest r'→EJ P d elem n xs ys (i::rest) (r && r')
theorem axW{elem:TypeId}{n:Nat}{is:List Nat}{r:Bool}(h:EJ P d elem n xs ys is r) :
  ah P (forIn is ((none:Option Bool),()) λ i (_:Option Bool × Unit)=>do
      let a ← part elem xs (i * n)
      let b ← part elem ys (i * n)
      let q ← Op.equalIn d elem a b
      if (!q)=true then pure (ForInStep.done (some false,())) else pure (ForInStep.yield (none,()))) (qi r):=by
 induction h with
 | nil=>rw [List.forIn_nil]; exact ah.pure _
 | @cons i rest a b r r' ha hb hq _ ih =>
  rw [List.forIn_cons]
  simp only [bind_assoc]
  refine ah.bind ha (ah.bind hb (ah.bind hq ?_))
  cases r with
  | false=>simp only [Bool.not_false,if_true,pure_bind,Bool.false_and]; exact ah.pure _
  | true =>
   simp only [Bool.not_true,Bool.false_eq_true,if_false,pure_bind,Bool.true_and]
   exact ih
theorem abV{n len:Nat}{t elem:TypeId}{r:Bool}(hu:P.underlying t=some (.array len elem))(hs:ah P (sizeOf elem) n)(h:EJ P d elem n xs ys (List.range len) r):ah P (Op.equalIn (d+1) t (.agg xs) (.agg ys)) r:=by
 rw [Op.equalIn]
 refine ah.bind (ah.underlying hu) ?_
 dsimp only
 refine ah.bind hs ?_
 rw [Std.Legacy.Range.forIn_eq_forIn_range']
 simp only [Std.Legacy.Range.size,Nat.sub_zero,Nat.add_sub_cancel,Nat.div_one]
 rw [← List.range_eq_range']
 refine ah.bind (axW h) ?_
 cases r <;> exact ah.pure _
end
end Go.Lg
namespace Go.Lg
open Go.Conc
def gx(s:ByteArray):List Int:=s.data.toList.map λ b=>(b.toNat:Int)
def s8(s:ByteArray)(i:Int):Option Int:=idx (gx s) i
section
variable {P:Program} {B:Base} {main:Bool} {ab:Jd P B main} {c:Ctx} {R:av} {H H':ai} {st st':St} {o:Oper} {C:av→ai→St→Prop} {k:List Item}
theorem Ox.KU{x y:Operand}{t:TypeId}{s:ByteArray}{kd:IntKind}{i z:Int}(an:o.op = .index t x y)(hx:bg st x=some (.string s))(hy:bg st y=some (.int kd i))(ht:P.underlying t=some .string)(hz:s8 s i=some z)
  (hd:bQ o.dst c.n) (hs:aF (bT o.dst (.int .u8 z) st) st') (h:C R H st'):aW P B c o R H st C :=
 Ox.kR (s:=λ ρ=>Instr.index t (ρ x) (ρ y)) (by rw [an]; rfl) hd (λ ρ=>by simp only [execOp,an]) (λ ρ ba=>by
  rw [ba x _ hx,ba y _ hy]
  obtain ⟨h1,h2,h3⟩:=sI hz
  unfold gx at h3
  rw [List.getElem?_map] at h3
  obtain ⟨b,hb,rfl⟩:=Option.map_eq_some_iff.1 h3
  unfold Instr.index
  refine ah.bind (a:=(kd,i)) (ah.pure _) (ah.bind (ah.underlying ht) ?_)
  have e:(if 0≤i then s[i.toNat]? else none)=some b:=by
   rw [if_pos h1]
   have fQ:s.data[i.toNat]? = some b:=by simpa using hb
   rw [← fQ]
   rfl
  simp only [e]
  exact ah.pure _) hs h
def VD(P:Program)(t:TypeId)(z:Array Value):Prop:=iK P t z∧∃ n e m,P.underlying t=some (.array n e)∧ah P (sizeOf e) m
theorem Ox.Jx{t:TypeId}{z:Array Value}(an:o.op = .build t #[])(ht:VD P t z)
  (hd:bQ o.dst c.n) (hs:aF (bT o.dst (.agg z) st) st') (h:C R H st'):aW P B c o R H st C :=
 Ox.kR (s:=λ _=>Instr.build t #[]) (by rw [an]; rfl) hd (λ ρ=>by simp [execOp,an]) (λ ρ ba=>by
  obtain ⟨⟨z0,hz,rfl⟩,n,e,m,h1,h2⟩:=ht
  unfold Instr.build
  exact ah.bind hz (ah.bind (ah.underlying h1) (ah.bind h2 (ah.pure _)))) hs h
def B5(P:Program)(t _:Nat)(v:Value)(len l h:Int)(v':Value):Prop :=
 ∀ (ρ:Operand→Value) (st:St) (x:Operand) (lo hi:Option Operand),Knows st ρ→ρ x=v→Hk st lo=some l→F9 st len.toNat hi=some h→ah P (Instr.sliceAt t (ρ x) (lo.map ρ) (hi.map ρ) none) v'
theorem cO.cut{α:Type}{K:cx α}{k t e:Nat}{xs ys:List α}{v:Value}{l h:Int}{H0:ai}(hS:cO K k R H0 v xs)(ht:lV P t e k)(hc:od xs l h=some ys):∃ v',cO K k R H0 v' ys∧B5 P t k v (xs.length:Int) l h v':=by
 obtain ⟨h1,h2,h3,rfl⟩:=Fy hc
 obtain ⟨A,cap,es,rfl,hE,tT,hm⟩:=hS
 refine ⟨(.slice (if cap=l.toNat then A else A.map (·.add (l.toNat * k))) (h.toNat - l.toNat) (cap - l.toNat)),?_,?_⟩
 ·have tU:((xs.take h.toNat).drop l.toNat).length=h.toNat - l.toNat:=by
   simp only [List.length_drop,List.length_take]
   omega
  refine ⟨(if cap=l.toNat then A else A.map (·.add (l.toNat * k))),cap - l.toNat,(es.take (h.toNat * k)).drop (l.toNat * k),by rw [tU],hE.take.drop,by rw [tU]; omega,λ eB=>?_⟩
  have bJ:l.toNat < h.toNat:=by
   apply Classical.byContradiction
   intro hn
   apply eB
   apply List.eq_nil_of_length_eq_zero
   simp only [List.length_drop,List.length_take]
   omega
  obtain ⟨b,o',rfl,g2⟩:=hm (by rintro rfl; simp at h3; omega)
  refine ⟨b,o'+l.toNat * k,?_,λ j w hj=>?_⟩
  ·rw [if_neg (by omega)]; simp [pK]
  ·rw [List.getElem?_drop,List.getElem?_take] at hj
   split at hj
   ·have:=g2 _ _ hj
    simpa [Nat.add_assoc] using this
   ·cases hj
 ·intro ρ st x lo hi ba hx hl hh
  rw [Int.toNat_natCast] at hh
  rw [hx]
  unfold Instr.sliceAt
  refine ah.bind (ah.underlying ht.1) ?_
  unfold Instr.slice
  refine ah.bind (ah.underlying ht.1) (ah.bind (Mj ba hl hh ⟨h1,h2,h3⟩ tT) (ah.bind ht.2 (ah.pure _)))
theorem ae.cut{α:Type}{K:cx α}{k t e:Nat}{xs ys:List α}{v:Value}{l h:Int}(hS:ae K k R v xs)(ht:lV P t e k)(hc:od xs l h=some ys):∃ v',ae K k R v' ys∧B5 P t k v (xs.length:Int) l h v':=by
 obtain ⟨h1,h2,h3,rfl⟩:=Fy hc
 obtain ⟨A,cap,es,rfl,hE,tT,hm⟩:=hS
 refine ⟨(.slice (if cap=l.toNat then A else A.map (·.add (l.toNat * k))) (h.toNat - l.toNat) (cap - l.toNat)),?_,?_⟩
 ·have tU:((xs.take h.toNat).drop l.toNat).length=h.toNat - l.toNat:=by
   simp only [List.length_drop,List.length_take]
   omega
  refine ⟨(if cap=l.toNat then A else A.map (·.add (l.toNat * k))),cap - l.toNat,(es.take (h.toNat * k)).drop (l.toNat * k),by rw [tU],hE.take.drop,by rw [tU]; omega,λ eB=>?_⟩
  have bJ:l.toNat < h.toNat:=by
   apply Classical.byContradiction
   intro hn
   apply eB
   apply List.eq_nil_of_length_eq_zero
   simp only [List.length_drop,List.length_take]
   omega
  obtain ⟨b,o',arr,e',fz,rfl,g2,g3⟩:=hm (by rintro rfl; simp at h3; omega)
  refine ⟨b,o'+l.toNat * k,arr,e',fz,?_,g2,λ j w hj=>?_⟩
  ·rw [if_neg (by omega)]; simp [pK]
  ·rw [List.getElem?_drop,List.getElem?_take] at hj
   split at hj
   ·have:=g3 _ _ hj
    simpa [Nat.add_assoc] using this
   ·cases hj
 ·intro ρ st x lo hi ba hx hl hh
  rw [Int.toNat_natCast] at hh
  rw [hx]
  unfold Instr.sliceAt
  refine ah.bind (ah.underlying ht.1) ?_
  unfold Instr.slice
  refine ah.bind (ah.underlying ht.1) (ah.bind (Mj ba hl hh ⟨h1,h2,h3⟩ tT) (ah.bind ht.2 (ah.pure _)))
theorem Ox.Fz{x:Operand}{t k:Nat}{lo hi:Option Operand}{v v':Value}{len l h:Int}(an:o.op = .slice t x lo hi none)(hx:bg st x=some v)(hl:Hk st lo=some l)(hh:F9 st len.toNat hi=some h)(hc:B5 P t k v len l h v')(hd:bQ o.dst c.n)
  (hs:aF (bT o.dst v' st) st') (hC:C R H st'):aW P B c o R H st C :=
 Ox.kR (s:=λ ρ=>Instr.sliceAt t (ρ x) (lo.map ρ) (hi.map ρ) none) (by rw [an]; rfl) hd (λ ρ=>by simp only [execOp,an]; rfl) (λ ρ ba=>hc ρ st x lo hi ba (ba x _ hx) hl hh) hs hC
theorem bK.OO{α:Type}{K:cx α}{k t e:Nat}{v:Value}{xs:List α}{Hs:ai}{i:Int}{x:α}(h:bK K k e R v xs Hs)(ht:lV P t e k)(hi:idx xs i=some x) :
  ∃ b cs es,K R x es∧Hs=[(b,.cells cs e (0,0))]∧aM R Hs b (i.toNat * k) es∧(∀ (j:Nat) (w:Value),es[j]? = some w→cs[i.toNat * k+j]? = some w)∧xB P t v i b (i.toNat * k)∧es.length=k∧i.toNat * k+k≤cs.size ∧
   ∀ x' rV,K R x' rV→rV.length=k→bK K k e R v (xs.set i.toNat x') [(b,.cells (ft cs (i.toNat * k) rV) e (0,0))]:=by
 obtain ⟨h1,h2,h3⟩:=sI hi
 rcases h with ⟨A,rfl,rfl,rfl⟩ | ⟨b,cap,cs,es,rfl,rfl,g3,g4,g5,g6⟩
 ·simp at h3
 obtain ⟨e1,f1,f2,f3⟩:=g5.at_ _ _ h3
 have bJ:i.toNat < xs.length:=(List.getElem?_eq_some_iff.1 h3).1
 have fp:i.toNat * k+k≤xs.length * k:=by
  calc i.toNat * k+k=(i.toNat+1) * k:=by rw [Nat.add_mul,Nat.one_mul]
   _≤xs.length * k:=Nat.mul_le_mul_right k bJ
 have pg:xs.length * k≤cs.size:=by rw [g3]; exact Nat.mul_le_mul_right k g4
 refine ⟨b,cs,e1,f1,rfl,λ j w hj=>⟨rfl,cs,e,(0,0),.inr (by simp),g6 _ _ (f3 j w hj)⟩,λ j w hj=>g6 _ _ (f3 j w hj),λ kd=>?_,f2,by omega,λ x' rV ub hl'=>?_⟩
 ·have:=Um (P:=P) (b:=b) (m:=0) (cap:=cap) (kd:=kd) ht (j:=i.toNat) (len:=xs.length) bJ
  rw [Int.toNat_of_nonneg h1] at this
  simpa using this
 ·refine .inr ⟨b,cap,_,(es.take (i.toNat * k))++(rV++es.drop (i.toNat * k+k)),by rw [List.length_set],rfl,by rw [H5]; exact g3,by rw [List.length_set]; exact g4,?_,?_⟩
  ·have lb:=g5.len
   refine ⟨?_,λ j y hy=>?_⟩
   ·simp only [List.length_append,List.length_take,List.length_drop,List.length_set,hl',lb]
    omega
   ·rw [List.getElem?_set] at hy
    split at hy
    ·rename_i fX
     subst fX
     cases hy
     refine ⟨rV,ub,hl',λ a w hw=>?_⟩
     have ha:=(List.getElem?_eq_some_iff.1 hw).1
     rw [List.getElem?_append_right (by simp only [List.length_take]; omega)]
     simp only [List.length_take,lb]
     rw [show i.toNat * k+a - min (i.toNat * k) (xs.length * k)=a by omega,List.getElem?_append_left ha]
     exact hw
    ·rename_i fX
     obtain ⟨e2,q1,q2,q3⟩:=g5.at_ _ _ hy
     refine ⟨e2,q1,q2,λ a w hw=>?_⟩
     have ha:=(List.getElem?_eq_some_iff.1 hw).1
     rw [q2] at ha
     have hold:=q3 a w hw
     rcases Nat.lt_or_ge j i.toNat with Y9 | r9
     ·have:j * k+k≤i.toNat * k:=by
       calc j * k+k=(j+1) * k:=by rw [Nat.add_mul,Nat.one_mul]
        _≤i.toNat * k:=Nat.mul_le_mul_right k Y9
      rw [List.getElem?_append_left (by simp only [List.length_take,lb]; omega),List.getElem?_take,if_pos (by omega)]
      exact hold
     ·have:i.toNat * k+k≤j * k:=by
       calc i.toNat * k+k=(i.toNat+1) * k:=by rw [Nat.add_mul,Nat.one_mul]
        _≤j * k:=Nat.mul_le_mul_right k (by omega)
      rw [List.getElem?_append_right (by simp only [List.length_take]; omega),List.getElem?_append_right (by simp only [List.length_take,lb,hl']; omega),List.getElem?_drop]
      simp only [List.length_take,lb,hl']
      rw [show i.toNat * k+k+(j * k+a - min (i.toNat * k) (xs.length * k) - k)=j * k+a by omega]
      exact hold
  ·intro j w hj
   have lb:=g5.len
   rw [yJ rV cs (i.toNat * k) j (by rw [hl']; omega)]
   rw [List.getElem?_append] at hj
   simp only [List.length_take,lb] at hj
   split at hj
   ·rename_i Y9
    rw [List.getElem?_take] at hj
    split at hj
    ·rw [if_neg (by omega)]
     exact g6 _ _ hj
    ·cases hj
   ·rw [List.getElem?_append] at hj
    split at hj
    ·rename_i h5 h6
     rw [if_pos (by omega),← hj]
     congr 1
     omega
    ·rename_i h5 h6
     rw [hl'] at h6
     rw [if_neg (by rw [hl']; omega)]
     rw [List.getElem?_drop,hl'] at hj
     have:=g6 _ _ hj
     rwa [show i.toNat * k+k+(j - min (i.toNat * k) (xs.length * k) - k)=j by omega] at this
theorem TO:∀ (vs ws:List Value) (cs:Array Value) (o:Nat),ft cs o (vs++ws)=ft (ft cs o vs) (o+vs.length) ws
 | [],ws,cs,o=>by simp [ft]
 | v::vs,ws,cs,o=>by
  simp only [List.cons_append,ft,List.length_cons]
  rw [TO vs ws]
  congr 1
  omega
theorem TP:∀ (vs:List Value) (cs:Array Value) (o:Nat),(∀ j w,vs[j]? = some w→cs[o+j]? = some w)→ft cs o vs=cs
 | [],cs,o,_=>rfl
 | v::vs,cs,o,h=>by
  have h0:cs[o]? = some v:=h 0 v rfl
  have bJ:=(Array.getElem?_eq_some_iff.1 h0).1
  have e:cs.setIfInBounds o v=cs:=by
   apply Array.ext_getElem?
   intro j
   by_cases hj:o=j
   ·subst hj; rw [Array.getElem?_setIfInBounds_self_of_lt bJ,h0]
   ·rw [Array.getElem?_setIfInBounds_ne hj]
  simp only [ft,e]
  exact TP vs cs (o+1) λ j w hj=>by
   have:=h (j+1) w (by simpa using hj)
   rwa [show o+(j+1)=o+1+j by omega] at this
theorem Ox.T7{α:Type}{K:cx α}{k e t b j n:Nat}{x y:Operand}{G:ai→ai}{v w:Value}{xs:List α}{i:Int}{x':α}{cs:Array Value}{pre mid post vs:List Value}(hG:kK G)
  (an:o.op = .store t x y) (hx:bg st x=some (.pointer (some ⟨b,i.toNat * k+j,none⟩))) (hy:bg st y=some w) (hw:w.cells.toList=vs) (ht:ah P (sizeOf t) n) (hn:vs.length=n) (h1:∀ u∈vs,u.oneCell'=true)
  (hc:∀ (j:Nat) (w:Value),(pre++(mid++post))[j]? = some w→cs[i.toNat * k+j]? = some w) (hj:pre.length=j) (hm:mid.length=n) (hk:(pre++(mid++post)).length=k) (fp:i.toNat * k+k≤cs.size)
  (hO:∀ x' rV,K R x' rV→rV.length=k→bK K k e R v (xs.set i.toNat x') [(b,.cells (ft cs (i.toNat * k) rV) e (0,0))]) (hK:K R x' (pre++(vs++post)))
  (hd:o.dst=none) (Af:aF st st') (h:∀ dG,bK K k e R v (xs.set i.toNat x') dG→C R (G dG) st'):aW P B c o R (G [(b,.cells cs e (0,0))]) st C:=by
 have lh:ft cs (i.toNat * k+j) vs=ft cs (i.toNat * k) (pre++(vs++post)):=by
  rw [TO,TP pre cs _ (λ a u ha=>hc a u (by rw [List.getElem?_append_left (List.getElem?_eq_some_iff.1 ha).1]; exact ha)),TO,hj,hn]
  rw [TP post]
  intro a u ha
  have h2:=hc (j+n+a) u (by
   rw [List.getElem?_append_right (by omega),List.getElem?_append_right (by omega)]
   rw [show j+n+a - pre.length - mid.length=a by omega]
   exact ha)
  have bJ:=(Array.getElem?_eq_some_iff.1 h2).1
  rw [yJ vs cs (i.toNat * k+j) _ (by rw [hn]; have:=hk; simp only [List.length_append] at this; omega),if_neg (by omega)]
  rwa [show i.toNat * k+(j+n+a)=i.toNat * k+j+n+a by omega] at h2
 have hlen:(pre++(vs++post)).length=k:=by
  simp only [List.length_append] at hk ⊢
  omega
 have J6:=hO x' _ hK hlen
 rw [← lh] at J6
 refine Ox.Ln (s:=λ ρ=>Instr.storeAt t (ρ x) (ρ y)) (by rw [an]; rfl) hd (λ ρ=>by simp only [execOp,an]) Af (λ ρ ba=>?_)
 rw [ba x _ hx,ba y _ hy]
 simp only [Instr.storeAt,Instr.sureAddr]
 refine ah.dM (ah.pure _) ?_
 have aoJ:w.cells.size=n:=by rw [← hn,← hw]; simp
 refine aL.storeVar (cs:=cs) (e:=e) ht aoJ (by rw [hw]; exact h1) (by simp only [List.length_append] at hk; omega) ?_ (h _ J6)
 rw [hw]
 exact hG.set
def qz{α:Type}(xs ys:List α):List α:=ys.take xs.length++xs.drop ys.length
theorem Cl{α:Type}{xs ys:List α}{n:Nat}(h:xs.length=n):(qz xs ys).length=n:=by
 simp only [qz,List.length_append,List.length_take,List.length_drop]; omega
theorem Ox.aw2{x:Operand}{t len e n b off:Nat}(an:o.op = .slice t x none none none)(hx:bg st x=some (.pointer (some ⟨b,off,none⟩)))(ht:rK P t len e n)
  (hd:bQ o.dst c.n) (hs:aF (bT o.dst (.slice (some ⟨b,off,none⟩) len len) st) st') (h:C R H st'):aW P B c o R H st C :=
 Ox.kR (s:=λ ρ=>Instr.sliceAt t (ρ x) none none none) (by rw [an]; rfl) hd (λ ρ=>by simp only [execOp,an]; rfl) (λ ρ ba=>by
  rw [ba x _ hx]
  unfold Instr.sliceAt
  refine ah.bind (ah.underlying ht.1) ?_
  dsimp only
  unfold Instr.sliceBounds
  refine ah.bind (a:=(⟨b,off,none⟩:Addr)) (ah.pure _) (ah.bind (a:=((0:Nat),len,len)) (ah.bind (a:=len) (ah.pure _) (ah.bind (a:=len) (ah.pure _) (ah.bind (a:=(0:Nat)) (ah.pure _) (ah.pure _)))) (ah.bind ht.2 ?_))
  dsimp only
  rw [Nat.zero_mul,pK]
  simp only [Nat.add_zero,ite_self,Nat.sub_zero]
  exact ah.pure _) hs h
theorem Ox.agq{x y:Operand}{t e t2 b off n T:Nat}{dx:TypeDesc}{v:Value}{xs ys:List Int}{pre post:List Value}(an:o.op = .call ⟨.builtin .copy,#[x,y],#[t,t2]⟩)(hx:bg st x=some (.slice (some ⟨b,off,none⟩) n n))(hy:bg st y=some v)(ht:lV P t e 1)(_:P.underlying t2=some dx)
  (hR:cO (CI .i64) 1 R H v ys) (hl:xs.length=n) (hs:eP H b (.cells ((pre++(xs.map (Value.int .i64)++post)).toArray) T (0,0)) (.cells ((pre++((qz xs ys).map (Value.int .i64)++post)).toArray) T (0,0)) H') (CH:pre.length=off)
  (hd:bQ o.dst c.n) (Af:aF (bT o.dst (goInt (Nat.min ys.length n)) st) st') (h:C R H' st'):aW P B c o R H st C:=by
 refine ⟨by rw [an]; rfl,hd,λ ρ ba=>?_⟩
 simp only [execOp,an]
 refine ah.dM (a:=⟨.builtin .copy #[t,t2] o.type (#[x,y].map λ | .const _=>true | _=>false),#[x,y].map ρ⟩) (ah.pure _) ?_
 simp only [invoke,builtin]
 have e1:(#[x,y].map ρ)=#[.slice (some ⟨b,off,none⟩) n n,v]:=by simp [ba x _ hx,ba y _ hy]
 rw [e1]
 obtain ⟨A,cap,es,rfl,hE,tT,hm⟩:=hR
 have l5:es=ys.map (Value.int .i64):=by
  apply List.ext_getElem?
  intro j
  rw [List.getElem?_map]
  rcases Nat.lt_or_ge j ys.length with hj | hj
  ·obtain ⟨q,hq1,hq2,hq3⟩:=hE.at_ j _ (List.getElem?_eq_getElem hj)
   have am1:q=[.int .i64 ys[j]]:=hq1
   subst am1
   have:=hq3 0 _ rfl
   rw [Nat.mul_one,Nat.add_zero] at this
   rw [this,List.getElem?_eq_getElem hj]
   rfl
  ·rw [List.getElem?_eq_none (by rw [hE.len]; omega),List.getElem?_eq_none hj]
   rfl
 subst l5
 have lh:ft ((pre++(xs.map (Value.int .i64)++post)).toArray) off ((ys.map (Value.int .i64)).take n)=(pre++((qz xs ys).map (Value.int .i64)++post)).toArray:=by
  subst CH
  apply Array.ext_getElem?
  intro j
  rw [yJ _ _ _ _ (by simp; omega)]
  simp only [List.length_take,List.length_map,qz,List.map_append,List.map_take,List.map_drop,List.getElem?_toArray,hl]
  by_cases h1:pre.length≤j∧j < pre.length+Min.min n ys.length
  ·rw [if_pos h1,List.getElem?_append_right h1.1,List.getElem?_append_left (by simp; omega),List.getElem?_append_left (by simp; omega)]
  ·rw [if_neg h1]
   rcases Nat.lt_or_ge j pre.length with h2 | h2
   ·rw [List.getElem?_append_left h2,List.getElem?_append_left h2]
   ·rw [List.getElem?_append_right h2,List.getElem?_append_right h2]
    rcases Nat.lt_or_ge (j - pre.length) n with h3 | h3
    ·rw [List.getElem?_append_left (by simp; omega),List.getElem?_append_left (by simp; omega),List.getElem?_append_right (by simp; omega),List.getElem?_drop]
     simp only [List.length_take,List.length_map]
     congr 1
     omega
    ·rw [List.getElem?_append_right (by simp; omega),List.getElem?_append_right (by simp; omega)]
     simp only [List.length_append,List.length_take,List.length_map,List.length_drop]
     congr 1
     omega
 have fin:∀ K:Unit→av→ai→Prop,K () R H'→aL P B R H (storeCells ⟨b,off,none⟩ ((ys.map (Value.int .i64)).take n)) K:=λ K hK=>by
  refine aL.given λ dA=>aL.Ig _ ((pre++(xs.map (Value.int .i64)++post)).toArray) off 0 H H' (λ u hu=>?_) (by subst CH; simp; omega) (by rw [Nat.add_zero,lh]; exact hs) dA hK
  obtain ⟨z,_,rfl⟩:=List.mem_map.1 (List.mem_of_mem_take hu)
  rfl
 refine aL.bind ?_
 unfold Builtin.copy_
 refine ah.dM (ah.underlying ht.1) ?_
 dsimp only
 refine ah.dM (a:=ys.length) (ah.pure _) (ah.dM ht.2 ?_)
 have last:aL P B R H (do storeCells ⟨b,off,none⟩ ((ys.map (Value.int .i64)).take n); pure (goInt (Nat.min ys.length n))) λ a R' H'=>aL P B R' H' (pure (Next.value a)) λ nx R' H'=>∃ v,(nx = .value v∨(nx = .skip∧v=undef))∧∃ st',aF (bT o.dst v st) st'∧C R' H' st' :=
  aL.bind (fin _ (aL.pure (aL.pure ⟨_,.inl rfl,st',Af,h⟩)))
 have apx:(ys.map (Value.int .i64)).take n=(ys.map (Value.int .i64)).take (Nat.min ys.length n * 1):=by
  rw [Nat.mul_one]
  rcases Nat.le_total ys.length n with h1 | h1
  ·rw [show Nat.min ys.length n=ys.length from Nat.min_eq_left h1,List.take_of_length_le (by simpa using h1),List.take_of_length_le (by simp)]
  ·rw [show Nat.min ys.length n=n from Nat.min_eq_right h1]
 cases A with
 | none =>
  have hy0:ys=[]:=by
   apply Classical.byContradiction
   intro hn
   obtain ⟨b',o',h1,_⟩:=hm hn
   cases h1
  subst hy0
  simp only [Builtin.firstCells]
  refine ah.dM (a:=#[]) (ah.pure _) ?_
  simpa using last
 | some A =>
  have Y1:aM R H A.block A.off ((ys.map (Value.int .i64)).take n)∧(ys≠[]→A=⟨A.block,A.off,none⟩):=by
   by_cases hn:ys=[]
   ·subst hn; exact ⟨λ j u hj=>by simp at hj,λ h=>absurd rfl h⟩
   ·obtain ⟨b',o',h1,h2⟩:=hm hn
    cases h1
    refine ⟨λ j u hj=>?_,λ _=>rfl⟩
    rw [List.getElem?_take] at hj
    split at hj
    ·exact h2 j u hj
    ·cases hj
  simp only [Builtin.firstCells,loadCells]
  by_cases hn:ys=[]
  ·subst hn
   simp only [List.length_nil,Nat.zero_mul,show Nat.min 0 n=0 from Nat.zero_min n]
   refine ah.dM (a:=#[]) (ah.pure _) ?_
   simpa using last
  ·rw [Y1.2 hn]
   have tU:((ys.map (Value.int .i64)).take n).length=Nat.min ys.length n * 1:=by rw [apx]; simp [Nat.min_le_left]
   refine aL.bind ?_
   rw [← tU]
   refine aL.loadCellsFrom _ 0 #[] (by simpa using Y1.1) ?_
   simpa using last
end
end Go.Lg
namespace Go.Lg
open Go.Conc
section
variable {P:Program} {B:Base} {main:Bool} {ab:Jd P B main} {c:Ctx} {R:av} {H:ai} {st:St} {k:List Item}
theorem aL.getLoop{l:Nat}{r:Loop}{K:Loop→av→ai→Prop}(h:(l,Obj.loop r)∈H)(hk:K r R H):aL P B R H (Instr.getLoop l) K:=by
 unfold Instr.getLoop
 exact aL.bind (aL.getObj rfl (.inr h) (aL.pure hk))
theorem eP.at_{b:Nat}{o o':Obj}{T:ai}:∀ {Hs:ai},eP (Hs++(b,o)::T) b o o' (Hs++(b,o')::T)
 | []=>.here
 | _::_=>.there eP.at_
def E3(ab:Jd P B main)(v:Value)(args:Array Value)(R:av)(H:ai)(Post:Value→av→ai→Prop):Prop :=
 ∃ l r,v = .func (.yield l) #[] #[]∧(l,Obj.loop r)∈H∧r.params.size=args.size ∧
  ∀ fr cs,(∀ w R' H',Post w R' H'→ab.J R' H' (aX (fr.finish w) cs)) →
   ab.J R H (aX (Frame.round l r.fn ((r.params.zip args).foldl (λ tmps (t,a)=>tmps.setIfInBounds t a) r.tmps) r.assign r.body .normal) (fr::cs))
theorem E3.mono{v:Value}{args:Array Value}{Post EX:Value→av→ai→Prop}(h:E3 ab v args R H Post)(hp:∀ w R' H',Post w R' H'→EX w R' H'):E3 ab v args R H EX:=by
 obtain ⟨l,r,h1,h2,h3,h4⟩:=h
 exact ⟨l,r,h1,h2,h3,λ fr cs hk=>h4 fr cs λ w R' H' hw=>hk w R' H' (hp _ _ _ hw)⟩
theorem afI{fr:Frame}{cs:List Frame}{s:Sem Next}{w w':World}{l:Nat}{f:FuncId}{tmps:Array Value}{assign body:Code}(hk:fr.kind ≠ .early)(hr:s.run P w = .ok (.round l f tmps assign body) w') :
  stepG.apply P true fr cs none s w = .go (aX (Frame.round l f tmps assign body .normal) (fr::cs)) w' (seen P fr.fn (s.events P w #[])):=by
 have dy:(fr.kind == CallKind.early)=false:=by simpa using hk
 simp [stepG.apply,hr,aX,dy,GStep.after]
theorem U.abC{ops:Array Oper}{i:Nat}{rest:List Nat}{o:Oper}{ca:Call}{x:Operand}{v:Value}{vs:List Value}(ho:ops[i]? = some o)(hw:cF ops st o=some true)(hk:(c.kind == CallKind.early)=false)
  (an:o.op = .call ca) (hc:ca.callee = .value x) (hx:bg st x=some v) (ha:ia st ca.args.toList=some vs) (kV:bQ o.dst c.n)
  (h:E3 ab v vs.toArray R H λ w R' H'=>∃ st',aF (bT o.dst w st) st'∧U ab c R' H' st' (.inRegion ops rest::k)) :
  U ab c R H st (.inRegion ops (i::rest)::k):=by
 intro tmps ht
 obtain ⟨l,r,rfl,hl,fp,hj⟩:=h
 have iS:=ht.knows c (.inRegion ops (i::rest)::k)
 have hd:mc o.op=false:=by rw [an]; rfl
 have hs:aL P B R H (execOp (aV c tmps (.inRegion ops (i::rest)::k)).eval o) λ nx R' H'=>nx = .round l r.fn ((r.params.zip vs.toArray).foldl (λ tmps (t,a)=>tmps.setIfInBounds t a) r.tmps) r.assign r.body∧R'=R∧H'=H:=by
  simp only [execOp,an,resolve,hc,iS x _ hx,Deferred.ofValue]
  have e:ca.args.map (aV c tmps (.inRegion ops (i::rest)::k)).eval=vs.toArray:=by apply Array.ext'; simpa using zC iS _ _ ha
  refine ah.dM (a:=⟨.fn (.yield l) #[],#[]++vs.toArray⟩) (by rw [e]; exact ah.pure _) ?_
  simp only [invoke,Instr.yield]
  refine aL.bind (aL.getLoop hl ?_)
  simp only [Array.empty_append,fp,ne_eq,not_true_eq_false,if_false]
  exact aL.pure ⟨rfl,rfl,rfl⟩
 refine ab.step rfl λ w pn=>?_
 obtain ⟨nx,w',R',H',h1,h2,h3,rfl,rfl,rfl⟩:=hs w pn
 refine ⟨_,w',seen P c.fn ((execOp (aV c tmps (.inRegion ops (i::rest)::k)).eval o).events P w #[]),R',H',?_,λ e he=>h2 e (mem_seen he),h3,hj (aV c tmps (.inRegion ops (i::rest)::k)) c.cs λ u cy dI hp=>?_⟩
 ·rw [oN ho (jY ht hw) hd]
  exact afI (by simpa [aV] using hk) h1
 ·obtain ⟨st',hs',jq⟩:=hp
  rw [pa ho]
  exact jq _ ((ht.put u kV).sub hs')
structure lq (ab:Jd P B main) (R:av) {α S:Type} (A:mP α) (v:Value) (y:α→S→Option (S × Bool)) (Inv:S→av→ai→Prop):Prop where
 fn:∃ l,v = .func (.yield l) #[] #[]
 mono:∀ {s:S} {R1 R2:av} {Hy:ai},aT R R1→aT R1 R2→Inv s R1 Hy→Inv s R2 Hy
 call:∀ (Hf:ai) {R':av} {Hy:ai} {s:S} {x:α} {va:Value} {z:S × Bool},aT R R'→Inv s R' Hy→A R' x va→y x s=some z →
  E3 ab v #[va] R' (Hf++Hy) λ w cy dI=>aT R' cy∧w = .bool z.2∧∃ xz,Inv z.1 cy xz∧dI=Hf++xz
theorem lq.up{R':av}{α S:Type}{A:mP α}{v:Value}{y:α→S→Option (S × Bool)}{Inv:S→av→ai→Prop}(h:lq ab R A v y Inv)(hR:aT R R'):lq ab R' A v y Inv :=
 ⟨h.fn,λ h1 h2=>h.mono (hR.trans h1) h2,λ Hf=>λ h1=>h.call Hf (hR.trans h1)⟩
theorem lq.cells{α S:Type}{A:mP α}{v:Value}{y:α→S→Option (S × Bool)}{Inv:S→av→ai→Prop}(h:lq ab R A v y Inv):v.cells=#[v]:=by
 obtain ⟨l,rfl⟩:=h.fn; rfl
def fB{α S O:Type}(body:α→S→Option (S ⊕ O))(x:α):S ⊕ O→Option ((S ⊕ O) × Bool)
 | .inl s=>(body x s).map λ z=>(z,z.isLeft)
 | .inr _=>none
def Shape(I:av→ai→ai→Prop):Prop:=∀ R T H,I R T H→∃ Hs,H=Hs++T∧∀ R' T',aT R R'→I R' T' (Hs++T')
theorem awX{l:Nat}{jump:Option Code}{r:Loop}{Hs T:ai}:aL P B R (Hs++(l,.loop r)::T) (Instr.endRound l jump) λ v R' H'=>v = .bool jump.isNone∧R'=R∧H'=Hs++(l,.loop { r with state:=if jump.isNone then .ready else .done,pending:=jump })::T:=by
 unfold Instr.endRound
 exact aL.bind (aL.getLoop (by simp) (aL.bind (aL.setObj rfl rfl eP.at_ (aL.pure ⟨rfl,rfl,rfl⟩))))
theorem awW{l:Nat}{r:Loop}{Hs T:ai}(hb:(r.state == .busy)=false):aL P B R (Hs++(l,.loop r)::T) (Instr.endLoop l) λ v R' H'=>v=r.pending∧R'=R∧H'=Hs++(l,.loop { r with state:=.exhausted })::T:=by
 unfold Instr.endLoop
 refine aL.bind (aL.getLoop (r:=r) (by simp) ?_)
 simp only [hb]
 exact aL.bind (aL.setObj rfl rfl eP.at_ (aL.pure ⟨rfl,rfl,rfl⟩))
theorem awV{l:Nat}{r:Loop}{H':ai}(hs:eP H l (.loop r) (.loop { r with state:=.busy }) H')(hr:r.state = .ready):aL P B R H (do Instr.beginRound l; pure Next.skip) λ v cy dI=>v = .skip∧cy=R∧dI=H':=by
 unfold Instr.beginRound
 refine aL.bind (aL.bind (aL.getLoop hs.mem (aL.bind (aL.setObj rfl rfl hs ?_))))
 simp only [hr]
 exact aL.pure (aL.pure ⟨rfl,rfl,rfl⟩)
theorem U.beginRound{l:Nat}{r:Loop}{H':ai}(jR:c.ro=some l)(hk:(c.kind == CallKind.early)=false)(hs:eP H l (.loop r) (.loop { r with state:=.busy }) H')(hr:r.state = .ready)(h:U ab c R H' st k):U ab c R H st (.beginRound::k):=λ tmps ht=>by
 refine ab.step rfl λ w hw=>?_
 obtain ⟨v,w',R',dI,h1,h2,h3,rfl,rfl,rfl⟩:=awV (P:=P) hs hr w hw
 refine ⟨aX (aV c tmps k) c.cs,w',seen P c.fn ((do Instr.beginRound l; pure Next.skip:Sem Next).events P w #[]),R',dI,?_,λ e he=>h2 e (mem_seen he),h3,h tmps ht⟩
 have e:=N1 (P:=P) (fr:=aV c tmps (.beginRound::k)) (cs:=c.cs) (by simpa [aV] using hk) h1
 simpa [stepG,stepG.exec,aX,aV,jR,Frame.finish] using e
def Leaves(todo:List Item)(jump:Option Code):Prop :=
 (todo=[]∧jump=none)∨(∃ k',todo = .code .ret::k'∧jump=some .ret)∨(∃ id k',todo = .code (.exit id)::k'∧exitTo id k'=none∧jump=some (.exit id))
theorem ZW{l f:Nat}{n:Nat}{cs:List Frame}{fr:Frame}{tmps:Array Value}{todo:List Item}{jump:Option Code}{r:Loop}{Hs T:ai}(hl:Leaves todo jump)
  (h:ab.J R (Hs++(l,.loop { r with state:=if jump.isNone then .ready else .done,pending:=jump })::T) (aX (fr.finish (.bool jump.isNone)) cs)) :
  ab.J R (Hs++(l,.loop r)::T) (aX (aV ⟨f,.normal,some l,n,[],fr::cs⟩ tmps todo) (fr::cs)):=by
 refine ab.step rfl λ w hw=>?_
 obtain ⟨v,w',R',H',h1,h2,h3,rfl,rfl,rfl⟩:=awX (P:=P) (jump:=jump) w hw
 refine ⟨aX (fr.finish (.bool jump.isNone)) cs,w',seen P f ((Instr.endRound l jump).events P w #[]),R',_,?_,λ e he=>h2 e (mem_seen he),h3,h⟩
 rcases hl with ⟨rfl,rfl⟩ | ⟨k',rfl,rfl⟩ | ⟨id,k',rfl,dy,rfl⟩
 ·simp at h1; simp [stepG,stepG.exec,aV,h1,doReturn,GStep.after,aX]
 ·simp at h1; simp [stepG,stepG.exec,aV,h1,doReturn,GStep.after,aX]
 ·simp at h1; simp [stepG,stepG.exec,aV,h1,dy,doReturn,GStep.after,aX]
def sL(fn:FuncId)(tmps:Array Value)(t:Tmp)(assign body:Code)(d:Nat):Loop:={ state:=.ready,pending:=none,fn,tmps,params:=#[t],assign,body,defers:=d }
theorem TN{p:Nat × Obj}{Hf Hs D:ai}:List.Perm (Hs++p::(Hf++D)) (Hf++(Hs++p::D)):=by
 have h1:List.Perm (Hs++p::(Hf++D)) (p::(Hs++(Hf++D))):=List.perm_middle
 have h2:List.Perm (Hf++(Hs++p::D)) (p::(Hf++(Hs++D))):=by
  rw [← List.append_assoc,← List.append_assoc]
  exact List.perm_middle
 refine h1.trans (List.Perm.trans (List.Perm.cons _ ?_) h2.symm)
 rw [← List.append_assoc,← List.append_assoc]
 exact List.perm_append_comm.append_right D
section
variable {α S O:Type} {A:mP α} {body:α→S→Option (S ⊕ O)} {t:Tmp} {assign jh:Code}
 (I:S→av→ai→ai→Prop) (E:O→av→ai→ai→Prop) (jc:O→Code)
def RInv(R:av)(l:Nat)(r:Loop)(D:ai):S ⊕ O→av→ai→Prop
 | .inl s,R',Hy=>aT R R'∧I s R' ((l,.loop r)::D) Hy
 | .inr o,R',Hy=>aT R R'∧E o R' ((l,.loop { r with state:=.done,pending:=some (jc o) })::D) Hy
def VW(ab:Jd P B main)(c:Ctx)(R:av)(H:ai)(st:St)(A:mP α)(body:α→S→Option (S ⊕ O))(t:Tmp)(assign jh:Code):Prop :=
 ∀ (va:Value) (x:α) (s:S) (z:S ⊕ O) (R':av) (T H':ai) (l:Nat) (ld:Loop) (cs:List Frame),aT R R'→List.Sublist H T→A R' x va→I s R' ((l,.loop ld)::T) H'→ld.state = .ready→body x s=some z →
  (∀ s' cy dI ng,z = .inl s'→aT R' cy→I s' cy ((l,.loop { ld with state:=.busy })::T) dI→U ab ⟨c.fn,.normal,some l,c.n,[],cs⟩ cy dI ng []) →
  (∀ o cy dI ng yp,z = .inr o→aT R' cy→E o cy ((l,.loop { ld with state:=.busy })::T) dI→Leaves (.code (jc o)::yp) (some (jc o))→U ab ⟨c.fn,.normal,some l,c.n,[],cs⟩ cy dI ng (.code (jc o)::yp)) →
  U ab ⟨c.fn,.normal,some l,c.n,[],cs⟩ R' H' ((t,va)::st) [.code assign,.beginRound,.code jh]
variable {I E jc}
theorem akn{D:ai}{l:Nat}{d:Nat}{tmps:Array Value}(rY:∀ s,Shape (I s))(zM:∀ o,Shape (E o))(ht:cL c.n st tmps)(hd:Nat.blt t c.n=true)(hH:List.Sublist H D)
  (hb:VW I E jc ab c R H st A body t assign jh) :
  lq ab R A (.func (.yield l) #[] #[]) (fB body) (RInv I E jc R l (sL c.fn tmps t assign jh d) D) where
 fn:=⟨l,rfl⟩
 mono:=by
  intro s R1 R2 Hy h1 h2 hI
  cases s with
  | inl s =>
   obtain ⟨hr,hI⟩:=hI
   obtain ⟨Hs,rfl,h⟩:=rY s _ _ _ hI
   exact ⟨hr.trans h2,h _ _ h2⟩
  | inr o =>
   obtain ⟨hr,hI⟩:=hI
   obtain ⟨Hs,rfl,h⟩:=zM o _ _ _ hI
   exact ⟨hr.trans h2,h _ _ h2⟩
 call:=by
  intro Hf R' Hy s x va z hR hI hA hy
  cases s with
  | inr o=>cases hy
  | inl s =>
   simp only [fB,Option.map_eq_some_iff] at hy
   obtain ⟨z',hz,rfl⟩:=hy
   obtain ⟨hr,hI⟩:=hI
   obtain ⟨Hs,rfl,bh⟩:=rY s _ _ _ hI
   refine ⟨l,sL c.fn tmps t assign jh d,rfl,by simp,rfl,λ fr cs hk=>?_⟩
   refine J.perm (H':=Hs++(l,.loop (sL c.fn tmps t assign jh d))::(Hf++D)) TN ?_
   have QD:cL c.n ((t,va)::st) (((sL c.fn tmps t assign jh d).params.zip #[va]).foldl (λ tmps (t,a)=>tmps.setIfInBounds t a) (sL c.fn tmps t assign jh d).tmps):=by
    have:=ht.put (dst:=some t) va hd
    simpa [sL,bT,fg] using this
   refine hb va x s z' R' (Hf++D) _ l (sL c.fn tmps t assign jh d) (fr::cs) hR (hH.trans (List.sublist_append_right _ _)) hA (bh R' _ (aT.refl _)) rfl hz (λ s' cy dI ng SJ qQ ajR=>?_) (λ o cy dI ng yp SJ qQ ajQ hl=>?_) _ QD
   ·subst SJ
    obtain ⟨dG,rfl,Ad⟩:=rY s' _ _ _ ajR
    intro aZ _
    refine ZW (jump:=none) (.inl ⟨rfl,rfl⟩) ?_
    refine J.perm TN.symm ?_
    exact hk _ _ _ ⟨qQ,rfl,_,⟨hR.trans qQ,Ad cy _ (aT.refl _)⟩,rfl⟩
   ·subst SJ
    obtain ⟨dG,rfl,Ad⟩:=zM o _ _ _ ajQ
    intro aZ _
    refine ZW (jump:=some (jc o)) hl ?_
    refine J.perm TN.symm ?_
    exact hk _ _ _ ⟨qQ,rfl,_,⟨hR.trans qQ,Ad cy _ (aT.refl _)⟩,rfl⟩
theorem awY{fn:FuncId}{tmps:Array Value}{ps:Array Tmp}{assign jh:Code}:aL P B R H (Instr.enterLoop fn tmps ps assign jh none) λ q R' H'=>R'=R∧∃ r,q.2=[⟨.collected r,#[]⟩]∧H'=(q.1,.loop ⟨.ready,none,fn,tmps,ps,assign,jh,r⟩)::(r,.deferred (some []))::H:=by
 unfold Instr.enterLoop
 refine aL.bind (aL.new λ r _ _=>aL.bind (aL.pure ?_))
 refine aL.bind (aL.new λ l _ _=>aL.pure ?_)
 exact ⟨rfl,r,rfl,rfl⟩
theorem U.ah7{x:Operand}{gr:FuncId}{first cap:Array Value}(hx:bg st x=some (.func (.func gr) first cap))(he:bj P gr)(hk:(c.kind == CallKind.early)=false){K:Nat × List Deferred→av→ai→Prop}
  (Kl:∀ tmps,aL P B R H (Instr.enterLoop c.fn tmps #[t] assign jh c.ro) λ q R' H'=>R'=R∧∃ d Hm,H'=(q.1,.loop (sL c.fn tmps t assign jh d))::Hm∧K q R Hm)
  (h:∀ l mark d Hm tmps,cL c.n st tmps→K (l,mark) R Hm→ab.J R ((l,.loop (sL c.fn tmps t assign jh d))::Hm) (aX (Frame.enter P gr (first++#[.func (.yield l) #[] #[]]++cap) .normal) (aV ⟨c.fn,c.kind,c.ro,c.n,mark++c.defers,c.cs⟩ tmps (.inRangeFunc l::k)::c.cs))) :
  U ab c R H st (.code (.rangeFunc x #[t] assign jh)::k):=by
 intro tmps ht
 refine ab.step rfl λ w hw=>?_
 obtain ⟨⟨l,mark⟩,w',R',H',h1,h2,h3,rfl,d,Hm,rfl,hK⟩:=Kl tmps w hw
 have iS:=ht.knows ⟨c.fn,c.kind,c.ro,c.n,mark++c.defers,c.cs⟩ (.inRangeFunc l::k)
 have hv:ah P (do let d ← resolve (aV ⟨c.fn,c.kind,c.ro,c.n,mark++c.defers,c.cs⟩ tmps (.inRangeFunc l::k)).eval { callee:=.value x,args:=#[.const (.func (.yield l) #[] #[])],argTypes:=#[] } 0; invoke d.target d.args) (.enter gr (first++#[.func (.yield l) #[] #[]]++cap)):=by
  obtain ⟨fn,e1,e2,e3⟩:=he.ex
  simp only [resolve,iS x _ hx,Deferred.ofValue]
  refine ah.bind (a:=⟨.fn (.func gr) cap,first++#[.func (.yield l) #[] #[]]⟩) (by simpa [Frame.eval] using ah.pure _) ?_
  simp only [invoke]
  exact Bs e1 e2 e3
 have hj:=h l mark d Hm tmps ht hK
 refine ⟨_,w',seen P c.fn ((Instr.enterLoop c.fn tmps #[t] assign jh c.ro).events P w #[]),R',_,?_,λ e F5=>h2 e (mem_seen F5),h3,hj⟩
 have GU:=hv w'
 simp only [aV] at GU
 have dy:(c.kind == CallKind.early)=false:=hk
 simp [stepG,stepG.exec,stepG.apply,aX,aV,h1,GU.1,GU.2,GStep.after,dy,seen]
theorem U.XM{l:Nat}{r:Loop}{Hs T:ai}{pend:Option Code}(hb:(r.state == .busy)=false)(hp:r.pending=pend)(h:U ab c R (Hs++T) st ((pend.map Item.code).toList++k)):U ab c R (Hs++(l,.loop r)::T) st (.endRangeFunc l::k):=λ tmps ht=>by
 subst hp
 refine ab.step rfl λ w hw=>?_
 obtain ⟨v,w',R',H',h1,h2,h3,rfl,rfl,rfl⟩:=awW (P:=P) hb w hw
 refine ⟨aX (aV c tmps ((r.pending.map Item.code).toList++k)) c.cs,w',seen P c.fn ((Instr.endLoop l).events P w #[]),R',_,?_,λ e he=>h2 e (mem_seen he),h3,J.drop ?_ (h tmps ht)⟩
 ·simp [stepG,stepG.exec,aX,aV,h1,GStep.after]
 ·exact (List.sublist_cons_self _ _).append_left _
theorem ajw{tmps:Array Value}{l:Nat}{w:Value}:(aV c tmps (.inRangeFunc l::k)).finish w=aV c tmps (.endRangeFunc l::k):=rfl
theorem U.abk{ρ:Type}{rh:(α→(S ⊕ O)→Option ((S ⊕ O) × Bool))→(S ⊕ O)→Option (S ⊕ O)}{cont:S ⊕ O→Option ρ}{s0:S}{rr:ρ}{x:Operand}{gr:FuncId}{first cap:Array Value}{H1:ai}
  (hM:(rh (fB body) (.inl s0)).bind cont=some rr) (hx:bg st x=some (.func (.func gr) first cap)) (he:bj P gr) (hk:(c.kind == CallKind.early)=false) (jR:c.ro=none) (hd:Nat.blt t c.n=true)
  (I:S→av→ai→ai→Prop) (E:O→av→ai→ai→Prop) (jc:O→Code) (rY:∀ s,Shape (I s)) (zM:∀ o,Shape (E o))
  (Gm:∀ v Inv Hy z,lq ab R A v (fB body) Inv→Inv (.inl s0) R Hy→rh (fB body) (.inl s0)=some z→ax ab gr (first++#[v]++cap) R Hy λ _ R' H'=>aT R R'∧Inv z R' H')
  (h0:I s0 R H H1)
  (ha:∀ r s R' H',aT R R'→I s R' ((r,.deferred (some []))::H) H'→cont (.inl s)=some rr→U ab ⟨c.fn,c.kind,none,c.n,⟨.collected r,#[]⟩::c.defers,c.cs⟩ R' H' st k)
  (hz:∀ r o R' H',aT R R'→E o R' ((r,.deferred (some []))::H) H'→cont (.inr o)=some rr→U ab ⟨c.fn,c.kind,none,c.n,⟨.collected r,#[]⟩::c.defers,c.cs⟩ R' H' st (.code (jc o)::k))
  (hb:VW I E jc ab c R H st A body t assign jh) :
  U ab c R H1 st (.code (.rangeFunc x #[t] assign jh)::k):=by
 obtain ⟨z,hm,hc⟩:=aj hM
 refine U.ah7 hx he hk (K:=λ q R' Hm=>∃ r,q.2=[⟨.collected r,#[]⟩]∧Hm=(r,.deferred (some []))::H1) (λ tmps=>?_) ?_
 ·rw [jR]
  exact awY.mono λ q R' H' ⟨h1,r,h2,h3⟩=>⟨h1,r,_,h3,r,h2,rfl⟩
 rintro l mark d Hm tmps ht ⟨r,Ql,rfl⟩
 have Ql:mark=[⟨.collected r,#[]⟩]:=Ql
 subst Ql
 obtain ⟨Hs,rfl,bh⟩:=rY s0 _ _ _ h0
 have aly:lq ab R A (.func (.yield l) #[] #[]) (fB body) (RInv I E jc R l (sL c.fn tmps t assign jh d) ((r,.deferred (some []))::H)):=akn rY zM ht hd (List.sublist_cons_self _ _) hb
 refine J.perm (H':=Hs++(l,.loop (sL c.fn tmps t assign jh d))::(r,.deferred (some []))::H) ?_ ?_
 ·exact List.perm_middle.trans (List.Perm.cons _ List.perm_middle)
 refine Gm _ _ _ z aly ⟨aT.refl R,bh R _ (aT.refl R)⟩ hm _ _ λ v R' H' hv=>?_
 rw [ajw]
 obtain ⟨hR,hI⟩:=hv
 cases z with
 | inl s =>
  obtain ⟨_,hI⟩:=hI
  obtain ⟨dG,rfl,Ad⟩:=rY s _ _ _ hI
  rw [jR]
  exact U.XM (c:=⟨c.fn,c.kind,none,c.n,⟨.collected r,#[]⟩::c.defers,c.cs⟩) rfl rfl (ha r s R' _ hR (Ad R' _ (aT.refl R')) hc) tmps ht
 | inr o =>
  obtain ⟨_,hI⟩:=hI
  obtain ⟨dG,rfl,Ad⟩:=zM o _ _ _ hI
  rw [jR]
  exact U.XM (c:=⟨c.fn,c.kind,none,c.n,⟨.collected r,#[]⟩::c.defers,c.cs⟩) rfl rfl (hz r o R' _ hR (Ad R' _ (aT.refl R')) hc) tmps ht
theorem U.TR{ρ:Type}{body:α→S→Option (S ⊕ Empty)}(rh:(α→(S ⊕ Empty)→Option ((S ⊕ Empty) × Bool))→(S ⊕ Empty)→Option (S ⊕ Empty)){f:S→Option ρ}{g:Empty→Option ρ}{s0:S}{rr:ρ}{x:Operand}{gr:FuncId}{first cap:Array Value}{H1:ai}
  (hM:(rh (fB body) (.inl s0)).bind (Sum.elim f g)=some rr) (hx:bg st x=some (.func (.func gr) first cap)) (he:bj P gr) (hk:(c.kind == CallKind.early)=false) (jR:c.ro=none) (hd:Nat.blt t c.n=true)
  (I:S→av→ai→ai→Prop) (rY:∀ s,Shape (I s))
  (Gm:∀ v Inv Hy z,lq ab R A v (fB body) Inv→Inv (.inl s0) R Hy→rh (fB body) (.inl s0)=some z→ax ab gr (first++#[v]++cap) R Hy λ _ R' H'=>aT R R'∧Inv z R' H')
  (h0:I s0 R H H1)
  (ha:∀ r s R' H',aT R R'→I s R' ((r,.deferred (some []))::H) H'→f s=some rr→U ab ⟨c.fn,c.kind,none,c.n,⟨.collected r,#[]⟩::c.defers,c.cs⟩ R' H' st k)
  (hb:∀ (va:Value) (x:α) (s:S) (R':av) (T H':ai) (l:Nat) (ld:Loop) (cs:List Frame),aT R R'→List.Sublist H T→A R' x va→I s R' ((l,.loop ld)::T) H'→ld.state = .ready→∀ z,body x s=some z →
   (∀ s',z = .inl s'→∀ cy dI ng,aT R' cy→I s' cy ((l,.loop { ld with state:=.busy })::T) dI→U ab ⟨c.fn,.normal,some l,c.n,[],cs⟩ cy dI ng []) →
   U ab ⟨c.fn,.normal,some l,c.n,[],cs⟩ R' H' ((t,va)::st) [.code assign,.beginRound,.code jh]) :
  U ab c R H1 st (.code (.rangeFunc x #[t] assign jh)::k) :=
 U.abk (rh:=rh) hM hx he hk jR hd I (λ o=>o.elim) (λ o=>o.elim) rY (λ o=>o.elim) Gm h0 ha (λ _ o=>o.elim)
  (λ va x s z R' T H' l ld cs h1 h2 h3 h4 h5 h6 h7 _=>hb va x s R' T H' l ld cs h1 h2 h3 h4 h5 z h6 λ s' hz cy dI ng=>h7 s' cy dI ng hz)
theorem U.LS{ρ:Type}(rh:(α→(S ⊕ O)→Option ((S ⊕ O) × Bool))→(S ⊕ O)→Option (S ⊕ O)){f:S→Option ρ}{g:O→Option ρ}{s0:S}{rr:ρ}{x:Operand}{gr:FuncId}{first cap:Array Value}{H1:ai}(jc:Code)
  (hM:(rh (fB body) (.inl s0)).bind (Sum.elim f g)=some rr) (hx:bg st x=some (.func (.func gr) first cap)) (he:bj P gr) (hk:(c.kind == CallKind.early)=false) (jR:c.ro=none) (hd:Nat.blt t c.n=true)
  (I:S→av→ai→ai→Prop) (E:O→av→ai→ai→Prop) (rY:∀ s,Shape (I s)) (zM:∀ s,Shape (E s))
  (Gm:∀ v Inv Hy z,lq ab R A v (fB body) Inv→Inv (.inl s0) R Hy→rh (fB body) (.inl s0)=some z→ax ab gr (first++#[v]++cap) R Hy λ _ R' H'=>aT R R'∧Inv z R' H')
  (h0:I s0 R H H1)
  (ha:∀ r s R' H',aT R R'→I s R' ((r,.deferred (some []))::H) H'→f s=some rr→U ab ⟨c.fn,c.kind,none,c.n,⟨.collected r,#[]⟩::c.defers,c.cs⟩ R' H' st k)
  (hz:∀ r o R' H',aT R R'→E o R' ((r,.deferred (some []))::H) H'→g o=some rr→U ab ⟨c.fn,c.kind,none,c.n,⟨.collected r,#[]⟩::c.defers,c.cs⟩ R' H' st (.code jc::k))
  (hb:∀ (va:Value) (x:α) (s:S) (R':av) (T H':ai) (l:Nat) (ld:Loop) (cs:List Frame),aT R R'→List.Sublist H T→A R' x va→I s R' ((l,.loop ld)::T) H'→ld.state = .ready→∀ z,body x s=some z →
   (∀ s',z = .inl s'→∀ cy dI ng,aT R' cy→I s' cy ((l,.loop { ld with state:=.busy })::T) dI→U ab ⟨c.fn,.normal,some l,c.n,[],cs⟩ cy dI ng []) →
   (∀ o,z = .inr o→∀ cy dI ng yp,aT R' cy→E o cy ((l,.loop { ld with state:=.busy })::T) dI→Leaves (.code jc::yp) (some jc)→U ab ⟨c.fn,.normal,some l,c.n,[],cs⟩ cy dI ng (.code jc::yp)) →
   U ab ⟨c.fn,.normal,some l,c.n,[],cs⟩ R' H' ((t,va)::st) [.code assign,.beginRound,.code jh]) :
  U ab c R H1 st (.code (.rangeFunc x #[t] assign jh)::k) :=
 U.abk (rh:=rh) hM hx he hk jR hd I E (λ _=>jc) rY zM Gm h0 ha hz
  (λ va x s z R' T H' l ld cs h1 h2 h3 h4 h5 h6 h7 h8=>hb va x s R' T H' l ld cs h1 h2 h3 h4 h5 z h6 (λ s' hz cy dI ng=>h7 s' cy dI ng hz) (λ o hz cy dI ng yp=>h8 o cy dI ng yp hz))
theorem aw0{r:Nat}{H':ai}(hs:eP H r (.deferred (some [])) (.deferred none) H'):aL P B R H (Instr.takeDeferred r) λ v cy dI=>v=[]∧cy=R∧dI=H':=by
 unfold Instr.takeDeferred
 exact aL.bind (aL.getObj rfl (.inr hs.mem) (aL.bind (aL.setObj rfl rfl hs (aL.pure ⟨rfl,rfl,rfl⟩))))
theorem awz{fr:Frame}{cs:List Frame}{f:FuncId}{n r:Nat}{H':ai}{tmps:Array Value}{todo:List Item}(hs:eP H r (.deferred (some [])) (.deferred none) H')
  (h:ab.J R H' (aX { (aV ⟨f,.normal,none,n,[],fr::cs⟩ tmps todo) with mode:=.returning } (fr::cs))) :
  ab.J R H (aX { (aV ⟨f,.normal,none,n,[⟨.collected r,#[]⟩],fr::cs⟩ tmps todo) with mode:=.returning } (fr::cs)):=by
 refine ab.step rfl λ w hw=>?_
 obtain ⟨v,w',R',H',h1,h2,h3,rfl,rfl,rfl⟩:=aw0 (P:=P) hs w hw
 refine ⟨_,w',seen P f ((Instr.takeDeferred r).events P w #[]),R',_,?_,λ e he=>h2 e (mem_seen he),h3,h⟩
 simp [stepG,unwind,aX,aV,h1,GStep.after]
theorem awy{fr:Frame}{cs:List Frame}{f:FuncId}{n:Nat}{fn:Func}{vs:List Value}{tmps:Array Value}{todo:List Item}(hf:P.funcs[f]? = some fn)(ht:cL n st tmps)(hr:oa P R H st fn.results.toList vs)(hj:ab.J R H (aX (fr.finish (gG vs)) cs)) :
  ab.J R H (aX { (aV ⟨f,.normal,none,n,[],fr::cs⟩ tmps todo) with mode:=.returning } (fr::cs)):=by
 refine ab.step rfl λ w hw=>?_
 obtain ⟨v,w',R',H',h1,h2,h3,rfl,rfl,rfl⟩:=LX (P:=P) ht hr w hw
 refine ⟨aX (fr.finish (gG vs)) cs,w',seen P f ((results fn tmps).events P w #[]),R',H',?_,λ e he=>h2 e (mem_seen he),h3,hj⟩
 simp [stepG,unwind,doReturn,aX,aV,hf,h1,GStep.after]
theorem U.sU{fr:Frame}{cs:List Frame}{f:FuncId}{n r:Nat}{H':ai}{fn:Func}{vs:List Value}(hs:eP H r (.deferred (some [])) (.deferred none) H')(hf:P.funcs[f]? = some fn)(hr:oa P R H' st fn.results.toList vs)(hj:ab.J R H' (aX (fr.finish (gG vs)) cs)) :
  U ab ⟨f,.normal,none,n,[⟨.collected r,#[]⟩],fr::cs⟩ R H st (.code .ret::k):=λ tmps ht=>by
 refine Jd.ctl (g':=aX { (aV ⟨f,.normal,none,n,[⟨.collected r,#[]⟩],fr::cs⟩ tmps (.code .ret::k)) with mode:=.returning } (fr::cs)) rfl (λ w=>by simp [stepG,stepG.exec,aX,aV]) ?_
 exact awz hs (awy hf ht hr hj)
end
theorem ax.hole{f:FuncId}{args:Array Value}{G:ai→ai}{Hs:ai}(hG:kK G){Q:Value→av→ai→Prop}(h:ax ab f args R (Hs++G []) λ v R' H'=>∃ dG,Q v R' dG∧H'=dG++G []) :
  ax ab f args R (G Hs) λ v R' H'=>∃ dG,Q v R' dG∧H'=G dG:=by
 obtain ⟨A,D,hG⟩:=hG
 have key:∀ X:ai,List.Perm (X++G []) (G X):=λ X=>by
  rw [hG,hG,List.nil_append,← List.append_assoc,← List.append_assoc]
  exact List.perm_append_comm.append_right D
 intro fr cs hk
 refine J.perm (key Hs) (h fr cs λ v R' H' hv=>?_)
 obtain ⟨dG,hq,rfl⟩:=hv
 exact J.perm (key dG).symm (hk v R' _ ⟨dG,hq,rfl⟩)
theorem Ox.tJ{x y:Operand}{t u e:TypeId}{o:Oper}{C:av→ai→St→Prop}{A:Option Addr}{n cap:Nat}{b:Bool}{st':St}(an:o.op = .binOp .eql t x y u)(hx:bg st x=some (.slice A n cap))(hy:bg st y=some (.slice none 0 0))(ht:P.underlying t=some (.slice e))(hb:A.isNone=b)
  (hd:bQ o.dst c.n) (hs:aF (bT o.dst (.bool b) st) st') (h:C R H st'):aW P B c o R H st C :=
 Ox.kR (s:=λ ρ=>do eqGuard .eql t x y (ρ x) (ρ y); binOp .eql t (ρ x) (ρ y)) (by rw [an]; rfl) hd (λ ρ=>by simp only [execOp,an]) (λ ρ ba=>by
  rw [ba x _ hx,ba y _ hy]
  refine ah.bind (a:=()) (ah.pure _) ?_
  simp only [binOp]
  refine ah.bind (a:=b) ?_ (ah.pure _)
  unfold Op.equal Op.maxDepth Op.equalIn
  refine ah.bind (ah.underlying ht) ?_
  cases A with
  | none=>subst hb; exact ah.pure _
  | some a=>subst hb; exact ah.pure _) hs h
theorem cO.HU{α:Type}{K:cx α}{k:Nat}{v:Value}{xs:List α}(h:cO K k R H v xs):(∃ cap,v = .slice none 0 cap∧xs=[])∨∃ a n cap,v = .slice (some a) n cap:=by
 obtain ⟨A,cap,es,rfl,h2,h3,h4⟩:=h
 cases A with
 | some a=>exact .inr ⟨a,_,cap,rfl⟩
 | none =>
  cases xs with
  | nil=>exact .inl ⟨cap,rfl,rfl⟩
  | cons x xs =>
   obtain ⟨b,o,g,_⟩:=h4 (by simp)
   cases g
theorem Ox.AA{x y:Operand}{t e len:Nat}{cs:Array Value}{v:Value}{kd:IntKind}{i:Int}{o:Oper}{C:av→ai→St→Prop}{st':St}(an:o.op = .index t x y)(hx:bg st x=some (.agg cs))(hy:bg st y=some (.int kd i))(ht:rK P t len e 1)(he:ah P (isAgg e) false)(hi:0≤i∧i < len)(hv:cs[i.toNat * 1]? = some v)
  (hd:bQ o.dst c.n) (hs:aF (bT o.dst v st) st') (h:C R H st'):aW P B c o R H st C :=
 Ox.kR (s:=λ ρ=>Instr.index t (ρ x) (ρ y)) (by rw [an]; rfl) hd (λ ρ=>by simp only [execOp,an]) (λ ρ ba=>by
  rw [ba x _ hx,ba y _ hy]
  unfold Instr.index
  refine ah.bind (a:=(kd,i)) (ah.pure _) (ah.bind (ah.underlying ht.1) ?_)
  simp only [hi,and_self,if_true]
  refine ah.bind ht.2 ?_
  unfold part
  refine ah.bind he ?_
  simp only [hv]
  exact ah.pure _) hs h
theorem U.pb{todo:List Item}{b:Nat}{cs:Array Value}{e:TypeId}{fz:Nat × Nat}(G:ai→ai)(hG:kK G){H2:ai}(h2:G []=H2)(h:∀ R',aT R R'→aM R' [] b 0 cs.toList→U ab c R' H2 st todo):U ab c R (G [(b,.cells cs e fz)]) st todo:=by
 obtain ⟨A,D,hG⟩:=hG
 refine U.perm (H':=(b,.cells cs e fz)::(A++D)) ?_ (U.freeze λ R' hR hb=>?_)
 ·rw [hG]; exact List.perm_middle.symm
 ·have e2:A++D=H2:=by rw [← h2,hG]; rfl
  rw [e2]
  exact h R' hR (aM.known (n:=cs.toList.length) hb (by rw [List.drop_zero,List.take_length]))
def zz(ab:Jd P B main)(R:av){α S:Type}(A:mP α)(v:Value)(q:(α→S→Option (S × Bool))→S→Option S):Prop :=
 ∃ gr first cap,v = .func (.func gr) first cap∧bj P gr∧∀ R',aT R R'→∀ (w:Value) (y:α→S→Option (S × Bool)) (Inv:S→av→ai→Prop) (Hy:ai) (s z:S),lq ab R' A w y Inv→Inv s R' Hy→q y s=some z →
  ax ab gr (first++#[w]++cap) R' Hy λ _ cy H'=>aT R' cy∧Inv z cy H'
theorem zz.mono{R':av}{α S:Type}{A:mP α}{v:Value}{q:(α→S→Option (S × Bool))→S→Option S}(h:zz ab R A v q)(hR:aT R R'):zz ab R' A v q:=by
 obtain ⟨gr,first,cap,h1,h2,h3⟩:=h
 exact ⟨gr,first,cap,h1,h2,λ cy FL=>h3 cy (hR.trans FL)⟩
theorem lq.frame{α S:Type}{A:mP α}{v:Value}{y:α→S→Option (S × Bool)}{Inv:S→av→ai→Prop}(h:lq ab R A v y Inv)(Hf:ai):lq ab R A v y λ s R' H'=>∃ Hy,Inv s R' Hy∧H'=Hf++Hy where
 fn:=h.fn
 mono:=λ h1 h2 ⟨Hy,hi,e⟩=>⟨Hy,h.mono h1 h2 hi,e⟩
 call:=by
  intro H2 R' Hy s x va z hR hI hA hy
  obtain ⟨Hy,hI,rfl⟩:=hI
  have:=h.call (H2++Hf) hR hI hA hy
  rw [List.append_assoc] at this
  refine this.mono λ w cy dI ⟨h1,h2,xz,h3,h4⟩=>⟨h1,h2,Hf++xz,⟨xz,h3,rfl⟩,by rw [h4,List.append_assoc]⟩
def many(a:ai):List (Nat × ai)→Nat→ai
 | [],_=>a
 | (q,l)::r,j=>if j=q then l else many a r j
section
variable {a N:ai} {ex:List (Nat × ai)} {rem D:List Nat} {i q:Nat} {l H':ai}
theorem gw(ha:∀ p∈N,p∈a):∀ j∈rem,j≠i→j ∉ D→∀ p∈N,p∈many a [] j:=λ _ _ _ _ p hp=>ha p hp
theorem dY(hd:(D.contains q || q == i || !rem.contains q)=true)(h:∀ j∈rem,j≠i→j ∉ D→∀ p∈N,p∈many a ex j):∀ j∈rem,j≠i→j ∉ D→∀ p∈N,p∈many a ((q,l)::ex) j:=by
 intro j hj fX pW p hp
 unfold many
 split
 ·subst_vars
  simp only [Bool.or_eq_true,Bool.not_eq_true',List.contains_iff_mem,beq_iff_eq] at hd
  rcases hd with (x | x) | x
  ·exact absurd x pW
  ·exact absurd x fX
  ·have:rem.contains j=true:=List.contains_iff_mem.2 hj
   rw [this] at x; cases x
 ·exact h j hj fX pW p hp
theorem aav(hl:∀ p∈N,p∈l)(h:∀ j∈rem,j≠i→j ∉ D→∀ p∈N,p∈many a ex j):∀ j∈rem,j≠i→j ∉ D→∀ p∈N,p∈many a ((q,l)::ex) j:=by
 intro j hj fX pW p hp
 unfold many
 split
 ·exact hl p hp
 ·exact h j hj fX pW p hp
theorem fR(he:many a ex i=l)(h:∀ p∈l,p∈H'):∀ p∈many a ex i,p∈H→p∈H':=by
 rw [he]; exact λ p hp _=>h p hp
end
end
end Go.Lg
namespace Go.Lg
open Go.Conc
def fA(p:Int):Value:=.int .i64 p
theorem KT{p p':Int}(h:fA p=fA p'):p=p':=by
 simpa [fA] using h
def ry(m:Int→Int)(p z:Int):Int→Int:=λ a=>if a=p then z else m a
structure xx (es:List MapEntry) (m:Int→Int) (clock:Nat):Prop where
 JP:∀ e∈es,∃ p,e.key=fA p∧e.val = .int .i64 (m p)
 zero:∀ p,(∀ e∈es,e.key≠fA p)→m p=0
 keys:∀ (i j:Nat) (a b:MapEntry),es[i]? = some a→es[j]? = some b→a.key=b.key→i=j
 old:∀ e∈es,e.born < clock
 WS:∀ (i j:Nat) (a b:MapEntry),es[i]? = some a→es[j]? = some b→a.born=b.born→i=j
def zu(v:Value)(m:Int→Int)(Hs:ai):Prop:=∃ b es clock,v = .map (some b)∧Hs=[(b,.map es clock)]∧xx es.toList m clock
structure Jc (P:Program) (t kt et:TypeId):Prop where
 ty:P.underlying t=some (.map kt et)
 key:P.underlying kt=some (.int .i64)
 lS:∀ (e:Bool) (a:Int),ah P (Instr.checkKey e 10000 kt (fA a)) ()
 zero:ah P (zeroValue et) (.int .i64 0)
section
variable {P:Program} {B:Base} {main:Bool} {ab:Jd P B main} {c:Ctx} {R:av} {H:ai} {st st':St} {o:Oper} {C:av→ai→St→Prop}
def aed(es:List MapEntry)(p:Int)(r:Option (Nat × Value)):Prop :=
 (r=none∧∀ e∈es,e.key≠fA p)∨∃ (i:Nat) (e:MapEntry),es[i]? = some e∧e.key=fA p∧r=some (i,e.val)
theorem Yz(p:Int):∀ (es:List MapEntry) (i:Nat),(∀ e∈es,∃ p,e.key=fA p)→∃ r,Instr.findNow (.int .i64) (fA p) es i=some r∧((r=none∧∀ e∈es,e.key≠fA p)∨∃ (j:Nat) (e:MapEntry),es[j]? = some e∧e.key=fA p∧r=some (i+j,e.val))
 | [],i,h=>⟨none,rfl,.inl ⟨rfl,λ e he=>(by cases he)⟩⟩
 | e::es,i,h=>by
  obtain ⟨p',hk⟩:=h e (by simp)
  by_cases heq:p=p'
  ·subst heq
   refine ⟨some (i,e.val),?_,.inr ⟨0,e,rfl,hk,rfl⟩⟩
   unfold Instr.findNow
   rw [hk]
   simp [fA,Instr.sameNow]
  ·obtain ⟨r,hr,hc⟩:=Yz p es (i+1) (λ e he=>h e (by simp [he]))
   refine ⟨r,?_,?_⟩
   ·unfold Instr.findNow
    rw [hk]
    simp only [fA] at hr ⊢
    have hb:(p == p')=false:=by simpa using heq
    simp [Instr.sameNow,hb,hr]
   ·rcases hc with ⟨rfl,hc⟩ | ⟨j,e',h1,h2,rfl⟩
    ·refine .inl ⟨rfl,λ x hx=>?_⟩
     rcases List.mem_cons.1 hx with rfl | hx
     ·intro e2
      exact heq (KT (hk.symm.trans e2)).symm
     ·exact hc x hx
    ·exact .inr ⟨j+1,e',by simpa using h1,h2,by simp; omega⟩
theorem abW{t kt et:TypeId}(ht:Jc P t kt et)(p:Int){es:List MapEntry}{m:Int→Int}{cl:Nat}(h:xx es m cl):∃ r,ah P (Instr.findKey kt (fA p) es) r∧aed es p r:=by
 obtain ⟨r,hr,hc⟩:=Yz p es 0 (λ e he=>let ⟨p,hk,_⟩:=h.JP e he; ⟨p,hk⟩)
 refine ⟨r,?_,?_⟩
 ·unfold Instr.findKey
  refine ah.bind (ah.underlying ht.key) ?_
  rw [hr]
  exact ah.pure _
 ·rcases hc with hc | ⟨j,e',h1,h2,h3⟩
  ·exact .inl hc
  ·exact .inr ⟨j,e',h1,h2,by simpa using h3⟩
theorem Ox.au8{t:TypeId}(an:o.op = .makeMap t none)(hd:bQ o.dst c.n)
  (hC:∀ v Hs,zu v (λ _=>0) Hs→∃ st',aF (bT o.dst v st) st'∧C R (Hs++H) st'):aW P B c o R H st C :=
 Ox.mem (s:=λ ρ=>Instr.makeMap t none) (by rw [an]; rfl) hd (λ ρ=>by simp only [execOp,an]; rfl) (λ ρ ba=>by
  unfold Instr.makeMap
  refine aL.bind (aL.new λ b _ _=>aL.pure ?_)
  exact hC (.map (some b)) [(b,.map #[] 0)] ⟨b,#[],0,rfl,rfl,⟨λ e he=>(by cases he),λ _ _=>rfl,λ i j a b ha=>(by simp at ha),λ e he=>(by cases he),λ i j a b ha=>(by simp at ha)⟩⟩)
theorem Ox.Z0{x y:Operand}{t kt et:TypeId}{v:Value}{m:Int→Int}{p:Int}{Hs:ai}(an:o.op = .lookup t x y false)(hx:bg st x=some v)(hy:bg st y=some (fA p))(ht:Jc P t kt et)(hm:zu v m Hs)(hH:∀ q∈Hs,q∈H)
  (hd:bQ o.dst c.n) (hs:aF (bT o.dst (.int .i64 (m p)) st) st') (h:C R H st'):aW P B c o R H st C :=
 Ox.mem (s:=λ ρ=>Instr.lookup t (ρ x) (ρ y) false) (by rw [an]; rfl) hd (λ ρ=>by simp only [execOp,an]) (λ ρ ba=>by
  rw [ba x _ hx,ba y _ hy]
  unfold Instr.lookup
  refine ah.dM (ah.underlying ht.ty) ?_
  obtain ⟨b,es,cl,rfl,rfl,he⟩:=hm
  refine aL.bind (aL.getObj rfl (.inr (hH (b,.map es cl) (by simp))) ?_)
  refine aL.bind (aL.pure ?_)
  obtain ⟨r,hr,hf⟩:=abW ht p he
  refine ah.dM (ht.lS _ p) (ah.dM hr ?_)
  rcases hf with ⟨rfl,hn⟩ | ⟨i,e,h1,h2,rfl⟩
  ·refine ah.dM ht.zero (aL.bind (aL.pure (aL.pure ?_)))
   rw [he.zero p hn] at hs
   exact ⟨st',hs,h⟩
  ·obtain ⟨p',hk,hv⟩:=he.JP e (List.mem_of_getElem? h1)
   obtain rfl:=KT (hk.symm.trans h2)
   rw [hv]
   exact aL.bind (aL.pure (aL.pure ⟨st',hs,h⟩)))
theorem awU(p:Int):Instr.sameBits 10000 (fA p) (fA p)=true:=by
 simp [Instr.sameBits,fA]
theorem xx.push{es:Array MapEntry}{m:Int→Int}{cl:Nat}{p z:Int}(h:xx es.toList m cl)(hn:∀ e∈es.toList,e.key≠fA p) :
  xx (es.push { key:=fA p,val:=.int .i64 z,born:=cl }).toList (ry m p z) (cl+1):=by
 rw [Array.toList_push]
 refine ⟨λ e he=>?_,λ p' eB=>?_,λ i j a b ha hb bB=>?_,λ e he=>?_,λ i j a b ha hb bB=>?_⟩
 ·rcases List.mem_append.1 he with he | he
  ·obtain ⟨p',h1,h2⟩:=h.JP e he
   refine ⟨p',h1,?_⟩
   unfold ry
   rw [if_neg (λ e2=>hn e he (by rw [h1,e2])),h2]
  ·rcases List.mem_singleton.1 he with rfl
   exact ⟨p,rfl,by simp [ry]⟩
 ·have h1:=h.zero p' λ e he=>eB e (List.mem_append.2 (.inl he))
  unfold ry
  rw [if_neg,h1]
  rintro rfl
  exact eB { key:=fA p',val:=.int .i64 z,born:=cl } (List.mem_append.2 (.inr (by simp))) rfl
 ·rw [List.getElem?_append] at ha hb
  split at ha <;> split at hb
  ·exact h.keys i j a b ha hb bB
  ·have:b={ key:=fA p,val:=.int .i64 z,born:=cl }:=by
    have:=List.mem_of_getElem? hb; simpa using this
   subst this
   exact absurd bB (hn a (List.mem_of_getElem? ha))
  ·have:a={ key:=fA p,val:=.int .i64 z,born:=cl }:=by
    have:=List.mem_of_getElem? ha; simpa using this
   subst this
   exact absurd bB.symm (hn b (List.mem_of_getElem? hb))
  ·have h1:=(List.getElem?_eq_some_iff.1 ha).1
   have h2:=(List.getElem?_eq_some_iff.1 hb).1
   simp only [List.length_singleton,Array.length_toList] at *
   omega
 ·rcases List.mem_append.1 he with he | he
  ·have:=h.old e he; omega
  ·rcases List.mem_singleton.1 he with rfl
   exact Nat.lt_succ_self _
 ·rw [List.getElem?_append] at ha hb
  split at ha <;> split at hb
  ·exact h.WS i j a b ha hb bB
  ·have:b={ key:=fA p,val:=.int .i64 z,born:=cl }:=by
    have:=List.mem_of_getElem? hb; simpa using this
   subst this
   have:=h.old a (List.mem_of_getElem? ha)
   simp only at bB
   omega
  ·have:a={ key:=fA p,val:=.int .i64 z,born:=cl }:=by
    have:=List.mem_of_getElem? ha; simpa using this
   subst this
   have:=h.old b (List.mem_of_getElem? hb)
   simp only at bB
   omega
  ·have h1:=(List.getElem?_eq_some_iff.1 ha).1
   have h2:=(List.getElem?_eq_some_iff.1 hb).1
   simp only [List.length_singleton,Array.length_toList] at *
   omega
theorem FH{α:Type}{a:Array α}{j:Nat}{x:α}(h:a.toList[j]? = some x):a[j]? = some x:=by rwa [Array.getElem?_toList] at h
theorem xx.rv{es:Array MapEntry}{m:Int→Int}{cl i:Nat}{p z:Int}{e:MapEntry}(he:xx es.toList m cl)(hi:es[i]? = some e)(hk:e.key=fA p) :
  xx (es.modify i λ e=>{ e with key:=fA p,val:=.int .i64 z }).toList (ry m p z) cl:=by
 have sa:∀ j a,(es.modify i λ e=>{ e with key:=fA p,val:=.int .i64 z })[j]? = some a→∃ a0,es[j]? = some a0∧a.key=a0.key∧a.born=a0.born∧a.val=if i=j then .int .i64 z else a0.val:=by
  intro j a ha
  rw [Array.getElem?_modify] at ha
  by_cases hj:i=j
  ·subst hj
   rw [hi] at ha
   simp only [if_true,Option.map_some,Option.some.injEq] at ha
   subst ha
   exact ⟨e,hi,hk.symm,rfl,by simp⟩
  ·simp only [hj,if_false] at ha
   exact ⟨a,ha,rfl,rfl,by simp [hj]⟩
 have l7:∀ a∈(es.modify i λ e=>{ e with key:=fA p,val:=.int .i64 z }).toList,∃ j,(es.modify i λ e=>{ e with key:=fA p,val:=.int .i64 z })[j]? = some a:=λ a ha=>by
  obtain ⟨j,hj⟩:=List.mem_iff_getElem?.1 ha
  exact ⟨j,FH hj⟩
 refine ⟨λ a ha=>?_,λ p' eB=>?_,λ j k a b' ha hb bB=>?_,λ a ha=>?_,λ j k a b' ha hb bB=>?_⟩
 ·obtain ⟨j,hj⟩:=l7 a ha
  obtain ⟨a0,h1,h2,h3,h4⟩:=sa j a hj
  obtain ⟨p',dy,GU⟩:=he.JP a0 (by rw [← Array.mem_def]; exact Array.mem_of_getElem? h1)
  refine ⟨p',h2.trans dy,?_⟩
  rw [h4]
  by_cases sb:i=j
  ·subst sb
   rw [hi] at h1; cases h1
   obtain rfl:=KT (hk.symm.trans dy)
   simp [ry]
  ·rw [if_neg sb,GU]
   unfold ry
   rw [if_neg]
   rintro rfl
   exact sb (he.keys i j e a0 (by simpa using hi) (by simpa using h1) (hk.trans dy.symm))
 ·unfold ry
  by_cases Qu:p'=p
  ·subst Qu
   exfalso
   obtain ⟨bJ,r9⟩:=Array.getElem?_eq_some_iff.1 hi
   refine eB { e with key:=fA p',val:=.int .i64 z } ?_ rfl
   rw [← Array.mem_def]
   exact Array.mem_of_getElem? (i:=i) (by rw [Array.getElem?_modify]; simp [hi])
  ·rw [if_neg Qu]
   refine he.zero p' λ a ha=>?_
   obtain ⟨j,hj⟩:=List.mem_iff_getElem?.1 ha
   have yh:es[j]? = some a:=by simpa using hj
   by_cases sb:i=j
   ·subst sb
    rw [hi] at yh; cases yh
    intro e2
    exact Qu (KT (hk.symm.trans e2)).symm
   ·exact eB a (by rw [← Array.mem_def]; exact Array.mem_of_getElem? (i:=j) (by rw [Array.getElem?_modify]; simp [sb,yh]))
 ·obtain ⟨a0,h1,h2,_⟩:=sa j a (FH ha)
  obtain ⟨b0,k1,k2,_⟩:=sa k b' (FH hb)
  exact he.keys j k a0 b0 (by simpa using h1) (by simpa using k1) (h2.symm.trans (bB.trans k2))
 ·obtain ⟨j,hj⟩:=l7 a ha
  obtain ⟨a0,h1,h2,h3,h4⟩:=sa j a hj
  rw [h3]
  exact he.old a0 (by rw [← Array.mem_def]; exact Array.mem_of_getElem? h1)
 ·obtain ⟨a0,h1,_,h3,_⟩:=sa j a (FH ha)
  obtain ⟨b0,k1,_,k3,_⟩:=sa k b' (FH hb)
  exact he.WS j k a0 b0 (by simpa using h1) (by simpa using k1) (h3.symm.trans (bB.trans k3))
theorem Ox.ava{x y u:Operand}{t kt et:TypeId}{v:Value}{m:Int→Int}{p z:Int}{Hs:ai}(G:ai→ai)(an:o.op = .mapUpdate t x y u)(hx:bg st x=some v)(hy:bg st y=some (fA p))(hz:bg st u=some (.int .i64 z))(ht:Jc P t kt et)(hG:kK G)(hm:zu v m Hs)
  (hd:o.dst=none) (cJ:aF st st') (hC:∀ dG,zu v (ry m p z) dG→C R (G dG) st'):aW P B c o R (G Hs) st C :=
 Ox.Ln (s:=λ ρ=>Instr.mapUpdate t (ρ x) (ρ y) (ρ u)) (by rw [an]; rfl) hd (λ ρ=>by simp only [execOp,an]) cJ (λ ρ ba=>by
  rw [ba x _ hx,ba y _ hy,ba u _ hz]
  unfold Instr.mapUpdate
  refine ah.dM (ah.underlying ht.ty) ?_
  obtain ⟨b,es,cl,rfl,rfl,he⟩:=hm
  refine aL.bind (aL.getObj rfl (.inr (hG.set (o':=.map es cl)).mem) ?_)
  obtain ⟨r,hr,hf⟩:=abW ht p he
  refine ah.dM (ht.lS _ p) (ah.dM hr ?_)
  rcases hf with ⟨rfl,hn⟩ | ⟨i,e,h1,h2,rfl⟩
  ·exact aL.setObj rfl rfl hG.set (hC _ ⟨b,_,_,rfl,rfl,he.push hn⟩)
  ·have zk:es[i]? = some e:=by simpa using h1
   have cJ:ah P (Instr.keyThatStays (((es[i]?).map (·.key)).getD (fA p)) (fA p)) (fA p):=by
    rw [zk]
    simp only [Option.map_some,Option.getD_some,h2,Instr.keyThatStays,awU,if_true]
    exact ah.pure _
   exact ah.dM cJ (aL.setObj rfl rfl hG.set (hC _ ⟨b,_,_,rfl,rfl,he.rv zk h2⟩)))
end
end Go.Lg
namespace Go.Lg
open Go.Conc
def iD{α:Type}(m:Nat)(xs:List α)(i:Int):Option (List α):=if 0≤i∧i.toNat * m+m≤xs.length then some ((xs.drop (i.toNat * m)).take m) else none
def oL{α:Type}(m:Nat)(xs:List α)(i k:Int)(x:α):List α:=xs.set (i.toNat * m+k.toNat) x
def D6{α:Type}(m:Nat)(xs:List α)(i:Int)(r:List α):List α:=xs.take (i.toNat * m)++(r++xs.drop (i.toNat * m+m))
section
variable {α:Type} {m n:Nat} {xs r g:List α} {i k:Int} {x y:α}
theorem wG(h:iD m xs i=some r):0≤i∧i.toNat * m+m≤xs.length∧r=(xs.drop (i.toNat * m)).take m:=by
 unfold iD at h
 split at h
 ·rename_i hc; cases h; exact ⟨hc.1,hc.2,rfl⟩
 ·cases h
theorem nT(h:iD m xs i=some r):r.length=m:=by
 obtain ⟨_,h2,rfl⟩:=wG h
 simp only [List.length_take,List.length_drop]
 omega
theorem D7(h:xs.length=n):(oL m xs i k x).length=n:=by simpa [oL] using h
theorem aw1(h:iD m xs i=some r)(hx:xs.length=n)(hg:g.length=m):(D6 m xs i g).length=n:=by
 obtain ⟨_,h2,_⟩:=wG h
 simp only [D6,List.length_append,List.length_take,List.length_drop]
 omega
theorem uD{P:Program}{t e len K b o:Nat}(ht:rK P t len e K)(hl:xs.length=len * m)(hm:0 < m)(h:iD m xs i=some r):xB P t (.pointer (some ⟨b,o,none⟩)) i b (o+i.toNat * K):=by
 obtain ⟨h1,h2,_⟩:=wG h
 refine ZD ht ⟨h1,?_⟩
 rw [hl] at h2
 have h3:(i.toNat+1) * m≤len * m:=by rw [Nat.add_mul]; omega
 have:=Nat.le_of_mul_le_mul_right h3 hm
 omega
theorem awQ{pre post:List Value}{f:α→Value}{p:Nat}(h:iD m xs i=some r)(hp:pre.length=p):∃ a c,pre++(xs.map f++post)=a++(r.map f++c)∧a.length=p+i.toNat * m:=by
 obtain ⟨_,h2,rfl⟩:=wG h
 refine ⟨pre++(xs.take (i.toNat * m)).map f,(xs.drop (i.toNat * m+m)).map f++post,?_,by simp [hp]; omega⟩
 have e:xs=xs.take (i.toNat * m)++((xs.drop (i.toNat * m)).take m++xs.drop (i.toNat * m+m)):=by
  rw [← List.drop_drop,List.take_append_drop,List.take_append_drop]
 conv=>lhs; rw [e]
 simp
theorem aM.row{R:av}{H:ai}{b o p:Nat}{f:α→Value}{pre post:List Value}(hc:aM R H b o (pre++(xs.map f++post)))(h:iD m xs i=some r)(hp:pre.length=p):aM R H b (o+p+i.toNat * m) ([]++(r.map f++[])):=by
 obtain ⟨a,c,e,ha⟩:=awQ (post:=post) (f:=f) h hp
 rw [e] at hc
 have:=hc.part (j:=a.length) (n:=(r.map f).length) (axD rfl rfl)
 rw [ha] at this
 simpa [Nat.add_assoc] using this
theorem N4{pre post:List Value}{f:α→Value}{p:Nat}(h:iD m xs i=some r)(hk:idx r k=some y)(hp:pre.length=p):Nat.blt (p+i.toNat * m+k.toNat * 1) ((pre++(xs.map f++post)).toArray).size=true:=by
 obtain ⟨_,h2,_⟩:=wG h
 obtain ⟨_,h4,h5⟩:=sI hk
 have:=nT h
 have:=(List.getElem?_eq_some_iff.1 h5).1
 rw [Nat.blt_eq]
 simp
 omega
theorem N6{pre post:List Value}{f:α→Value}{p:Nat}(h:iD m xs i=some r)(hk:idx r k=some y)(hp:pre.length=p):((pre++(xs.map f++post)).toArray).setIfInBounds (p+i.toNat * m+k.toNat * 1) (f x)=(pre++((oL m xs i k x).map f++post)).toArray:=by
 obtain ⟨_,h2,_⟩:=wG h
 obtain ⟨_,h4,h5⟩:=sI hk
 have:=nT h
 have:=(List.getElem?_eq_some_iff.1 h5).1
 subst hp
 unfold oL
 simp only [Nat.mul_one,List.setIfInBounds_toArray,List.map_set]
 congr 1
 rw [List.set_append_right _ _ (by omega),show pre.length+i.toNat * m+k.toNat - pre.length=i.toNat * m+k.toNat by omega,List.set_append_left _ _ (by simp; omega)]
theorem awO{pre post:List Value}{f:α→Value}{p:Nat}(h:iD m xs i=some r)(hp:pre.length=p):Nat.ble (p+i.toNat * m+m) ((pre++(xs.map f++post)).toArray).size=true:=by
 obtain ⟨_,h2,_⟩:=wG h
 rw [Nat.ble_eq]
 simp
 omega
theorem av9{a c vs ws:List Value}{cs:Array Value}{off:Nat}(pg:cs=(a++(vs++c)).toArray)(ha:a.length=off)(hl:ws.length=vs.length):ft cs off ws=(a++(ws++c)).toArray:=by
 subst pg ha
 apply Array.ext_getElem?
 intro j
 rw [yJ ws _ _ j (by simp; omega)]
 by_cases hj:a.length≤j∧j < a.length+ws.length
 ·rw [if_pos hj]
  simp only [List.getElem?_toArray]
  rw [List.getElem?_append_right hj.1,List.getElem?_append_left (by omega)]
 ·rw [if_neg hj]
  simp only [List.getElem?_toArray]
  by_cases h1:j < a.length
  ·rw [List.getElem?_append_left h1,List.getElem?_append_left h1]
  ·rw [List.getElem?_append_right (by omega),List.getElem?_append_right (by omega),List.getElem?_append_right (by omega),List.getElem?_append_right (by omega),hl]
theorem awS{pre post:List Value}{f:α→Value}{p:Nat}(h:iD m xs i=some r)(hg:g.length=m)(hp:pre.length=p):ft ((pre++(xs.map f++post)).toArray) (p+i.toNat * m) (([]:List Value)++(g.map f++[]))=(pre++((D6 m xs i g).map f++post)).toArray:=by
 obtain ⟨_,h2,_⟩:=wG h
 have hr:=nT h
 have e:xs=xs.take (i.toNat * m)++(r++xs.drop (i.toNat * m+m)):=by
  obtain ⟨_,_,rfl⟩:=wG h
  rw [← List.drop_drop,List.take_append_drop,List.take_append_drop]
 have e2:(pre++(xs.map f++post)).toArray=((pre++(xs.take (i.toNat * m)).map f)++(r.map f++((xs.drop (i.toNat * m+m)).map f++post))).toArray:=by
  conv=>lhs; rw [e]
  simp
 have:=av9 (ws:=([]:List Value)++(g.map f++[])) (off:=p+i.toNat * m) e2 (by simp [hp]; omega) (by simp [hg,hr])
 rw [this]
 simp [D6]
end
section
variable {P:Program} {B:Base} {main:Bool} {c:Ctx} {R:av} {H:ai} {st st':St} {o:Oper} {C:av→ai→St→Prop}
theorem Ox.SO{α:Type}{x y:Operand}{t e len:Nat}{f:α→Value}{xs:List α}{a:α}{kd:IntKind}{i:Int}(an:o.op = .index t x y) (hx:bg st x=some (.agg (List.toArray ([]++(xs.map f++[]))))) (hy:bg st y=some (.int kd i)) (ht:rK P t len e 1) (he:ah P (isAgg e) false) (hl:xs.length=len) (hi:idx xs i=some a)
  (hd:bQ o.dst c.n) (hs:aF (bT o.dst (f a) st) st') (h:C R H st'):aW P B c o R H st C:=by
 obtain ⟨h1,h2,h3⟩:=sI hi
 exact Ox.AA an hx hy ht he ⟨h1,by omega⟩ (by simp [h3]) hd hs h
end
end Go.Lg
namespace Go.Lg
instance {n:Nat}:CM (mN Value.bool n):=⟨λ _ h=>h,λ ⟨_,h⟩ u hu=>by
 subst h
 simp only [List.nil_append,List.append_nil,List.mem_map] at hu
 obtain ⟨_,_,rfl⟩:=hu
 rfl⟩
instance {n:Nat} {kd:IntKind}:CM (mN (Value.int kd) n):=⟨λ _ h=>h,λ ⟨_,h⟩ u hu=>by
 subst h
 simp only [List.nil_append,List.append_nil,List.mem_map] at hu
 obtain ⟨_,_,rfl⟩:=hu
 rfl⟩
end Go.Lg
namespace Go.Lg
open Go.Conc
section
variable {P:Program} {B:Base} {main:Bool} {c:Ctx} {R:av} {H:ai} {st st':St} {o:Oper} {C:av→ai→St→Prop}
theorem Ox.awf{t:TypeId}{x:Operand}{s:ByteArray}(an:o.op = .range t x)(hx:bg st x=some (.string s))(hu:P.underlying t=some .string)(hd:bQ o.dst c.n)
  (hC:∀ b,R b=none→(∀ y,(b,y) ∉ H)→∃ st',aF (bT o.dst (.pointer (some ⟨b,0,none⟩)) st) st'∧C R ((b,.stringIter s 0)::H) st'):aW P B c o R H st C :=
 Ox.mem (s:=λ ρ=>Instr.range t (ρ x)) (by rw [an]; rfl) hd (λ ρ=>by simp only [execOp,an]) (λ ρ ba=>by
  rw [ba x _ hx]
  unfold Instr.range
  refine ah.dM (ah.underlying hu) (ah.dM (ah.pure _) ?_)
  exact aL.bind (aL.new λ b h1 h2=>aL.pure (hC b h1 h2)))
theorem Ox.avl{x:Operand}{b:Nat}{s:ByteArray}{pos:Nat}(an:o.op = .next x true)(hx:bg st x=some (.pointer (some ⟨b,0,none⟩)))(hb:(b,Obj.stringIter s pos)∈H)(hp:¬ pos < s.size)(hd:bQ o.dst c.n)
  (hs:aF (bT o.dst (.tuple #[.bool false]) st) st') (h:C R H st'):aW P B c o R H st C :=
 Ox.mem (s:=λ ρ=>Instr.next (ρ x) true o.type) (by rw [an]; rfl) hd (λ ρ=>by simp only [execOp,an]) (λ ρ ba=>by
  rw [ba x _ hx]
  unfold Instr.next
  refine aL.bind (aL.getObj rfl (.inr hb) ?_)
  simp only [hp,if_false]
  exact aL.pure ⟨st',hs,h⟩)
theorem Ox.avm{x:Operand}{b:Nat}{s:ByteArray}{pos:Nat}{H':ai}(an:o.op = .next x true)(hx:bg st x=some (.pointer (some ⟨b,0,none⟩)))(hb:eP H b (.stringIter s pos) (.stringIter s (pos+(Utf8.decode s pos).2)) H')(hp:pos < s.size)(hd:bQ o.dst c.n)
  (hs:aF (bT o.dst (.tuple #[.bool true,.int .i64 (pos:Int),.int .i32 ((Utf8.decode s pos).1:Int)]) st) st') (h:C R H' st'):aW P B c o R H st C :=
 Ox.mem (s:=λ ρ=>Instr.next (ρ x) true o.type) (by rw [an]; rfl) hd (λ ρ=>by simp only [execOp,an]) (λ ρ ba=>by
  rw [ba x _ hx]
  unfold Instr.next
  refine aL.bind (aL.getObj rfl (.inr hb.mem) ?_)
  simp only [hp,if_true]
  exact aL.bind (aL.setObj rfl rfl hb (aL.pure ⟨st',hs,h⟩)))
end
end Go.Lg
namespace Go.Lg
open Go.Conc
class lU (P:Program) where
 off:Nat→Nat→Option Nat
 ok:∀ s f n,off s f=some n→fU P s f n
def LR(fo:Nat→Nat→Option Nat)(st:St)(o:Oper):Option Value :=
 match o.op with
 | .move x=>bg st x
 | .assign x=>bg st x
 | .pick x y z=>match bg st x with
  | some (.bool true)=>bg st y
  | some (.bool false)=>bg st z
  | _=>none
 | .extract x j=>match bg st x with
  | some (.tuple vs)=>vs[j]?
  | _=>none
 | .unOp .not _ x=>match bg st x with
  | some (.bool a)=>some (.bool (!a))
  | _=>none
 | .binOp bo _ x y _=>match bg st x,bg st y with
  | some (.int kd a),some (.int AB b)=>if kd=AB then (match OK bo a b with
   | some r=>some (.bool r)
   | none=>match N2 bo a b with
    | some z=>some (.int kd (kd.wrap z))
    | none=>none) else none
  | _,_=>none
 | .fieldAddr s x f=>match bg st x,fo s f with
  | some (.pointer (some ⟨b,n,none⟩)),some off=>some (.pointer (some ⟨b,n+off,none⟩))
  | _,_=>none
 | _=>none
section
variable {P:Program} [lU P] {B:Base} {main:Bool} {ab:Jd P B main} {c:Ctx} {R:av} {H:ai} {st st':St} {o:Oper} {C:av→ai→St→Prop} {k:List Item}
theorem abj{v:Value}(h:LR (lU.off P) st o=some v)(hd:bQ o.dst c.n)(hs:aF (bT o.dst v st) st')(hC:C R H st'):aW P B c o R H st C:=by
 unfold LR at h
 split at h
 ·rename_i x an; exact Ox.move an h hd hs hC
 ·rename_i x an; exact Ox.assign an h hd hs hC
 ·rename_i x y z an
  split at h
  ·rename_i hx; exact Ox.av6 an hx h hd hs hC
  ·rename_i hx; exact Ox.av5 an hx h hd hs hC
  ·cases h
 ·rename_i x j an
  split at h
  ·rename_i hx; exact Ox.extract an hx h hd hs hC
  ·cases h
 ·rename_i t x an
  split at h
  ·rename_i hx; cases h; exact Ox.not an hx hd hs hC
  ·cases h
 ·rename_i bo t x y u an
  split at h
  ·rename_i kd a AB b hx hy
   split at h
   ·rename_i e; subst e
    split at h
    ·rename_i r hr; cases h; exact Ox.cmp an hx hy hr hd hs hC
    ·split at h
     ·rename_i z hz; cases h; exact Ox.ar an hx hy hz hd hs hC
     ·cases h
   ·cases h
  ·cases h
 ·rename_i s x f an
  split at h
  ·rename_i hx hf; cases h; exact Ox.fieldAddr an hx (lU.ok s f _ hf) hd hs hC
  ·cases h
 ·cases h
def T6(fo:Nat→Nat→Option Nat)(ops:Array Oper)(n:Nat)(st:St)(i:Nat):Option St :=
 match ops[i]? with
 | none=>none
 | some o=>match cF ops st o with
  | some true=>match LR fo st o,o.dst with
   | some v,some d=>if Nat.blt d n=true then some ((d,v)::st) else none
   | _,_=>none
  | some false=>match mc o.op,o.dst with
   | false,some d=>if Nat.blt d n=true then some ((d,undef)::st) else none
   | false,none=>some st
   | _,_=>none
  | none=>none
def yM(fo:Nat→Nat→Option Nat)(ops:Array Oper)(n:Nat):List Nat→St→Option St
 | [],st=>some st
 | i::is,st=>match T6 fo ops n st i with
  | some st'=>yM fo ops n is st'
  | none=>none
theorem abB{ops:Array Oper}{n i:Nat}{fo:Nat→Nat→Option Nat}(h:T6 fo ops n st i=some st'):∃ o,ops[i]? = some o ∧
  ((cF ops st o=some true∧∃ v d,LR fo st o=some v∧o.dst=some d∧bQ (some d) n∧st'=(d,v)::st) ∨
   (cF ops st o=some false∧mc o.op=false∧bQ o.dst n∧st'=bT o.dst undef st)):=by
 unfold T6 at h
 split at h
 ·cases h
 ·rename_i o ho
  refine ⟨o,ho,?_⟩
  split at h
  ·rename_i hw
   split at h
   ·rename_i v d hv hd
    split at h
    ·rename_i hl; cases h; exact .inl ⟨hw,v,d,hv,hd,hl,rfl⟩
    ·cases h
   ·cases h
  ·rename_i hw
   split at h
   ·rename_i d lF hd
    split at h
    ·rename_i hl; cases h; exact .inr ⟨hw,lF,by rw [hd]; exact hl,by rw [hd]; rfl⟩
    ·cases h
   ·rename_i lF hd
    cases h; exact .inr ⟨hw,lF,by rw [hd]; rfl,by rw [hd]; rfl⟩
   ·cases h
  ·cases h
theorem U.run{ops:Array Oper}(hk:(c.kind == CallKind.early)=false):∀ {is rest:List Nat} {st:St},yM (lU.off P) ops c.n is st=some st'→U ab c R H st' (.inRegion ops rest::k)→U ab c R H st (.inRegion ops (is++rest)::k)
 | [],rest,st,h,ha=>by cases h; exact ha
 | i::is,rest,st,h,ha=>by
  unfold yM at h
  split at h
  ·rename_i uU h1
   have ih:=U.run hk h ha
   obtain ⟨o,ho,⟨hw,v,d,hv,hd,hl,rfl⟩ | ⟨hw,lF,hl,rfl⟩⟩:=abB h1
   ·exact U.gR ho hw hk (abj hv (by rw [hd]; exact hl) (by rw [hd]; exact aF.refl _) ih)
   ·exact U.unwanted ho hw hl (aF.refl _) ih
  ·cases h
theorem U.vs(m:Nat){ops:Array Oper}{is qb:List Nat}(h:yM (lU.off P) ops c.n (is.take m) st=some st')(hr:is.drop m=qb)(ha:U ab c R H st' (.inRegion ops qb::k))(hk:(c.kind == CallKind.early)=false:=by rfl):U ab c R H st (.inRegion ops is::k):=by
 subst hr
 have:=U.run (rest:=is.drop m) hk h ha
 rwa [List.take_append_drop] at this
def XF(ops:Array Oper)(rem:List Nat)(i:Nat):Nat→List Nat→List Nat
 | 0,D=>D
 | n+1,D=>XF ops rem i n (rem.filter λ j=>j != i && (D.contains j || match ops[j]? with | some o=>o.after.any λ e=>Region.binds .any e && (e.on == i || D.contains e.on) | none=>false))
def JK(ops:Array Oper)(rem:List Nat)(i:Nat):List Nat:=XF ops rem i rem.length []
def JG(ops:Array Oper):List Nat→List Nat→Bool
 | _,[]=>true
 | rem,i::is=>decide rem.Nodup && pB ops rem i (JK ops rem i) && JG ops (rem.erase i) is
theorem Any.vs'{S:Nat→ai}{ops:Array Oper}{n:Nat}:∀ (is:List Nat) {rem:List Nat} {st:St},yM (lU.off P) ops c.n is st=some st'→JG ops rem is=true→Any ab c S ops k n (is.foldl List.erase rem) R H st'→Any ab c S ops k (n+is.length) rem R H st
 | [],rem,st,h,_,ha=>by cases h; exact ha
 | i::is,rem,st,h,hc,ha=>by
  unfold yM at h
  split at h
  ·rename_i uU h1
   simp only [JG,Bool.and_eq_true,decide_eq_true_eq] at hc
   obtain ⟨⟨dA,jw⟩,hc⟩:=hc
   have ih:=Any.vs' is h hc ha
   obtain ⟨o,ho,⟨hw,v,d,hv,hd,hl,rfl⟩ | ⟨hw,lF,hl,rfl⟩⟩:=abB h1
   ·exact Any.Bp (N:=[]) _ ho hd hw jw (λ _ _ _ _ p hp=>by cases hp) (λ p hp=>by cases hp) (λ R' H' _ _=>abj hv (by rw [hd]; exact hl) (.one hd) ⟨rfl,rfl,rfl⟩) (aF.refl _) dA rfl ih
   ·exact Any.axB _ ho jw lF hl hw (aF.refl _) dA rfl ih
  ·cases h
theorem Any.vs{S:Nat→ai}{ops:Array Oper}{n:Nat}(m:Nat)(is:List Nat){rem:List Nat}{st:St}(h:yM (lU.off P) ops c.n is st=some st')(ha:Any ab c S ops k n (is.foldl List.erase rem) R H st')(hc:JG ops rem is=true:=by decide +kernel)(hm:is.length=m:=by rfl):Any ab c S ops k (n+m) rem R H st:=by
 subst hm
 exact Any.vs' is h hc ha
end
section
variable {P:Program} {B:Base} {main:Bool} {ab:Jd P B main} {c:Ctx} {R:av} {H:ai} {st st':St} {o:Oper} {C:av→ai→St→Prop} {k:List Item}
theorem U.rg(is:List Nat){id:Nat}{ops:Array Oper}(h:U ab c R H st (.inRegion ops is::k))(hn:ops.size=is.length:=by rfl)(lH:List.range is.length=is:=by rfl):U ab c R H st (.code (.region id ops false)::k):=U.awv hn lH h
theorem U.dw(is:List Nat){id:Nat}{ops:Array Oper}(hm:P.follows .mixedOrders=true)(h:Any ab c (λ _=>H) ops k is.length is R H st)(hk:(c.kind == CallKind.early)=false:=by rfl)(hb:backward ops=true:=by decide +kernel)(hn:ops.size=is.length:=by rfl)(lH:List.range is.length=is:=by rfl):U ab c R H st (.code (.region id ops true)::k):=U.agE hm hk hb hn lH h
theorem Any.tk(i:Nat){N:ai}{ops:Array Oper}{n d:Nat}{rem:List Nat}{v:Value}(ho:ops[i]? = some o)(hS:∀ p∈N,p∈H)(hf:∀ R' H',aT R R'→(∀ p∈N,p∈H')→aW P B c o R' H' st λ R1 H1 uU=>R1=R'∧H1=H'∧uU=[(d,v)])
  (h:Any ab c (λ _=>N) ops k n (rem.erase i) R H ((d,v)::st)) (nJ:o.dst=some d:=by rfl) (hw:cF ops st o=some true:=by rfl) (jw:pB ops rem i (JK ops rem i)=true:=by decide +kernel) (dA:rem.Nodup:=by decide):Any ab c (λ _=>N) ops k (n+1) rem R H st :=
 Any.Bp _ ho nJ hw jw (λ _ _ _ _ _ hp=>hp) hS hf (aF.refl _) dA rfl h
theorem U.cv{ops:Array Oper}{i d:Nat}{rest:List Nat}{ca:Call}{x:Operand}{f:FuncId}{first captured:Array Value}{vs:List Value}{args:Array Value}{Post:Value→av→ai→Prop}(he:bj P f)(hf:ax ab f args R H Post)
  (h:∀ v R' H',Post v R' H'→U ab c R' H' ((d,v)::st) (.inRegion ops rest::k))
  (ho:ops[i]? = some o:=by rfl) (hw:cF ops st o=some true:=by rfl) (hk:(c.kind == CallKind.early)=false:=by rfl) (an:o.op = .call ca:=by rfl) (hc:ca.callee = .value x:=by rfl) (hx:bg st x=some (.func (.func f) first captured):=by rfl)
  (ha:ia st ca.args.toList=some vs:=by rfl) (Ez:first++vs.toArray++captured=args:=by rfl) (hd:o.dst=some d:=by rfl) (hl:Nat.blt d c.n=true:=by rfl):U ab c R H st (.inRegion ops (i::rest)::k) :=
 U.step ho hw hk (Ox.fx an hc hx ha he Ez (by rw [hd]; exact hl) (hf.mono λ v R' H' hp=>⟨_,.put hd,h v R' H' hp⟩))
theorem Any.cv(i:Nat){S:Nat→ai}{ops:Array Oper}{n d:Nat}{rem:List Nat}{ca:Call}{x:Operand}{f:FuncId}{first captured:Array Value}{vs:List Value}{args:Array Value}{Post:Value→av→ai→Prop}(he:bj P f)(hf:ax ab f args R H Post)
  (h:∀ v R' H',Post v R' H'→aT R R'∧(∀ p∈S i,p∈H→p∈H')∧Any ab c S ops k n (rem.erase i) R' H' ((d,v)::st))
  (ho:ops[i]? = some o:=by rfl) (hw:cF ops st o=some true:=by rfl) (an:o.op = .call ca:=by rfl) (hc:ca.callee = .value x:=by rfl) (hx:bg st x=some (.func (.func f) first captured):=by rfl)
  (ha:ia st ca.args.toList=some vs:=by rfl) (Ez:first++vs.toArray++captured=args:=by rfl) (hd:o.dst=some d:=by rfl) (hl:Nat.blt d c.n=true:=by rfl) (l8:rem.filter (m7 ops rem)=[i]:=by decide +kernel) (dA:rem.Nodup:=by decide):Any ab c S ops k (n+1) rem R H st :=
 Any.one ho l8 hw dA rfl (Ox.fx an hc hx ha he Ez (by rw [hd]; exact hl) (hf.mono λ v R' H' hp=>⟨_,.put hd,h v R' H' hp⟩))
theorem Any.on(i:Nat){S:Nat→ai}{ops:Array Oper}{n:Nat}{rem:List Nat}(ho:ops[i]? = some o)(hw:cF ops st o=some true)
  (h:n9 ab c o R H st λ R' H' st'=>aT R R'∧(∀ p∈S i,p∈H→p∈H')∧Any ab c S ops k n (rem.erase i) R' H' st') (l8:rem.filter (m7 ops rem)=[i]:=by decide +kernel) (dA:rem.Nodup:=by decide):Any ab c S ops k (n+1) rem R H st:=Any.one ho l8 hw dA rfl h
theorem U.ld{ops:Array Oper}{i d:Nat}{rest:List Nat}{x:Operand}{t:TypeId}{b off:Nat}{v:Value}(ht:gB P t)(hc:Cell R H ⟨b,off,none⟩ v)(h:U ab c R H ((d,v)::st) (.inRegion ops rest::k))
  (ho:ops[i]? = some o:=by rfl) (hw:cF ops st o=some true:=by rfl) (hk:(c.kind == CallKind.early)=false:=by rfl) (an:o.op = .load t x:=by rfl) (hx:bg st x=some (.pointer (some ⟨b,off,none⟩)):=by rfl) (hd:o.dst=some d:=by rfl) (hl:Nat.blt d c.n=true:=by rfl):U ab c R H st (.inRegion ops (i::rest)::k) :=
 U.gR ho hw hk (Ox.db an hx ht hc (by rw [hd]; exact hl) (.put hd) h)
theorem U.kn(t:Nat){x b:Bool}{todo:List Item}(hb:x=b)(h:U ab c R H ((t,.bool b)::st) todo)(hx:st.lookup t=some (.bool x):=by rfl):U ab c R H st todo:=U.known hx hb h
theorem U.s{ops:Array Oper}{i:Nat}{rest:List Nat}(ho:ops[i]? = some o)(hw:cF ops st o=some true)(h:aW P B c o R H st λ R' H' st'=>U ab c R' H' st' (.inRegion ops rest::k))(hk:(c.kind == CallKind.early)=false:=by rfl):U ab c R H st (.inRegion ops (i::rest)::k):=U.gR ho hw hk h
end
abbrev aI:List Nat:=[0]
abbrev aP:List Nat:=[0,1]
abbrev bn:List Nat:=[0,1,2]
abbrev bZ:List Nat:=[0,1,2,3]
abbrev cq:List Nat:=[0,1,2,3,4]
abbrev gm:List Nat:=[0,1,2,3,4,5]
abbrev eM:List Nat:=[0,1,2,3,4,5,6]
abbrev gi:List Nat:=[0,1,2,3,4,5,6,7]
abbrev my:List Nat:=[0,1,2,3,4,5,6,7,8]
abbrev nS:List Nat:=[0,1,2,3,4,5,6,7,8,9]
abbrev uP:List Nat:=[0,1,2,3,4,5,6,7,8,9,10]
abbrev Bj:List Nat:=[0,1,2,3,4,5,6,7,8,9,10,11]
abbrev abl:List Nat:=[0,1,2,3,4,5,6,7,8,9,10,11,12]
abbrev EB:List Nat:=[0,1,2,3,4,5,6,7,8,9,10,11,12,13]
abbrev TS:List Nat:=[0,1,2,3,4,5,6,7,8,9,10,11,12,13,14]
abbrev IW:List Nat:=[0,1,2,3,4,5,6,7,8,9,10,11,12,13,14,15]
abbrev IX:List Nat:=[0,1,2,3,4,5,6,7,8,9,10,11,12,13,14,15,16,17]
abbrev az6:List Nat:=[0,1,2,3,4,5,6,7,8,9,10,11,12,13,14,15,16,17,18,19,20,21]
abbrev awA:List Nat:=[0,1,2,3,4,5,6,7,8,9,10,11,12,13,14,15,16,17,18,19,20,21,22,23,24]
abbrev awB:List Nat:=[0,1,2,3,4,5,6,7,8,9,10,11,12,13,14,15,16,17,18,19,20,21,22,23,24,25]
abbrev abm:List Nat:=[0,1,2,3,4,5,6,7,8,9,10,11,12,13,14,15,16,17,18,19,20,21,22,23,24,25,26]
abbrev awC:List Nat:=[0,1,2,3,4,5,6,7,8,9,10,11,12,13,14,15,16,17,18,19,20,21,22,23,24,25,26,27]
abbrev awD:List Nat:=[0,1,2,3,4,5,6,7,8,9,10,11,12,13,14,15,16,17,18,19,20,21,22,23,24,25,26,27,28]
abbrev az7:List Nat:=[0,1,2,3,4,5,6,7,8,9,10,11,12,13,14,15,16,17,18,19,20,21,22,23,24,25,26,27,28,29,30]
abbrev ad3:List Nat:=[0,1,2,3,4,5,6,7,8,9,10,11,12,13,14,15,16,17,18,19,20,21,22,23,24,25,26,27,28,29,30,31]
abbrev awE:List Nat:=[0,1,2,3,4,5,6,7,8,9,10,11,12,13,14,15,16,17,18,19,20,21,22,23,24,25,26,27,28,29,30,31,32,33,34,35,36,37]
abbrev az8:List Nat:=[0,1,2,3,4,5,6,7,8,9,10,11,12,13,14,15,16,17,18,19,20,21,22,23,24,25,26,27,28,29,30,31,32,33,34,35,36,37,38]
abbrev awF:List Nat:=[0,1,2,3,4,5,6,7,8,9,10,11,12,13,14,15,16,17,18,19,20,21,22,23,24,25,26,27,28,29,30,31,32,33,34,35,36,37,38,39,40,41]
abbrev awG:List Nat:=[0,1,2,3,4,5,6,7,8,9,10,11,12,13,14,15,16,17,18,19,20,21,22,23,24,25,26,27,28,29,30,31,32,33,34,35,36,37,38,39,40,41,42]
abbrev awH:List Nat:=[0,1,2,3,4,5,6,7,8,9,10,11,12,13,14,15,16,17,18,19,20,21,22,23,24,25,26,27,28,29,30,31,32,33,34,35,36,37,38,39,40,41,42,43,44]
abbrev awI:List Nat:=[0,1,2,3,4,5,6,7,8,9,10,11,12,13,14,15,16,17,18,19,20,21,22,23,24,25,26,27,28,29,30,31,32,33,34,35,36,37,38,39,40,41,42,43,44,45,46,47,48,49,50,51]
end Go.Lg
namespace Go.Lg
section
variable {α:Type} {a Cj Fq Jy Og W2 agj aFh aFi x:α} {l l₁ C3:List α}
theorem so(h:List.Sublist l₁ C3):List.Sublist l₁ (a::C3):=h.cons a
theorem sk(h:List.Sublist l₁ C3):List.Sublist (a::l₁) (a::C3):=List.Sublist.cons_cons a h
theorem sr:List.Sublist l l:=.refl _
theorem sn:List.Sublist [] l:=List.nil_sublist _
theorem su(h:List.Sublist l₁ C3):∀ p∈l₁,p∈C3:=λ _ hp=>h.subset hp
theorem pp:∀ p∈l,p∈l:=λ _ h=>h
theorem z0:x∈x::l:=.head _
theorem z1:x∈a::x::l:=.tail _ z0
theorem z2:x∈a::Cj::x::l:=.tail _ z1
theorem z3:x∈a::Cj::Fq::x::l:=.tail _ z2
theorem z4:x∈a::Cj::Fq::Jy::x::l:=.tail _ z3
theorem z5:x∈a::Cj::Fq::Jy::Og::x::l:=.tail _ z4
theorem z6:x∈a::Cj::Fq::Jy::Og::W2::x::l:=.tail _ z5
theorem z7:x∈a::Cj::Fq::Jy::Og::W2::agj::x::l:=.tail _ z6
end
section
variable {P:Program} {B:Base} {main:Bool} {ab:Jd P B main} {c:Ctx} {R:av} {H:ai} {st st':St} {o:Oper} {k:List Item}
theorem sq{x y:Code}(h:U ab c R H st (.code x :: .code y::k)):U ab c R H st (.code (.seq x y)::k):=U.seq h
theorem er{ops:Array Oper}(h:U ab c R H st k):U ab c R H st (.inRegion ops []::k):=U.aU h
theorem es{ops:Array Oper}{x y:Code}(h:U ab c R H st (.code x :: .code y::k)):U ab c R H st (.inRegion ops [] :: .code (.seq x y)::k):=U.aU (U.seq h)
theorem sg(is:List Nat){id:Nat}{ops:Array Oper}{y:Code}(h:U ab c R H st (.inRegion ops is :: .code y::k))(hn:ops.size=is.length:=by rfl)(lH:List.range is.length=is:=by rfl):U ab c R H st (.code (.seq (.region id ops false) y)::k):=U.seq (U.rg is h hn lH)
theorem nx(is:List Nat){id:Nat}{os ops:Array Oper}{y:Code}(h:U ab c R H st (.inRegion ops is :: .code y::k))(hn:ops.size=is.length:=by rfl)(lH:List.range is.length=is:=by rfl):U ab c R H st (.inRegion os [] :: .code (.seq (.region id ops false) y)::k):=U.aU (sg is h hn lH)
theorem sp(h:U ab c R H st k):U ab c R H st (.code .skip::k):=U.skip h
theorem vs[lU P](m:Nat){ops:Array Oper}{is qb:List Nat}(ha:U ab c R H st' (.inRegion ops qb::k))(h:yM (lU.off P) ops c.n (is.take m) st=some st':=by rfl)(hr:is.drop m=qb:=by rfl)(hk:(c.kind == CallKind.early)=false:=by rfl):U ab c R H st (.inRegion ops is::k):=U.vs m h hr ha hk
theorem ld(j:Nat){ops:Array Oper}{i d:Nat}{rest:List Nat}{x:Operand}{t e:TypeId}{b:Nat}{fz:Nat × Nat}{L:List Value}{v:Value}(ht:gB P t)(hm:(b,Obj.cells L.toArray e fz)∈H)(h:U ab c R H ((d,v)::st) (.inRegion ops rest::k))(hj:L[j]? = some v:=by rfl)
  (ho:ops[i]? = some o:=by rfl) (hw:cF ops st o=some true:=by rfl) (hk:(c.kind == CallKind.early)=false:=by rfl) (an:o.op = .load t x:=by rfl) (hx:bg st x=some (.pointer (some ⟨b,0+j,none⟩)):=by rfl) (hd:o.dst=some d:=by rfl) (hl:Nat.blt d c.n=true:=by rfl):U ab c R H st (.inRegion ops (i::rest)::k) :=
 U.ld ht ((aM.box hm).one hj) h ho hw hk an hx hd hl
theorem lN(vs:List Value)(j n:Nat){ops:Array Oper}{i d:Nat}{rest:List Nat}{x:Operand}{t e:TypeId}{b:Nat}{fz:Nat × Nat}{L:List Value}{m:Nat}(ht:mB P t m)(hm:(b,Obj.cells L.toArray e fz)∈H)(h:U ab c R H ((d,.agg vs.toArray)::st) (.inRegion ops rest::k))(hv:(L.drop j).take n=vs:=by rfl)
  (ho:ops[i]? = some o:=by rfl) (hw:cF ops st o=some true:=by rfl) (hk:(c.kind == CallKind.early)=false:=by rfl) (an:o.op = .load t x:=by rfl) (hx:bg st x=some (.pointer (some ⟨b,0+j,none⟩)):=by rfl) (hn:vs.length=m:=by rfl) (hd:o.dst=some d:=by rfl) (hl:Nat.blt d c.n=true:=by rfl):U ab c R H st (.inRegion ops (i::rest)::k) :=
 U.s ho hw (Ox.bU an hx ht hn ((aM.box hm).part hv) (by rw [hd]; exact hl) (.put hd) h) hk
theorem bx{ops:Array Oper}{i d:Nat}{rest:List Nat}{x:Operand}{t:TypeId}{vs:Array Value}(h:∀ b,U ab c R ((b,.cells vs t)::H) ((d,.pointer (some ⟨b,0,none⟩))::st) (.inRegion ops rest::k))
  (ho:ops[i]? = some o:=by rfl) (hw:cF ops st o=some true:=by rfl) (hk:(c.kind == CallKind.early)=false:=by rfl) (an:o.op = .box t x:=by rfl) (hx:bg st x=some (.agg vs):=by rfl) (hd:o.dst=some d:=by rfl) (hl:Nat.blt d c.n=true:=by rfl):U ab c R H st (.inRegion ops (i::rest)::k) :=
 U.s ho hw (Ox.WT an hx (by rw [hd]; exact hl) λ b _ _=>⟨_,.put hd,h b⟩) hk
theorem sc{α:Type}{t:Bool}{a b:Option α}{r:α}{x:Operand}{th el:Code}(hM:ag t a b=some r)(h1:t=true→a=some r→U ab c R H st (.code th::k))(h2:t=false→b=some r→U ab c R H st (.code el::k))(hx:bg st x=some (.bool t):=by rfl):U ab c R H st (.code (.cond x th el)::k) :=
 bC hM (λ h hM=>U.fe hx h (h1 h hM)) (λ h hM=>U.dW hx h (h2 h hM))
theorem ls{α:Type}{K:cx α}{n:Nat}{ops:Array Oper}{i d:Nat}{rest:List Nat}{x:Operand}{t e:TypeId}{v:Value}{xs:List α}(hl:ae K n R v xs)(ht:P.underlying t=some (.slice e))(h:U ab c R H ((d,.int .i64 (xs.length:Int))::st) (.inRegion ops rest::k))
  (ho:ops[i]? = some o:=by rfl) (hw:cF ops st o=some true:=by rfl) (hk:(c.kind == CallKind.early)=false:=by rfl) (an:o.op = .call ⟨.builtin .len,#[x],#[t]⟩:=by rfl) (hx:bg st x=some v:=by rfl) (hd:o.dst=some d:=by rfl) (hn:Nat.blt d c.n=true:=by rfl):U ab c R H st (.inRegion ops (i::rest)::k) :=
 U.s ho hw (Ox.uF an hx hl ht (by rw [hd]; exact hn) (.put hd) h) hk
theorem lr{α:Type}{K:cx α}{n:Nat}{ops:Array Oper}{i d:Nat}{rest:List Nat}{x:Operand}{t e:TypeId}{v:Value}{xs:List α}{H0:ai}(hl:cO K n R H0 v xs)(ht:P.underlying t=some (.slice e))(h:U ab c R H ((d,.int .i64 (xs.length:Int))::st) (.inRegion ops rest::k))
  (ho:ops[i]? = some o:=by rfl) (hw:cF ops st o=some true:=by rfl) (hk:(c.kind == CallKind.early)=false:=by rfl) (an:o.op = .call ⟨.builtin .len,#[x],#[t]⟩:=by rfl) (hx:bg st x=some v:=by rfl) (hd:o.dst=some d:=by rfl) (hn:Nat.blt d c.n=true:=by rfl):U ab c R H st (.inRegion ops (i::rest)::k) :=
 U.s ho hw (Ox.SZ an hx hl ht (by rw [hd]; exact hn) (.put hd) h) hk
theorem rt{fr:Frame}{cs:List Frame}{f:FuncId}{n:Nat}{fn:Func}{vs:List Value}{H':ai}(hf:P.funcs[f]? = some fn)(hr:oa P R H st fn.results.toList vs)(hs:List.Sublist H' H)(hj:ab.J R H' (aX (fr.finish (gG vs)) cs)):U ab ⟨f,.normal,none,n,[],fr::cs⟩ R H st (.code .ret::k) :=
 U.Bi hf hr (J.drop hs hj)
theorem ts(i:Nat){ops:Array Oper}{n d:Nat}{rem:List Nat}{S:Nat→ai}{v:Value}{N:ai}(D:List Nat)(ho:ops[i]? = some o)(vC:∀ j∈rem,j≠i→j ∉ D→∀ p∈N,p∈S j)(hS:∀ p∈N,p∈H)
  (hf:∀ R' H',aT R R'→(∀ p∈N,p∈H')→aW P B c o R' H' st λ R1 H1 uU=>R1=R'∧H1=H'∧uU=[(d,v)]) (h:Any ab c S ops k n (rem.erase i) R H ((d,v)::st))
  (nJ:o.dst=some d:=by rfl) (hw:cF ops st o=some true:=by rfl) (jw:pB ops rem i D=true:=by decide +kernel) (dA:rem.Nodup:=by decide):Any ab c S ops k (n+1) rem R H st :=
 Any.Bp D ho nJ hw jw vC hS hf (aF.refl _) dA rfl h
theorem tl(i j:Nat){ops:Array Oper}{n d:Nat}{rem:List Nat}{x:Operand}{t e:TypeId}{b:Nat}{fz:Nat × Nat}{L:List Value}{v:Value}(ht:gB P t)(hm:(b,Obj.cells L.toArray e fz)∈H)(h:Any ab c (λ _=>H) ops k n (rem.erase i) R H ((d,v)::st))(hj:L[j]? = some v:=by rfl)
  (ho:ops[i]? = some o:=by rfl) (an:o.op = .load t x:=by rfl) (hx:bg st x=some (.pointer (some ⟨b,0+j,none⟩)):=by rfl) (nJ:o.dst=some d:=by rfl) (hl:Nat.blt d c.n=true:=by rfl) (hw:cF ops st o=some true:=by rfl) (jw:pB ops rem i (JK ops rem i)=true:=by decide +kernel) (dA:rem.Nodup:=by decide):Any ab c (λ _=>H) ops k (n+1) rem R H st :=
 Any.tk i ho pp (λ _ _ _ hS=>Ox.db an hx ht ((aM.box (hS _ hm)).one hj) (by rw [nJ]; exact hl) (.one nJ) ⟨rfl,rfl,rfl⟩) h nJ hw jw dA
theorem tN(i:Nat)(vs:List Value)(j m:Nat){ops:Array Oper}{n d:Nat}{rem:List Nat}{x:Operand}{t e:TypeId}{b:Nat}{fz:Nat × Nat}{L:List Value}{q:Nat}(ht:mB P t q)(hm:(b,Obj.cells L.toArray e fz)∈H)(h:Any ab c (λ _=>H) ops k n (rem.erase i) R H ((d,.agg vs.toArray)::st))(hv:(L.drop j).take m=vs:=by rfl)
  (ho:ops[i]? = some o:=by rfl) (an:o.op = .load t x:=by rfl) (hx:bg st x=some (.pointer (some ⟨b,0+j,none⟩)):=by rfl) (hq:vs.length=q:=by rfl) (nJ:o.dst=some d:=by rfl) (hl:Nat.blt d c.n=true:=by rfl) (hw:cF ops st o=some true:=by rfl) (jw:pB ops rem i (JK ops rem i)=true:=by decide +kernel) (dA:rem.Nodup:=by decide):Any ab c (λ _=>H) ops k (n+1) rem R H st :=
 Any.tk i ho pp (λ _ _ _ hS=>Ox.bU an hx ht hq ((aM.box (hS _ hm)).part hv) (by rw [nJ]; exact hl) (.one nJ) ⟨rfl,rfl,rfl⟩) h nJ hw jw dA
theorem tw(i j:Nat){S:Nat→ai}{ops:Array Oper}{n:Nat}{rem:List Nat}{a b:Oper}(h1:n9 ab c a R H st λ R' H' st'=>aT R R'∧(∀ p∈S i,p∈H→p∈H')∧Any ab c S ops k n (rem.erase i) R' H' st')
  (h2:n9 ab c b R H st λ R' H' st'=>aT R R'∧(∀ p∈S j,p∈H→p∈H')∧Any ab c S ops k n (rem.erase j) R' H' st') (ha:ops[i]? = some a:=by rfl) (hb:ops[j]? = some b:=by rfl) (l8:rem.filter (m7 ops rem)=[i,j]:=by decide +kernel) (GV:cF ops st a=some true:=by rfl) (GX:cF ops st b=some true:=by rfl) (dA:rem.Nodup:=by decide):Any ab c S ops k (n+1) rem R H st :=
 Any.axL ha hb l8 GV GX dA rfl rfl h1 h2
theorem ka{H X:ai}:∀ p∈H,p∈X→p∈H:=λ _ h _=>h
theorem kp{R:av}{H X:ai}{C:Prop}(h:C):aT R R∧(∀ p∈H,p∈X→p∈H)∧C:=⟨aT.refl _,ka,h⟩
theorem ku{H H' X:ai}(h:List.Sublist H H'):∀ p∈H,p∈X→p∈H':=λ _ hp _=>h.subset hp
theorem rr{R:av}:aT R R:=aT.refl _
end
abbrev CZ:cx Int:=CI .i64
end Go.Lg
namespace Go.Lg
open Go.Conc
def rB(v:Value)(lo k:Nat):Value:=match v with | .slice A n cap=>.slice (if cap=lo then A else A.map (·.add (lo * k))) (n - lo) (cap - lo) | v=>v
def xP(xs:List Int)(lo:Nat):List Int:=xs.take lo++List.replicate (xs.length - lo) 0
theorem agu{α:Type}{xs ys:List α}{lo hi:Int}(h:od xs lo hi=some ys):lo.toNat≤xs.length:=by
 obtain ⟨h1,h2,h3,_⟩:=Fy h
 omega
section
variable {P:Program} {B:Base} {main:Bool} {ab:Jd P B main} {c:Ctx} {R:av} {H H':ai} {st st':St} {o:Oper} {C:av→ai→St→Prop}
theorem bK.view{α:Type}{K:cx α}{k e:Nat}{v:Value}{xs:List α}{Hs:ai}{lo:Nat}(h:bK K k e R v xs Hs)(hs:∀ p∈Hs,p∈H):cO K k R H (rB v lo k) (xs.drop lo):=by
 obtain ⟨A,cap,es,rfl,hE,tT,hm⟩:=h.rd hs
 refine ⟨if cap=lo then A else A.map (·.add (lo * k)),cap - lo,es.drop (lo * k),by simp [rB],hE.drop,by simp; omega,λ eB=>?_⟩
 have bJ:lo < xs.length:=by
  apply Classical.byContradiction
  intro hn
  exact eB (List.drop_eq_nil_of_le (by omega))
 obtain ⟨b,o',rfl,g2⟩:=hm (by rintro rfl; simp at bJ)
 refine ⟨b,o'+lo * k,?_,λ j w hj=>?_⟩
 ·rw [if_neg (by omega)]; simp [pK]
 ·rw [List.getElem?_drop] at hj
  have:=g2 _ _ hj
  simpa [Nat.add_assoc] using this
theorem bK.ab1{α:Type}{K:cx α}{k t e e':Nat}{v:Value}{xs ys:List α}{Hs:ai}{lo:Int}(h:bK K k e R v xs Hs)(ht:lV P t e' k)(hc:od xs lo (xs.length:Int)=some ys):B5 P t k v (xs.length:Int) lo (xs.length:Int) (rB v lo.toNat k):=by
 obtain ⟨h1,h2,h3,_⟩:=Fy hc
 obtain ⟨A,cap,es,rfl,hE,tT,hm⟩:=h.rd (H:=Hs) (λ _ h=>h)
 intro ρ st x lo' hi ba hx hl hh
 rw [Int.toNat_natCast] at hh
 rw [hx]
 unfold Instr.sliceAt
 refine ah.bind (ah.underlying ht.1) ?_
 unfold Instr.slice
 refine ah.bind (ah.underlying ht.1) (ah.bind (Mj ba hl hh ⟨h1,h2,h3⟩ tT) (ah.bind ht.2 ?_))
 simp only [rB,Int.toNat_natCast]
 exact ah.pure _
theorem bK.front{α:Type}{K:cx α}{k t e e':Nat}{v:Value}{xs ys:List α}{Hs:ai}{hi:Int}(h:bK K k e R v xs Hs)(ht:lV P t e' k)(hc:od xs 0 hi=some ys):∃ v',bK K k e R v' ys Hs∧B5 P t k v (xs.length:Int) 0 hi v':=by
 obtain ⟨h1,h2,h3,rfl⟩:=Fy hc
 have key:∀ A cap,v = .slice A xs.length cap→xs.length≤cap→B5 P t k v (xs.length:Int) 0 hi (.slice (if cap=0 then A else A.map (·.add (0 * k))) (hi.toNat - 0) (cap - 0)):=by
  rintro A cap rfl tT ρ st x lo' oz ba hx hl hh
  rw [Int.toNat_natCast] at hh
  rw [hx]
  unfold Instr.sliceAt
  refine ah.bind (ah.underlying ht.1) ?_
  unfold Instr.slice
  exact ah.bind (ah.underlying ht.1) (ah.bind (Mj ba hl hh ⟨h1,h2,h3⟩ tT) (ah.bind ht.2 (ah.pure _)))
 rcases h with ⟨A,rfl,rfl,rfl⟩ | ⟨b,cap,cs,es,rfl,rfl,g3,g4,g5,g6⟩
 ·have:=key A 0 rfl (Nat.le_refl _)
  have h0:hi.toNat=0:=by simp at h3; omega
  rw [h0] at this
  exact ⟨_,.inl ⟨A,rfl,by simp,rfl⟩,by simpa using this⟩
 ·refine ⟨_,?_,key _ cap rfl g4⟩
  have tU:((xs.take hi.toNat).drop (0:Int).toNat).length=hi.toNat:=by simp; omega
  refine .inr ⟨b,cap,cs,es.take (hi.toNat * k),?_,rfl,g3,by rw [tU]; omega,by simpa using g5.take,λ j w hj=>?_⟩
  ·rw [tU]
   congr 1
   split <;> simp [pK]
  ·rw [List.getElem?_take] at hj
   split at hj
   ·exact g6 _ _ hj
   ·cases hj
theorem Ox.atd{α:Type}{K:cx α}{k e' lo:Nat}{x:Operand}{t e:TypeId}{v:Value}{xs:List α}{Hs:ai}(an:o.op = .call ⟨.builtin .len,#[x],#[t]⟩)(hx:bg st x=some (rB v lo k))(hl:bK K k e' R v xs Hs)(ht:P.underlying t=some (.slice e))
  (hd:bQ o.dst c.n) (hs:aF (bT o.dst (.int .i64 ((xs.drop lo).length:Int)) st) st') (h:C R H st'):aW P B c o R H st C :=
 Ox.SZ an hx (hl.view (H:=Hs) (λ _ h=>h)) ht hd hs h
theorem Ox.ago{t e lo:Nat}(G:ai→ai){x:Operand}{v:Value}{xs:List Int}{Hs:ai}(an:o.op = .call ⟨.builtin .clear,#[x],#[t]⟩)(hx:bg st x=some (rB v lo 1))(ht:lV P t e 1)(hz:iK P e #[.int .i64 0])(hG:kK G)
  (hO:bK (CI .i64) 1 e R v xs Hs) (hlo:lo≤xs.length) (hd:bQ o.dst c.n) (hC:∀ dG,bK (CI .i64) 1 e R v (xP xs lo) dG→∃ st',aF (bT o.dst (.tuple #[]) st) st'∧C R (G dG) st'):aW P B c o R (G Hs) st C:=by
 refine ⟨by rw [an]; rfl,hd,λ ρ ba=>?_⟩
 simp only [execOp,an]
 refine ah.dM (a:=⟨.builtin .clear #[t] o.type (#[x].map λ | .const _=>true | _=>false),#[x].map ρ⟩) (ah.pure _) ?_
 simp only [invoke,builtin]
 have e1:(#[x].map ρ)=#[rB v lo 1]:=by simp [ba x _ hx]
 rw [e1]
 have fin:∀ dG,bK (CI .i64) 1 e R v (xP xs lo) dG→aL P B R (G dG) (pure (Value.tuple #[])) λ a R' H'=>aL P B R' H' (pure (Next.value a)) λ nx R' H'=>∃ v,(nx = .value v∨(nx = .skip∧v=undef))∧∃ st',aF (bT o.dst v st) st'∧C R' H' st':=λ dG h=>by
  obtain ⟨st',hs,hC'⟩:=hC dG h
  exact aL.pure (aL.pure ⟨_,.inl rfl,st',hs,hC'⟩)
 refine aL.bind ?_
 unfold Builtin.clear_
 refine ah.dM (ah.underlying ht.1) ?_
 by_cases hn:xs.length - lo=0
 ·have hv:∃ A cap,rB v lo 1 = .slice A 0 cap:=by
   obtain ⟨A,cap,es,rfl,_⟩:=hO.rd (H:=Hs) (λ _ h=>h)
   exact ⟨_,_,by simp only [rB,hn]; rfl⟩
  obtain ⟨A,cap,hv⟩:=hv
  rw [hv]
  have Ng:xP xs lo=xs:=by
   unfold xP
   rw [hn,List.replicate_zero,List.append_nil,List.take_of_length_le (by omega)]
  rw [Ng] at fin
  cases A with
  | none=>exact aL.bind (aL.pure (fin Hs hO))
  | some a=>exact aL.bind (aL.pure (fin Hs hO))
 ·rcases hO with ⟨A,rfl,rfl,rfl⟩ | ⟨b,cap,cs,es,rfl,rfl,g3,g4,g5,g6⟩
  ·simp at hn
  ·have hv:rB (.slice (some ⟨b,0,none⟩) xs.length cap) lo 1 = .slice (some ⟨b,lo,none⟩) (xs.length - lo) (cap - lo):=by
    simp only [rB]
    rw [if_neg (by omega)]
    simp [pK]
   rw [hv]
   obtain ⟨m,hm⟩:∃ m,xs.length - lo=m+1:=⟨xs.length - lo - 1,by omega⟩
   rw [hm]
   dsimp only
   obtain ⟨z0,hz0,hzc⟩:=hz
   refine ah.dM hz0 (aL.bind ?_)
   have QD:(Builtin.zeroCells z0.cells (m+1)).toList=List.replicate (m+1) (Value.int .i64 0):=by
    rw [hzc]
    apply List.ext_getElem?
    intro j
    simp only [Builtin.zeroCells]
    by_cases hj:j < m+1
    ·simp [hj,Nat.mod_one]
    ·simp [hj]
   rw [QD]
   have fp:lo+(m+1)≤cs.size:=by omega
   refine aL.given λ dA=>aL.Ig _ cs lo 0 (G [(b,.cells cs e (0,0))]) (G [(b,.cells (ft cs lo (List.replicate (m+1) (Value.int .i64 0))) e (0,0))]) (λ u hu=>by rw [List.eq_of_mem_replicate hu]; rfl) (by simp; omega) (by simpa using kK.set hG) dA ?_
   have Y2:(xP xs lo).length=xs.length:=by simp [xP]; omega
   refine fin _ (.inr ⟨b,cap,ft cs lo (List.replicate (m+1) (Value.int .i64 0)),es.take lo++List.replicate (m+1) (Value.int .i64 0),by rw [Y2],rfl,by rw [H5]; exact g3,by rw [Y2]; exact g4,?_,λ j w hj=>?_⟩)
   ·have h1:=g5.take (n:=lo)
    rw [Nat.mul_one] at h1
    unfold xP
    rw [hm]
    refine h1.append ?_
    refine ⟨by simp,λ i x hx=>?_⟩
    rw [List.getElem?_replicate] at hx
    split at hx
    ·rename_i hi
     cases hx
     refine ⟨[.int .i64 0],rfl,rfl,λ j w hj=>?_⟩
     have hj1:=(List.getElem?_eq_some_iff.1 hj).1
     have hj0:j=0:=by simp at hj1; omega
     subst hj0
     rw [Nat.mul_one,List.getElem?_replicate,if_pos (by omega)]
     exact hj
    ·cases hx
   ·have lb:=g5.len
    rw [Nat.mul_one] at lb
    rw [yJ _ _ _ _ (by simp; omega)]
    rcases Nat.lt_or_ge j lo with Cz | Cz
    ·rw [List.getElem?_append_left (by simp; omega),List.getElem?_take,if_pos Cz] at hj
     rw [if_neg (by omega)]
     exact g6 _ _ hj
    ·rw [List.getElem?_append_right (by simp; omega)] at hj
     have Zb:(es.take lo).length=lo:=by simp; omega
     rw [Zb] at hj
     have bJ:=(List.getElem?_eq_some_iff.1 hj).1
     rw [if_pos ⟨Cz,by simp at bJ ⊢; omega⟩]
     exact hj
end
end Go.Lg
namespace Go.Lg
def af{α:Type}(a b:Option α):Prop:=∀ r,a=some r→b=some r
theorem af.refl{α:Type}(a:Option α):af a a:=λ _ h=>h
theorem af.none{α:Type}{b:Option α}:af none b:=λ _ h=>by cases h
theorem af.bind{α β:Type}{a a':Option α}{f f':α→Option β}(h:af a a')(hf:∀ x,af (f x) (f' x)):af (a.bind f) (a'.bind f'):=by
 intro r hr
 obtain ⟨x,hx,hr⟩:=aj hr
 rw [h x hx]
 exact hf x r hr
theorem af.ag{α:Type}{t:Bool}{a a' b b':Option α}(h:af a a')(h':af b b'):af (ag t a b) (ag t a' b'):=by
 cases t
 ·exact h'
 ·exact h
def po{S O:Type}(body:S→Option (S ⊕ O))(s:S):Option O:=me body 200 s
theorem af.me{S O:Type}{body Fo:S→Option (S ⊕ O)}(h:∀ s,af (body s) (Fo s)):∀ (n:Nat) (s:S),af (Go.Lg.me body n s) (bN Fo s)
 | 0,_=>λ _ hr=>by cases hr
 | n+1,s=>λ r hr=>by
  simp only [Go.Lg.me] at hr
  cases hb:body s with
  | none=>rw [hb] at hr; cases hr
  | some x =>
   rw [hb] at hr
   have fQ:=h s x hb
   cases x with
   | inl s'=>rw [Hl fQ]; exact af.me h n s' r hr
   | inr o=>cases hr; exact yq fQ
theorem af.loop{S O:Type}{body Fo:S→Option (S ⊕ O)}{s:S}(h:∀ s,af (body s) (Fo s)):af (po body s) (bN Fo s):=af.me h 200 s
theorem af.elim{α β γ:Type}{f f':α→Option γ}{g g':β→Option γ}(h:∀ x,af (f x) (f' x))(h':∀ x,af (g x) (g' x))(x:α ⊕ β):af (Sum.elim f g x) (Sum.elim f' g' x):=by
 cases x
 ·exact h _
 ·exact h' _
theorem af.fB{α S O:Type}{f f':α→S→Option (S ⊕ O)}(h:∀ x s,af (f x s) (f' x s))(x:α)(s:S ⊕ O):af (Go.Lg.fB f x s) (Go.Lg.fB f' x s):=by
 intro r hr
 cases s with
 | inr s=>cases hr
 | inl s =>
  simp only [Go.Lg.fB] at hr ⊢
  cases hf:f x s with
  | none=>rw [hf] at hr; cases hr
  | some z=>rw [hf] at hr; rw [h x s z hf]; exact hr
theorem af.mapM{α β:Type}{f f':α→Option β}(h:∀ x,af (f x) (f' x)):∀ l:List α,af (l.mapM f) (l.mapM f')
 | []=>af.refl _
 | a::l=>by
  intro r hr
  rw [List.mapM_cons] at hr ⊢
  cases ha:f a with
  | none=>rw [ha] at hr; simp at hr
  | some b =>
   cases hl:l.mapM f with
   | none=>rw [ha,hl] at hr; simp at hr
   | some bs =>
    rw [ha,hl] at hr
    rw [h a b ha,af.mapM h l bs hl]
    exact hr
end Go.Lg
namespace Go.Lg
abbrev ao:Value:=.slice none 0 0
theorem bz{α β:Sort _}{a:α}{b:β}:a=a∧b=b:=⟨rfl,rfl⟩
theorem aB{α β γ:Sort _}{a:α}{b:β}{d:γ}:a=a∧b=b∧d=d:=⟨rfl,rfl,rfl⟩
theorem az{st st':St}(h:bS st st'):aF st st':=bS.sub h
theorem qB{a0:Option Value}:a0=a0∧True:=⟨rfl,trivial⟩
theorem ey{a0 a1:Option Value}:a0=a0∧a1=a1∧True:=⟨rfl,rfl,trivial⟩
theorem eY{a0 a1 a2:Option Value}:a0=a0∧a1=a1∧a2=a2∧True:=⟨rfl,rfl,rfl,trivial⟩
theorem cN{a0 a1 a2 a3:Option Value}:a0=a0∧a1=a1∧a2=a2∧a3=a3∧True:=⟨rfl,rfl,rfl,rfl,trivial⟩
theorem fI{a0 a1 a2 a3 a4:Option Value}:a0=a0∧a1=a1∧a2=a2∧a3=a3∧a4=a4∧True:=⟨rfl,rfl,rfl,rfl,rfl,trivial⟩
theorem mx{a0 a1 a2 a3 a4 a5:Option Value}:a0=a0∧a1=a1∧a2=a2∧a3=a3∧a4=a4∧a5=a5∧True:=⟨rfl,rfl,rfl,rfl,rfl,rfl,trivial⟩
theorem jU{a0 a1 a2 a3 a4 a5 a6:Option Value}:a0=a0∧a1=a1∧a2=a2∧a3=a3∧a4=a4∧a5=a5∧a6=a6∧True:=⟨rfl,rfl,rfl,rfl,rfl,rfl,rfl,trivial⟩
theorem uK{a0 a1 a2 a3 a4 a5 a6 a7:Option Value}:a0=a0∧a1=a1∧a2=a2∧a3=a3∧a4=a4∧a5=a5∧a6=a6∧a7=a7∧True:=⟨rfl,rfl,rfl,rfl,rfl,rfl,rfl,rfl,trivial⟩
theorem xl{a0 a1 a2 a3 a4 a5 a6 a7 a8:Option Value}:a0=a0∧a1=a1∧a2=a2∧a3=a3∧a4=a4∧a5=a5∧a6=a6∧a7=a7∧a8=a8∧True:=⟨rfl,rfl,rfl,rfl,rfl,rfl,rfl,rfl,rfl,trivial⟩
theorem DI{a0 a1 a2 a3 a4 a5 a6 a7 a8 a9:Option Value}:a0=a0∧a1=a1∧a2=a2∧a3=a3∧a4=a4∧a5=a5∧a6=a6∧a7=a7∧a8=a8∧a9=a9∧True:=⟨rfl,rfl,rfl,rfl,rfl,rfl,rfl,rfl,rfl,rfl,trivial⟩
theorem Lr{a0 a1 a2 a3 a4 a5 a6 a7 a8 a9 lX:Option Value}:a0=a0∧a1=a1∧a2=a2∧a3=a3∧a4=a4∧a5=a5∧a6=a6∧a7=a7∧a8=a8∧a9=a9∧lX=lX∧True:=⟨rfl,rfl,rfl,rfl,rfl,rfl,rfl,rfl,rfl,rfl,rfl,trivial⟩
theorem aay{a0 a1 a2 a3 a4 a5 a6 a7 a8 a9 lX oZ:Option Value}:a0=a0∧a1=a1∧a2=a2∧a3=a3∧a4=a4∧a5=a5∧a6=a6∧a7=a7∧a8=a8∧a9=a9∧lX=lX∧oZ=oZ∧True:=⟨rfl,rfl,rfl,rfl,rfl,rfl,rfl,rfl,rfl,rfl,rfl,rfl,trivial⟩
theorem aF5{a0 a1 a2 a3 a4 a5 a6 a7 a8 a9 lX oZ rQ:Option Value}:a0=a0∧a1=a1∧a2=a2∧a3=a3∧a4=a4∧a5=a5∧a6=a6∧a7=a7∧a8=a8∧a9=a9∧lX=lX∧oZ=oZ∧rQ=rQ∧True:=⟨rfl,rfl,rfl,rfl,rfl,rfl,rfl,rfl,rfl,rfl,rfl,rfl,rfl,trivial⟩
theorem sO{a0 a1 a2 a3 a4 a5 a6 a7 a8 a9 lX oZ rQ xH:Option Value}:a0=a0∧a1=a1∧a2=a2∧a3=a3∧a4=a4∧a5=a5∧a6=a6∧a7=a7∧a8=a8∧a9=a9∧lX=lX∧oZ=oZ∧rQ=rQ∧xH=xH∧True:=⟨rfl,rfl,rfl,rfl,rfl,rfl,rfl,rfl,rfl,rfl,rfl,rfl,rfl,rfl,trivial⟩
theorem aF6{a0 a1 a2 a3 a4 a5 a6 a7 a8 a9 lX oZ rQ xH E4:Option Value}:a0=a0∧a1=a1∧a2=a2∧a3=a3∧a4=a4∧a5=a5∧a6=a6∧a7=a7∧a8=a8∧a9=a9∧lX=lX∧oZ=oZ∧rQ=rQ∧xH=xH∧E4=E4∧True:=⟨rfl,rfl,rfl,rfl,rfl,rfl,rfl,rfl,rfl,rfl,rfl,rfl,rfl,rfl,rfl,trivial⟩
theorem aF7{a0 a1 a2 a3 a4 a5 a6 a7 a8 a9 lX oZ rQ xH E4 V8:Option Value}:a0=a0∧a1=a1∧a2=a2∧a3=a3∧a4=a4∧a5=a5∧a6=a6∧a7=a7∧a8=a8∧a9=a9∧lX=lX∧oZ=oZ∧rQ=rQ∧xH=xH∧E4=E4∧V8=V8∧True:=⟨rfl,rfl,rfl,rfl,rfl,rfl,rfl,rfl,rfl,rfl,rfl,rfl,rfl,rfl,rfl,rfl,trivial⟩
section
variable {P:Program} {B:Base} {main:Bool} {ab:Jd P B main} {c:Ctx} {R:av} {H:ai} {st st':St} {o:Oper} {k:List Item} {ops:Array Oper} {i d:Nat} {rest:List Nat} {t e:TypeId}
theorem cQ{x y:Operand}{v:Value}{kd:IntKind}{j:Int}{b n:Nat}(hv:xB P t v j b n)(h:U ab c R H ((d,.pointer (some ⟨b,n,none⟩))::st) (.inRegion ops rest::k))(ho:ops[i]? = some o:=by rfl)(hw:cF ops st o=some true:=by rfl)(hk:(c.kind == CallKind.early)=false:=by rfl)
  (an:o.op = .indexAddr t x y:=by rfl) (hx:bg st x=some v:=by rfl) (hy:bg st y=some (.int kd j):=by rfl) (hd:o.dst=some d:=by rfl) (hl:Nat.blt d c.n=true:=by rfl):U ab c R H st (.inRegion ops (i::rest)::k) :=
 U.s ho hw (Ox.eo an hx hy hv (by rw [hd]; exact hl) (.put hd) h) hk
theorem cu(cs:Array Value)(ht:iK P t cs)(h:∀ b,U ab c R ((b,.cells cs t)::H) ((d,.pointer (some ⟨b,0,none⟩))::st) (.inRegion ops rest::k))(ho:ops[i]? = some o:=by rfl)(hw:cF ops st o=some true:=by rfl)(hk:(c.kind == CallKind.early)=false:=by rfl)
  (an:o.op = .alloc t:=by rfl) (hd:o.dst=some d:=by rfl) (hl:Nat.blt d c.n=true:=by rfl):U ab c R H st (.inRegion ops (i::rest)::k) :=
 U.s ho hw (Ox.alloc an ht (by rw [hd]; exact hl) λ b _ _=>⟨_,.put hd,h b⟩) hk
theorem eF(cells:Array Value){parts:Array (Nat × Operand)}{ps:List (Nat × Value)}{places:List (Nat × Nat)}{z:Array Value}(ht:tA P t places z)(h:U ab c R H ((d,.agg cells)::st) (.inRegion ops rest::k))(ho:ops[i]? = some o:=by rfl)(hw:cF ops st o=some true:=by rfl)(hk:(c.kind == CallKind.early)=false:=by rfl)
  (an:o.op = .build t parts:=by rfl) (hp:yI st parts.toList=some ps:=by rfl) (hf:Instr.fill (places.toArray[·]?) z ps=some cells:=by repeat first | refine nB rfl rfl rfl rfl ?_ | exact o9) (hd:o.dst=some d:=by rfl) (hl:Nat.blt d c.n=true:=by rfl):U ab c R H st (.inRegion ops (i::rest)::k) :=
 U.s ho hw (Ox.build an ht hp hf (by rw [hd]; exact hl) (.put hd) h) hk
theorem gp(cells:Array Value){n len:Nat}{parts:Array (Nat × Operand)}{ps:List (Nat × Value)}{z base:Array Value}(ht:rM P t e n z)(hb:(Array.range (len * n)).map (z[· % z.size]!)=base)(h:∀ b,U ab c R ((b,.cells cells e)::H) ((d,.slice (some ⟨b,0,none⟩) len len)::st) (.inRegion ops rest::k))
  (ho:ops[i]? = some o:=by rfl) (hw:cF ops st o=some true:=by rfl) (hk:(c.kind == CallKind.early)=false:=by rfl) (an:o.op = .buildSlice t len parts:=by rfl) (hp:yI st parts.toList=some ps:=by rfl) (hlen:len * n≤16777216:=by decide) (hf:Instr.fill (λ j=>some (j * n,n)) base ps=some cells:=by repeat first | refine nB rfl rfl rfl rfl ?_ | exact o9) (hd:o.dst=some d:=by rfl) (hl:Nat.blt d c.n=true:=by rfl):U ab c R H st (.inRegion ops (i::rest)::k) :=
 U.s ho hw (Ox.buildSlice an ht hp hlen hb hf (by rw [hd]; exact hl) λ b _ _=>⟨_,.put hd,h b⟩) hk
theorem gF(cs':Array Value){x y:Operand}{b off:Nat}{v:Value}{cs:Array Value}{H':ai}(ht:gB P t)(hs:eP H b (.cells cs e (0,0)) (.cells cs' e (0,0)) H')(h:U ab c R H' st (.inRegion ops rest::k))(ho:ops[i]? = some o:=by rfl)(hw:cF ops st o=some true:=by rfl)(hk:(c.kind == CallKind.early)=false:=by rfl)
  (an:o.op = .store t x y:=by rfl) (hx:bg st x=some (.pointer (some ⟨b,off,none⟩)):=by rfl) (hy:bg st y=some v:=by rfl) (hv:v.oneCell'=true:=by rfl) (hl:Nat.blt off cs.size=true:=by rfl) (pg:cs.setIfInBounds off v=cs':=by rfl) (hd:o.dst=none:=by rfl):U ab c R H st (.inRegion ops (i::rest)::k) :=
 U.s ho hw (Ox.gS an hx hy ht hv hs hl pg hd (.refl _) h) hk
theorem ek(cs':Array Value){x y:Operand}{b off n:Nat}{vs cs:Array Value}{H':ai}(ht:mB P t n)(hs:eP H b (.cells cs e (0,0)) (.cells cs' e (0,0)) H')(h:U ab c R H' st (.inRegion ops rest::k))(ho:ops[i]? = some o:=by rfl)(hw:cF ops st o=some true:=by rfl)(hk:(c.kind == CallKind.early)=false:=by rfl)
  (an:o.op = .store t x y:=by rfl) (hx:bg st x=some (.pointer (some ⟨b,off,none⟩)):=by rfl) (hy:bg st y=some (.agg vs):=by rfl) (hn:vs.size=n:=by rfl) (h1:∀ u∈vs.toList,u.oneCell'=true:=by repeat first | exact bf | refine cc rfl ?_ | refine cc (ae.one (by assumption)) ?_ | refine cc (cO.one (by assumption)) ?_ | refine cc (bK.one (by assumption)) ?_ | refine cc (aBz.one (by assumption)) ?_ | refine cc (aBA.one (by assumption)) ?_ | refine cc (lq.one (by assumption)) ?_) (hl:Nat.ble (off+n) cs.size=true:=by rfl) (pg:ft cs off vs.toList=cs':=by rfl) (hd:o.dst=none:=by rfl):U ab c R H st (.inRegion ops (i::rest)::k) :=
 U.s ho hw (Ox.bW an hx hy ht hn h1 hs hl pg hd (.refl _) h) hk
theorem Ew{x:Operand}{u:TypeId}{kd ks k0:IntKind}{a:Int}(ht:P.underlying t=some (.int k0))(hu:P.underlying u=some (.int kd))(h:U ab c R H ((d,.int kd (kd.wrap a))::st) (.inRegion ops rest::k))(ho:ops[i]? = some o:=by rfl)(hw:cF ops st o=some true:=by rfl)(hk:(c.kind == CallKind.early)=false:=by rfl)
  (an:o.op = .convert t u x:=by rfl) (hx:bg st x=some (.int ks a):=by rfl) (hd:o.dst=some d:=by rfl) (hl:Nat.blt d c.n=true:=by rfl):U ab c R H st (.inRegion ops (i::rest)::k) :=
 U.s ho hw (Ox.agp an hx ht hu (by rw [hd]; exact hl) (.put hd) h) hk
end
end Go.Lg
