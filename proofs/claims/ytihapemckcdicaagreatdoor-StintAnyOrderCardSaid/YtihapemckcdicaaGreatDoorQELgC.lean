/- Models, operations, lists, maps, arrays, ranges over functions. Conditions: none. -/
import Derived.Test.YtihapemckcdicaaGreatDoorQELgA
import Derived.Laws.RangeAny
namespace Go.Lg
open Go.Conc
def m6{S O:Type}(body:S→Option (S ⊕ O)):Nat→S→Option O
 | 0,_=>none
 | n+1,s=>match body s with
  | none=>none
  | some (.inl s')=>m6 body n s'
  | some (.inr o)=>some o
open Classical in
noncomputable def bC{S O:Type}(body:S→Option (S ⊕ O))(s:S):Option O:=if h:∃ o n,m6 body n s=some o then some h.choose else none
theorem WX{S O:Type}{body:S→Option (S ⊕ O)}:∀ {n m:Nat} {s:S} {o:O},n≤m→m6 body n s=some o→m6 body m s=some o
 | 0,_,_,_,_,h=>by cases h
 | n+1,0,_,_,hm,_=>by omega
 | n+1,m+1,s,o,hm,h=>by
  simp only [m6] at h ⊢
  cases hb:body s with
  | none=>rw [hb] at h; cases h
  | some x=>cases x with
   | inl s'=>rw [hb] at h; exact WX (by omega) h
   | inr o'=>rw [hb] at h; exact h
theorem WZ{S O:Type}{body:S→Option (S ⊕ O)}{n:Nat}{s:S}{o:O}(h:m6 body n s=some o):bC body s=some o:=by
 have hex:∃ o n,m6 body n s=some o:=⟨o,n,h⟩
 unfold bC
 rw [dif_pos hex]
 obtain ⟨m,hm⟩:=hex.choose_spec
 have h1:=WX (Nat.le_max_left n m) h
 have h2:=WX (Nat.le_max_right n m) hm
 rw [h1] at h2
 exact h2.symm
theorem WY{S O:Type}{body:S→Option (S ⊕ O)}{s:S}{o:O}(h:bC body s=some o):∃ n,m6 body n s=some o:=by
 unfold bC at h
 split at h
 ·rename_i hex
  cases h
  exact hex.choose_spec
 ·cases h
theorem za{S O:Type}{body:S→Option (S ⊕ O)}{s:S}{o:O}(h:body s=some (.inr o)):bC body s=some o :=
 WZ (n:=1) (by simp [m6,h])
theorem Hq{S O:Type}{body:S→Option (S ⊕ O)}{s s':S}(h:body s=some (.inl s')):bC body s=bC body s':=by
 cases h':bC body s' with
 | some o =>
  obtain ⟨n,hn⟩:=WY h'
  exact WZ (n:=n+1) (by simp [m6,h,hn])
 | none =>
  cases h2:bC body s with
  | none=>rfl
  | some o =>
   obtain ⟨n,hn⟩:=WY h2
   cases n with
   | zero=>cases hn
   | succ n =>
    simp only [m6,h] at hn
    rw [WZ hn] at h'
    cases h'
theorem aj{α β:Type}{o:Option α}{f:α→Option β}{r:β}(h:o.bind f=some r):∃ x,o=some x∧f x=some r:=by
 cases o with
 | none=>cases h
 | some x=>exact ⟨x,rfl,h⟩
def aa{α:Type}(t:Bool)(a b:Option α):Option α:=match t with | true=>a | false=>b
theorem bu{α:Type}{t:Bool}{a b:Option α}{r:α}{G:Prop}(h:aa t a b=some r)(h1:t=true→a=some r→G)(h2:t=false→b=some r→G):G:=by
 cases t with
 | true=>exact h1 rfl h
 | false=>exact h2 rfl h
theorem ab{α:Type}{a b:α}(h:some a=some b):a=b:=Option.some.inj h
def idx{α:Type}(xs:List α)(i:Int):Option α:=if 0≤i then xs[i.toNat]? else none
def eW{α:Type}(xs ys:List α):Option (List α):=if xs.length+ys.length≤16777216 then some (xs++ys) else none
def nN{α:Type}(xs:List α)(lo hi:Int):Option (List α):=if 0≤lo∧lo≤hi∧hi≤xs.length then some ((xs.take hi.toNat).drop lo.toNat) else none
theorem uR{α:Type}{xs:List α}{i:Int}{x:α}(h:idx xs i=some x):0≤i∧i < xs.length∧xs[i.toNat]? = some x:=by
 unfold idx at h
 split at h
 ·have:=(List.getElem?_eq_some_iff.1 h).1
  exact ⟨‹_›,by omega,h⟩
 ·cases h
theorem alX{α:Type}{xs ys zs:List α}(h:eW xs ys=some zs):xs.length+ys.length≤16777216∧zs=xs++ys:=by
 unfold eW at h
 split at h
 ·cases h; exact ⟨‹_›,rfl⟩
 ·cases h
section
variable {P:Program} {B:Base} {main:Bool} {af:Jd P B main} {c:Ctx} {R:az} {H:an} {st st':St} {k:List Item}
theorem U.bC{S O ρ:Type}{body:S→Option (S ⊕ O)}{cont:O→Option ρ}{s0:S}{r:ρ}{code:Code}(hM:(bC body s0).bind cont=some r)(I:S→az→an→St→Prop)
  (TG:∀ s R H st,I s R H st→∀ x,body s=some x→(∀ s',x = .inl s'→∀ R' H' st',I s' R' H' st'→U af c R' H' st' (.inLoop code::k))→(∀ o,x = .inr o→cont o=some r)→U af c R H st (.code code :: .inLoop code::k))
  (h0:I s0 R H st):U af c R H st (.code (.loop code)::k):=by
 obtain ⟨o,hl,hc⟩:=aj hM
 obtain ⟨n,hn⟩:=WY hl
 clear hM hl
 have key:∀ n s R H st,m6 body n s=some o→I s R H st→U af c R H st (.code code :: .inLoop code::k):=by
  intro n
  induction n with
  | zero=>intro s R H st h; cases h
  | succ n ih =>
   intro s R H st h hI
   simp only [m6] at h
   cases hb:body s with
   | none=>rw [hb] at h; cases h
   | some x =>
    rw [hb] at h
    refine TG s R H st hI x hb (λ s' hx R' H' st' Tt=>?_) (λ o' hx=>?_)
    ·subst hx; exact U.inLoop (ih s' R' H' st' h Tt)
    ·subst hx; cases h; exact hc
 exact U.enterLoop (key n s0 R H st hn h0)
theorem U.known{t:Nat}{x b:Bool}{todo:List Item}(hx:st.lookup t=some (.bool x))(hb:x=b)(h:U af c R H ((t,.bool b)::st) todo):U af c R H st todo:=by
 subst hb; exact λ tmps ht=>h tmps (ht.afc hx)
theorem Any.known{S:Nat→an}{ops:Array Oper}{n:Nat}{rem:List Nat}{t:Nat}{x b:Bool}(hx:st.lookup t=some (.bool x))(hb:x=b)(h:Any af c S ops k n rem R H ((t,.bool b)::st)):Any af c S ops k n rem R H st:=by
 subst hb; exact ⟨h.1,λ tmps ht=>h.2 tmps (ht.afc hx)⟩
theorem U.fE{x:Operand}{th el:Code}{t:Bool}(hx:bg st x=some (.bool t))(ht:t=true)(h:U af c R H st (.code th::k)):U af c R H st (.code (.cond x th el)::k):=by subst ht; exact U.cond_true hx h
theorem U.eF{x:Operand}{th el:Code}{t:Bool}(hx:bg st x=some (.bool t))(ht:t=false)(h:U af c R H st (.code el::k)):U af c R H st (.code (.cond x th el)::k):=by subst ht; exact U.cond_false hx h
end
abbrev cu(α:Type):=az→α→List Value→Prop
class CM {α:Type} (C:cu α):Prop where
 mono:∀ {R R':az} {x:α} {es:List Value},aT R R'→C R x es→C R' x es
 one:∀ {R:az} {x:α} {es:List Value},C R x es→∀ u∈es,u.oneCell'=true
def CI(kd:IntKind):cu Int:=λ _ x es=>es=[.int kd x]
def CS:cu ByteArray:=λ _ x es=>es=[.string x]
instance {kd:IntKind}:CM (CI kd):=⟨λ _ h=>h,λ h=>by cases h; simp [Value.oneCell']⟩
instance:CM CS:=⟨λ _ h=>h,λ h=>by cases h; simp [Value.oneCell']⟩
structure aY {α:Type} (C:cu α) (k:Nat) (R:az) (xs:List α) (es:List Value):Prop where
 len:es.length=xs.length * k
 at_:∀ (i:Nat) (x:α),xs[i]? = some x→∃ e1:List Value,C R x e1∧e1.length=k∧∀ (j:Nat) (w:Value),e1[j]? = some w→es[i * k+j]? = some w
theorem aY.nil{α:Type}{C:cu α}{k:Nat}{R:az}:aY C k R [] []:=⟨by simp,by simp⟩
theorem aY.mono{α:Type}{C:cu α}[CM C]{k:Nat}{R R':az}{xs:List α}{es:List Value}(h:aY C k R xs es)(hR:aT R R'):aY C k R' xs es :=
 ⟨h.len,λ i x hx=>by obtain ⟨e1,h1,h2,h3⟩:=h.at_ i x hx; exact ⟨e1,CM.mono hR h1,h2,h3⟩⟩
theorem aY.append{α:Type}{C:cu α}{k:Nat}{R:az}{xs ys:List α}{es fs:List Value}(h:aY C k R xs es)(g:aY C k R ys fs):aY C k R (xs++ys) (es++fs):=by
 refine ⟨by rw [List.length_append,List.length_append,h.len,g.len,Nat.add_mul],λ i x hx=>?_⟩
 by_cases hi:i < xs.length
 ·rw [List.getElem?_append_left hi] at hx
  obtain ⟨e1,h1,h2,h3⟩:=h.at_ i x hx
  refine ⟨e1,h1,h2,λ j w hj=>?_⟩
  have:=h3 j w hj
  rw [List.getElem?_append_left (List.getElem?_eq_some_iff.1 this).1]
  exact this
 ·rw [List.getElem?_append_right (by omega)] at hx
  obtain ⟨e1,h1,h2,h3⟩:=g.at_ _ x hx
  refine ⟨e1,h1,h2,λ j w hj=>?_⟩
  have:=h3 j w hj
  have e:i * k+j=es.length+((i - xs.length) * k+j):=by
   rw [h.len]
   have:i=xs.length+(i - xs.length):=by omega
   rw [← Nat.add_assoc,← Nat.add_mul,← this]
  rw [e,List.getElem?_append_right (by omega),Nat.add_sub_cancel_left]
  exact this
theorem aY.single{α:Type}{C:cu α}{k:Nat}{R:az}{x:α}{es:List Value}(h:C R x es)(hk:es.length=k):aY C k R [x] es:=by
 refine ⟨by simp [hk],λ i y hy=>?_⟩
 cases i with
 | zero=>cases hy; exact ⟨es,h,hk,λ j w hj=>by simpa using hj⟩
 | succ i=>simp at hy
theorem aY.one{α:Type}{C:cu α}[CM C]{k:Nat}{R:az}{xs:List α}{es:List Value}(h:aY C k R xs es):∀ u∈es,u.oneCell'=true:=by
 intro u hu
 obtain ⟨j,hj⟩:=List.getElem?_of_mem hu
 have bK:=(List.getElem?_eq_some_iff.1 hj).1
 rw [h.len] at bK
 have hk:0 < k:=by cases k with | zero=>simp at bK | succ k=>omega
 have hi:j / k < xs.length:=Nat.div_lt_of_lt_mul (by rw [Nat.mul_comm]; exact bK)
 obtain ⟨e1,h1,h2,h3⟩:=h.at_ (j / k) _ (List.getElem?_eq_getElem hi)
 have hm:j % k < e1.length:=by rw [h2]; exact Nat.mod_lt _ hk
 have:=h3 (j % k) _ (List.getElem?_eq_getElem hm)
 rw [show j / k * k+j % k=j by rw [Nat.mul_comm]; exact Nat.div_add_mod j k,hj] at this
 cases this
 exact CM.one h1 _ (List.getElem_mem hm)
theorem aY.drop{α:Type}{C:cu α}{k n:Nat}{R:az}{xs:List α}{es:List Value}(h:aY C k R xs es):aY C k R (xs.drop n) (es.drop (n * k)):=by
 refine ⟨by simp [h.len,Nat.sub_mul],λ i x hx=>?_⟩
 rw [List.getElem?_drop] at hx
 obtain ⟨e1,h1,h2,h3⟩:=h.at_ _ x hx
 refine ⟨e1,h1,h2,λ j w hj=>?_⟩
 rw [List.getElem?_drop,← h3 j w hj,Nat.add_mul,Nat.add_assoc]
theorem aY.take{α:Type}{C:cu α}{k n:Nat}{R:az}{xs:List α}{es:List Value}(h:aY C k R xs es):aY C k R (xs.take n) (es.take (n * k)):=by
 refine ⟨by simp only [List.length_take,h.len]; exact Nat.mul_min_mul_right _ _ _,λ i x hx=>?_⟩
 rw [List.getElem?_take] at hx
 split at hx
 ·rename_i hi
  obtain ⟨e1,h1,h2,h3⟩:=h.at_ _ x hx
  refine ⟨e1,h1,h2,λ j w hj=>?_⟩
  have nk:j < k:=by rw [← h2]; exact (List.getElem?_eq_some_iff.1 hj).1
  rw [List.getElem?_take,if_pos,h3 j w hj]
  calc i * k+j < i * k+k:=by omega
   _=(i+1) * k:=by rw [Nat.add_mul,Nat.one_mul]
   _≤n * k:=Nat.mul_le_mul_right k hi
 ·cases hx
def ae{α:Type}(C:cu α)(k:Nat)(R:az)(v:Value)(xs:List α):Prop :=
 ∃ A cap es,v = .slice A xs.length cap∧aY C k R xs es∧xs.length≤cap∧(xs≠[]→∃ b o arr e fz,A=some ⟨b,o,none⟩∧R b=some (.cells arr e fz)∧∀ (j:Nat) (w:Value),es[j]? = some w→arr[o+j]? = some w)
theorem ae.mono{α:Type}{C:cu α}[CM C]{k:Nat}{R R':az}{v:Value}{xs:List α}(h:ae C k R v xs)(hR:aT R R'):ae C k R' v xs:=by
 obtain ⟨A,cap,es,h1,h2,hc,h3⟩:=h
 refine ⟨A,cap,es,h1,h2.mono hR,hc,λ hx=>?_⟩
 obtain ⟨b,o,arr,e,fz,g1,g2,g3⟩:=h3 hx
 exact ⟨b,o,arr,e,fz,g1,hR _ _ g2,g3⟩
theorem ae.nil{α:Type}{C:cu α}{k:Nat}{R:az}{A:Option Addr}{cap:Nat}:ae C k R (.slice A 0 cap) []:=⟨A,cap,[],rfl,.nil,Nat.zero_le _,λ h=>absurd rfl h⟩
def gw{α:Type}(C:cu α)(k:Nat):cu (List α):=λ R xs es=>∃ v,es=[v]∧ae C k R v xs
instance {α:Type} {C:cu α} [CM C] {k:Nat}:CM (gw C k):=⟨λ hR ⟨v,h1,h2⟩=>⟨v,h1,h2.mono hR⟩,λ ⟨v,h1,A,cap,es,h2,_⟩=>by subst h1; subst h2; simp [Value.oneCell']⟩
def bz{α:Type}(C:cu α)(k e:Nat)(R:az)(v:Value)(xs:List α)(Hs:an):Prop :=
 (∃ A,v = .slice A 0 0∧xs=[]∧Hs=[])∨∃ b cap cs es,v = .slice (some ⟨b,0,none⟩) xs.length cap∧Hs=[(b,.cells cs e (0,0))]∧cs.size=cap * k∧xs.length≤cap∧aY C k R xs es∧∀ (j:Nat) (w:Value),es[j]? = some w→cs[j]? = some w
theorem bz.mono{α:Type}{C:cu α}[CM C]{k e:Nat}{R R':az}{v:Value}{xs:List α}{Hs:an}(h:bz C k e R v xs Hs)(hR:aT R R'):bz C k e R' v xs Hs:=by
 rcases h with h | ⟨b,cap,cs,es,h1,h2,h3,h4,h5,h6⟩
 ·exact .inl h
 ·exact .inr ⟨b,cap,cs,es,h1,h2,h3,h4,h5.mono hR,h6⟩
theorem bz.nil{α:Type}{C:cu α}{k e:Nat}{R:az}{A:Option Addr}:bz C k e R (.slice A 0 0) [] []:=.inl ⟨A,rfl,rfl,rfl⟩
def ir{α:Type}(C:cu α)(k:Nat)(R:az)(H:an)(v:Value)(ys:List α):Prop :=
 ∃ A cap es,v = .slice A ys.length cap∧aY C k R ys es∧(ys≠[]→∃ b o,A=some ⟨b,o,none⟩∧aQ R H b o es)
theorem ae.arg{α:Type}{C:cu α}{k:Nat}{R:az}{H:an}{v:Value}{xs:List α}(h:ae C k R v xs):ir C k R H v xs:=by
 obtain ⟨A,cap,es,h1,h2,_,h3⟩:=h
 refine ⟨A,cap,es,h1,h2,λ hx=>?_⟩
 obtain ⟨b,o,arr,e,fz,g1,g2,g3⟩:=h3 hx
 exact ⟨b,o,g1,λ j w hj=>⟨rfl,arr,e,fz,.inl g2,g3 j w hj⟩⟩
theorem ir.lit{α:Type}{C:cu α}{k e n cap b:Nat}{R:az}{H:an}{ys:List α}{cs:Array Value}{fz:Nat × Nat}(hm:(b,Obj.cells cs e fz)∈H)(hE:aY C k R ys cs.toList)(hn:ys.length=n):ir C k R H (.slice (some ⟨b,0,none⟩) n cap) ys:=by
 subst hn
 exact ⟨_,cap,cs.toList,rfl,hE,λ _=>⟨b,0,rfl,λ j w hj=>⟨rfl,cs,e,fz,.inr hm,by simpa using hj⟩⟩⟩
def lu(G:an→an):Prop:=∃ A D,∀ X,G X=A++(X++D)
theorem lu.set{G:an→an}(hG:lu G){b:Nat}{o o':Obj}:fp (G [(b,o)]) b o o' (G [(b,o')]):=by
 obtain ⟨A,D,h⟩:=hG
 rw [h,h]
 clear h
 induction A with
 | nil=>exact .here
 | cons p A ih=>exact .there ih
end Go.Lg
namespace Go.Lg
open Go.Conc
section
variable {P:Program} {B:Base} {main:Bool} {af:Jd P B main} {c:Ctx} {R:az} {H H':an} {st st':St} {o:Oper} {C:az→an→St→Prop}
def zI(P:Program)(t:TypeId)(v:Value)(i:Int)(b n:Nat):Prop:=∀ kd,ai P (Instr.indexAt t v (.int kd i)) (.pointer (some ⟨b,n,none⟩))
theorem ae.elem{α:Type}{K:cu α}{k t e:Nat}{v:Value}{xs:List α}{i:Int}{x:α}(h:ae K k R v xs)(ht:mR P t e k)(hi:idx xs i=some x) :
  ∃ b n es,K R x es∧aQ R [] b n es∧zI P t v i b n:=by
 obtain ⟨h1,h2,h3⟩:=uR hi
 obtain ⟨A,cap,es,rfl,hE,_,hc⟩:=h
 obtain ⟨b,o,arr,e',fz,rfl,g2,g3⟩:=hc (by rintro rfl; simp at h3)
 obtain ⟨e1,f1,f2,f3⟩:=hE.at_ _ _ h3
 refine ⟨b,o+i.toNat * k,e1,f1,λ j w hj=>⟨rfl,arr,e',fz,.inl g2,?_⟩,λ kd=>?_⟩
 ·have:=g3 _ _ (f3 j w hj)
  simpa [Nat.add_assoc] using this
 ·have:=Yb (P:=P) (b:=b) (m:=o) (cap:=cap) (kd:=kd) ht (j:=i.toNat) (len:=xs.length) (by omega)
  rwa [Int.toNat_of_nonneg h1] at this
theorem Ox.dm{x y:Operand}{t:TypeId}{v:Value}{kd:IntKind}{i:Int}{b n:Nat}(au:o.op = .indexAddr t x y)(hx:bg st x=some v)(hy:bg st y=some (.int kd i))(hv:zI P t v i b n)
  (hd:bT o.dst c.n) (hs:aI (bU o.dst (.pointer (some ⟨b,n,none⟩)) st) st') (h:C R H st'):aW P B c o R H st C :=
 Ox.me (s:=λ ρ=>Instr.indexAt t (ρ x) (ρ y)) (by rw [au]; rfl) hd (λ ρ=>by simp only [execOp,au]) (λ ρ bd=>by rw [bd x _ hx,bd y _ hy]; exact hv kd) hs h
theorem adz{t e len k b m:Nat}{i:Int}(ht:vN P t len e k)(hi:0≤i∧i < len):zI P t (.pointer (some ⟨b,m,none⟩)) i b (m+i.toNat * k):=λ kd=>by
 have:=aEu (P:=P) (b:=b) (m:=m) (kd:=kd) ht (j:=i.toNat) (by omega)
 rwa [Int.toNat_of_nonneg hi.1] at this
theorem Ox.si{α:Type}{K:cu α}{k:Nat}{x:Operand}{t e:TypeId}{v:Value}{xs:List α}(au:o.op = .call ⟨.builtin .len,#[x],#[t]⟩)(hx:bg st x=some v)(hl:ae K k R v xs)(ht:P.underlying t=some (.slice e))
  (hd:bT o.dst c.n) (hs:aI (bU o.dst (.int .i64 (xs.length:Int)) st) st') (h:C R H st'):aW P B c o R H st C:=by
 obtain ⟨A,cap,es,rfl,_⟩:=hl
 exact Ox.len au hx ht hd hs h
theorem Ox.N7{α:Type}{K:cu α}{k e':Nat}{x:Operand}{t e:TypeId}{v:Value}{xs:List α}{Hs:an}(au:o.op = .call ⟨.builtin .len,#[x],#[t]⟩)(hx:bg st x=some v)(hl:bz K k e' R v xs Hs)(ht:P.underlying t=some (.slice e))
  (hd:bT o.dst c.n) (hs:aI (bU o.dst (.int .i64 (xs.length:Int)) st) st') (h:C R H st'):aW P B c o R H st C:=by
 rcases hl with ⟨A,rfl,rfl,_⟩ | ⟨b,cap,cs,es,rfl,_⟩
 ·exact Ox.len au hx ht hd hs h
 ·exact Ox.len au hx ht hd hs h
def i64(z:Int):Int:=IntKind.wrap .i64 z
theorem NY{z:Int}(h : -9223372036854775808≤z∧z≤9223372036854775807):i64 z=z:=agr h
theorem Ox.ar{x y:Operand}{bo:BinOp}{t u:TypeId}{a b z:Int}{kd:IntKind}(au:o.op = .binOp bo t x y u)(hx:bg st x=some (.int kd a))(hy:bg st y=some (.int kd b))(hr:Sa bo a b=some z)
  (hd:bT o.dst c.n) (hs:aI (bU o.dst (.int kd (kd.wrap z)) st) st') (h:C R H st'):aW P B c o R H st C :=
 Ox.me (s:=λ ρ=>do eqGuard bo t x y (ρ x) (ρ y); binOp bo t (ρ x) (ρ y)) (by rw [au]; rfl) hd (λ ρ=>by simp only [execOp,au]) (λ ρ bd=>by
  rw [bd x _ hx,bd y _ hy]
  refine ai.bind (DD _ _ _ _ _ _ _ _) ?_
  cases bo <;> simp only [Sa,Option.some.injEq,reduceCtorEq] at hr <;> subst hr <;> simp only [binOp,ne_eq,not_true_eq_false,if_false,Op.intArith] <;> exact ai.pure _) hs h
def yD(a b:Int):Option Int:=if b=0 then none else some (a.tmod b)
theorem Ox.rem{x y:Operand}{t u:TypeId}{a b z:Int}{kd:IntKind}(au:o.op = .binOp .rem t x y u)(hx:bg st x=some (.int kd a))(hy:bg st y=some (.int kd b))(hr:yD a b=some z)
  (hd:bT o.dst c.n) (hs:aI (bU o.dst (.int kd z) st) st') (h:C R H st'):aW P B c o R H st C :=
 Ox.me (s:=λ ρ=>do eqGuard .rem t x y (ρ x) (ρ y); binOp .rem t (ρ x) (ρ y)) (by rw [au]; rfl) hd (λ ρ=>by simp only [execOp,au]) (λ ρ bd=>by
  rw [bd x _ hx,bd y _ hy]
  refine ai.bind (DD _ _ _ _ _ _ _ _) ?_
  unfold yD at hr
  split at hr
  ·cases hr
  ·cases hr; simp only [binOp,ne_eq,not_true_eq_false,if_false,Op.intDiv, *]; exact ai.pure _) hs h
def Hu(kd:IntKind)(a b:Int):Option Int:=if b < 0 then none else some (kd.wrap (a * 2 ^ (min b.toNat kd.bits)))
def kU(kd:IntKind)(a b:Int):Option Int:=if b < 0 then none else some (a.fdiv (2 ^ (min b.toNat kd.bits)))
theorem Ox.shl{x y:Operand}{t u:TypeId}{a b z:Int}{kd yk:IntKind}(au:o.op = .binOp .shl t x y u)(hx:bg st x=some (.int kd a))(hy:bg st y=some (.int yk b))(hr:Hu kd a b=some z)
  (hd:bT o.dst c.n) (hs:aI (bU o.dst (.int kd z) st) st') (h:C R H st'):aW P B c o R H st C :=
 Ox.me (s:=λ ρ=>do eqGuard .shl t x y (ρ x) (ρ y); binOp .shl t (ρ x) (ρ y)) (by rw [au]; rfl) hd (λ ρ=>by simp only [execOp,au]) (λ ρ bd=>by
  rw [bd x _ hx,bd y _ hy]
  refine ai.bind (DD _ _ _ _ _ _ _ _) ?_
  unfold Hu at hr
  split at hr
  ·cases hr
  ·cases hr; simp only [binOp,Op.shift,if_false, *]; exact ai.pure _) hs h
theorem Ox.shr{x y:Operand}{t u:TypeId}{a b z:Int}{kd yk:IntKind}(au:o.op = .binOp .shr t x y u)(hx:bg st x=some (.int kd a))(hy:bg st y=some (.int yk b))(hr:kU kd a b=some z)
  (hd:bT o.dst c.n) (hs:aI (bU o.dst (.int kd z) st) st') (h:C R H st'):aW P B c o R H st C :=
 Ox.me (s:=λ ρ=>do eqGuard .shr t x y (ρ x) (ρ y); binOp .shr t (ρ x) (ρ y)) (by rw [au]; rfl) hd (λ ρ=>by simp only [execOp,au]) (λ ρ bd=>by
  rw [bd x _ hx,bd y _ hy]
  refine ai.bind (DD _ _ _ _ _ _ _ _) ?_
  unfold kU at hr
  split at hr
  ·cases hr
  ·cases hr; simp only [binOp,Op.shift,if_false, *]; exact ai.pure _) hs h
def fH(bo:BinOp)(kd:IntKind)(a b:Int):Option Int :=
 let a:=BitVec.ofInt kd.bits a
 let b:=BitVec.ofInt kd.bits b
 match bo with
 | .and=>some (kd.wrap (a &&& b).toNat)
 | .or=>some (kd.wrap (a ||| b).toNat)
 | .xor=>some (kd.wrap (a ^^^ b).toNat)
 | .andNot=>some (kd.wrap (a &&& ~~~b).toNat)
 | _=>none
theorem Ox.bits{x y:Operand}{bo:BinOp}{t u:TypeId}{a b z:Int}{kd:IntKind}(au:o.op = .binOp bo t x y u)(hx:bg st x=some (.int kd a))(hy:bg st y=some (.int kd b))(hr:fH bo kd a b=some z)
  (hd:bT o.dst c.n) (hs:aI (bU o.dst (.int kd z) st) st') (h:C R H st'):aW P B c o R H st C :=
 Ox.me (s:=λ ρ=>do eqGuard bo t x y (ρ x) (ρ y); binOp bo t (ρ x) (ρ y)) (by rw [au]; rfl) hd (λ ρ=>by simp only [execOp,au]) (λ ρ bd=>by
  rw [bd x _ hx,bd y _ hy]
  refine ai.bind (DD _ _ _ _ _ _ _ _) ?_
  cases bo <;> simp only [fH,Option.some.injEq,reduceCtorEq] at hr <;> subst hr <;> simp only [binOp,ne_eq,not_true_eq_false,if_false,Op.intBits] <;> exact ai.pure _) hs h
def abP:BinOp→ByteArray→ByteArray→Option Bool
 | .eql,x,y=>some (x.toList == y.toList)
 | .neq,x,y=>some (!(x.toList == y.toList))
 | _,_,_=>none
theorem aEt(op:BinOp)(t:TypeId)(x y:Operand)(a b:ByteArray):ai P (eqGuard op t x y (.string a) (.string b)) ():=by
 unfold eqGuard
 cases op <;> exact ai.pure _
theorem Ox.abQ{x y:Operand}{bo:BinOp}{t u:TypeId}{a b:ByteArray}{r:Bool}(au:o.op = .binOp bo t x y u)(hx:bg st x=some (.string a))(hy:bg st y=some (.string b))(hr:abP bo a b=some r)
  (hd:bT o.dst c.n) (hs:aI (bU o.dst (.bool r) st) st') (h:C R H st'):aW P B c o R H st C :=
 Ox.me (s:=λ ρ=>do eqGuard bo t x y (ρ x) (ρ y); binOp bo t (ρ x) (ρ y)) (by rw [au]; rfl) hd (λ ρ=>by simp only [execOp,au]) (λ ρ bd=>by
  rw [bd x _ hx,bd y _ hy]
  refine ai.bind (aEt _ _ _ _ _ _) ?_
  cases bo <;> simp only [abP,Option.some.injEq,reduceCtorEq] at hr <;> subst hr <;> simp only [binOp,Op.stringOp] <;> exact ai.pure _) hs h
def IA:BinOp→Bool→Bool→Option Bool
 | .eql,x,y=>some (x == y)
 | .neq,x,y=>some (!(x == y))
 | _,_,_=>none
theorem aEs(op:BinOp)(t:TypeId)(x y:Operand)(a b:Bool):ai P (eqGuard op t x y (.bool a) (.bool b)) ():=by
 unfold eqGuard
 cases op <;> exact ai.pure _
theorem aEp{t:TypeId}(ht:P.underlying t=some .bool)(a b:Bool):ai P (Op.equal t (.bool a) (.bool b)) (a == b):=by
 unfold Op.equal Op.maxDepth
 rw [Op.equalIn]
 exact ai.bind (ai.underlying ht) (ai.pure _)
theorem Ox.Zy{x y:Operand}{bo:BinOp}{t u:TypeId}{a b r:Bool}(au:o.op = .binOp bo t x y u)(hx:bg st x=some (.bool a))(hy:bg st y=some (.bool b))(ht:P.underlying t=some .bool)(hr:IA bo a b=some r)
  (hd:bT o.dst c.n) (hs:aI (bU o.dst (.bool r) st) st') (h:C R H st'):aW P B c o R H st C :=
 Ox.me (s:=λ ρ=>do eqGuard bo t x y (ρ x) (ρ y); binOp bo t (ρ x) (ρ y)) (by rw [au]; rfl) hd (λ ρ=>by simp only [execOp,au]) (λ ρ bd=>by
  rw [bd x _ hx,bd y _ hy]
  refine ai.bind (aEs _ _ _ _ _ _) ?_
  cases bo <;> simp only [IA,Option.some.injEq,reduceCtorEq] at hr <;> subst hr <;> simp only [binOp] <;> exact ai.bind (aEp ht a b) (ai.pure _)) hs h
theorem Ox.vU{x y:Operand}{bo:BinOp}{t u:TypeId}{a b:Array Value}{q:Bool}(au:o.op = .binOp bo t x y u)(hx:bg st x=some (.agg a))(hy:bg st y=some (.agg b))(hg:P.eqGuardType P.depth t=false)(hq:ai P (Op.equal t (.agg a) (.agg b)) q){r:Bool}(hr:IA bo q true=some r)
  (hd:bT o.dst c.n) (hs:aI (bU o.dst (.bool r) st) st') (h:C R H st'):aW P B c o R H st C :=
 Ox.me (s:=λ ρ=>do eqGuard bo t x y (ρ x) (ρ y); binOp bo t (ρ x) (ρ y)) (by rw [au]; rfl) hd (λ ρ=>by simp only [execOp,au]) (λ ρ bd=>by
  rw [bd x _ hx,bd y _ hy]
  have hgd:ai P (eqGuard bo t x y (.agg a) (.agg b)) ():=by
   unfold eqGuard
   cases bo <;> simp only [IA,reduceCtorEq] at hr <;> exact ai.bind ai.program (ai.bind ai.program (by simp only [hg]; exact ai.pure _))
  refine ai.bind hgd ?_
  cases bo <;> simp only [IA,Option.some.injEq,reduceCtorEq] at hr <;> subst hr <;> simp only [binOp]
  ·exact ai.bind hq (by cases q <;> exact ai.pure _)
  ·exact ai.bind hq (by cases q <;> exact ai.pure _)) hs h
def r9:Int→List Int→Int
 | x,[]=>x
 | x,y::r=>r9 (if y > x then y else x) r
def xq:Int→List Int→Int
 | x,[]=>x
 | x,y::r=>xq (if y < x then y else x) r
theorem afO{kd:IntKind}:∀ (l:List Int) (x:Int),ai P ((l.map (Value.int kd)).foldlM Builtin.max2 (.int kd x)) (.int kd (r9 x l))
 | [],x=>ai.pure _
 | y::r,x=>by
  simp only [List.map_cons,List.foldlM_cons,r9]
  exact ai.bind (a:=.int kd (if y > x then y else x)) (ai.pure _) (afO r _)
theorem afP{kd:IntKind}:∀ (l:List Int) (x:Int),ai P ((l.map (Value.int kd)).foldlM Builtin.min2 (.int kd x)) (.int kd (xq x l))
 | [],x=>ai.pure _
 | y::r,x=>by
  simp only [List.map_cons,List.foldlM_cons,xq]
  exact ai.bind (a:=.int kd (if y < x then y else x)) (ai.pure _) (afP r _)
theorem Ox.max{xs:Array Operand}{ts:Array TypeId}{kd:IntKind}{a:Int}{l:List Int}(au:o.op = .call ⟨.builtin .max,xs,ts⟩)(hx:ji st xs.toList=some (.int kd a::l.map (Value.int kd)))
  (hd:bT o.dst c.n) (hs:aI (bU o.dst (.int kd (r9 a l)) st) st') (h:C R H st'):aW P B c o R H st C :=
 Ox.val (by rw [au]; rfl) hd (λ ρ bd=>by
  simp only [execOp,au]
  refine ai.bind (a:=⟨.builtin .max ts o.type (xs.map λ | .const _=>true | _=>false),xs.map ρ⟩) (ai.pure _) ?_
  simp only [invoke,builtin,Builtin.max_]
  have e:(xs.map ρ).toList = .int kd a::l.map (Value.int kd):=by simpa using BK bd _ _ hx
  rw [e]
  exact ai.bind (afO l a) (ai.pure _)) hs h
theorem Ox.min{xs:Array Operand}{ts:Array TypeId}{kd:IntKind}{a:Int}{l:List Int}(au:o.op = .call ⟨.builtin .min,xs,ts⟩)(hx:ji st xs.toList=some (.int kd a::l.map (Value.int kd)))
  (hd:bT o.dst c.n) (hs:aI (bU o.dst (.int kd (xq a l)) st) st') (h:C R H st'):aW P B c o R H st C :=
 Ox.val (by rw [au]; rfl) hd (λ ρ bd=>by
  simp only [execOp,au]
  refine ai.bind (a:=⟨.builtin .min ts o.type (xs.map λ | .const _=>true | _=>false),xs.map ρ⟩) (ai.pure _) ?_
  simp only [invoke,builtin,Builtin.min_]
  have e:(xs.map ρ).toList = .int kd a::l.map (Value.int kd):=by simpa using BK bd _ _ hx
  rw [e]
  exact ai.bind (afP l a) (ai.pure _)) hs h
theorem Ox.ait{x:Operand}{t u:TypeId}{kd ks k0:IntKind}{a:Int}(au:o.op = .convert t u x)(hx:bg st x=some (.int ks a))(ht:P.underlying t=some (.int k0))(hu:P.underlying u=some (.int kd))
  (hd:bT o.dst c.n) (hs:aI (bU o.dst (.int kd (kd.wrap a)) st) st') (h:C R H st'):aW P B c o R H st C :=
 Ox.me (s:=λ ρ=>convert t u (ρ x)) (by rw [au]; rfl) hd (λ ρ=>by simp only [execOp,au]) (λ ρ bd=>by
  rw [bd x _ hx]
  unfold convert
  refine ai.bind (ai.underlying ht) (ai.bind (ai.underlying hu) ?_)
  exact ai.pure _) hs h
theorem IB{α:Type}{xs ys:List α}{lo hi:Int}(h:nN xs lo hi=some ys):0≤lo∧lo≤hi∧hi≤xs.length∧ys=(xs.take hi.toNat).drop lo.toNat:=by
 unfold nN at h
 split at h
 ·cases h; rename_i h; exact ⟨h.1,h.2.1,h.2.2,rfl⟩
 ·cases h
def Kp(st:St):Option Operand→Option Int
 | none=>some 0
 | some x=>match bg st x with | some (.int _ i)=>some i | _=>none
def Je(st:St)(n:Nat):Option Operand→Option Int
 | none=>some n
 | some x=>match bg st x with | some (.int _ i)=>some i | _=>none
theorem Pq{kd:IntKind}{i:Int}{y:Nat}{cd:BoundsCode}(h:0≤i∧i≤y):ai P (Instr.sliceBound (.int kd i) y cd) i.toNat:=by
 unfold Instr.sliceBound
 refine ai.bind (a:=(kd,i)) (ai.pure _) ?_
 simp only [h,and_self,if_true]
 exact ai.pure _
theorem Pr{ρ:Operand→Value}(bd:Knows st ρ){len cap:Nat}{lo hi:Option Operand}{l h:Int}(hl:Kp st lo=some l)(hh:Je st len hi=some h)(hb:0≤l∧l≤h∧h≤len)(hc:len≤cap) :
  ai P (Instr.sliceBounds true len cap (lo.map ρ) (hi.map ρ) none) (l.toNat,h.toNat,cap):=by
 have h1:(lo=none∧l=0)∨∃ x kd,lo=some x∧ρ x = .int kd l:=by
  cases lo with
  | none=>simp only [Kp,Option.some.injEq] at hl; exact .inl ⟨rfl,hl.symm⟩
  | some x =>
   simp only [Kp] at hl
   cases hx:bg st x with
   | none=>simp [hx] at hl
   | some v =>
    cases v <;> simp [hx] at hl
    subst hl
    exact .inr ⟨x,_,rfl,bd x _ hx⟩
 have h2:(hi=none∧h=len)∨∃ x kd,hi=some x∧ρ x = .int kd h:=by
  cases hi with
  | none=>simp only [Je,Option.some.injEq] at hh; exact .inl ⟨rfl,hh.symm⟩
  | some x =>
   simp only [Je] at hh
   cases hx:bg st x with
   | none=>simp [hx] at hh
   | some v =>
    cases v <;> simp [hx] at hh
    subst hh
    exact .inr ⟨x,_,rfl,bd x _ hx⟩
 unfold Instr.sliceBounds
 rcases h1 with ⟨rfl,rfl⟩ | ⟨x,kx,rfl,hx⟩ <;> rcases h2 with ⟨rfl,rfl⟩ | ⟨y,ky,rfl,hy⟩ <;> simp only [Option.map_none,Option.map_some, *]
 ·exact ai.bind (a:=cap) (ai.pure _) (ai.bind (a:=(len:Int).toNat) (by rw [Int.toNat_natCast]; exact ai.pure _) (ai.bind (a:=(0:Int).toNat) (ai.pure _) (ai.pure _)))
 ·exact ai.bind (a:=cap) (ai.pure _) (ai.bind (a:=h.toNat) (Pq ⟨by omega,by omega⟩) (ai.bind (a:=(0:Int).toNat) (ai.pure _) (ai.pure _)))
 ·exact ai.bind (a:=cap) (ai.pure _) (ai.bind (a:=(len:Int).toNat) (by rw [Int.toNat_natCast]; exact ai.pure _) (ai.bind (a:=l.toNat) (Pq ⟨by omega,by omega⟩) (ai.pure _)))
 ·exact ai.bind (a:=cap) (ai.pure _) (ai.bind (a:=h.toNat) (Pq ⟨by omega,by omega⟩) (ai.bind (a:=l.toNat) (Pq ⟨by omega,by omega⟩) (ai.pure _)))
end
end Go.Lg
namespace Go.Lg
open Go.Conc
theorem Dm:∀ (vs:List Value) (cs:Array Value) (o j:Nat),o+vs.length≤cs.size→(fU cs o vs)[j]? = if o≤j∧j < o+vs.length then vs[j - o]? else cs[j]?
 | [],cs,o,j,_=>by
  simp only [fU,List.length_nil,Nat.add_zero]
  rw [if_neg (by omega)]
 | v::r,cs,o,j,h=>by
  simp only [List.length_cons] at h
  simp only [fU]
  rw [Dm r _ (o+1) j (by simp; omega)]
  by_cases h1:o+1≤j∧j < o+1+r.length
  ·rw [if_pos h1,if_pos (by simp only [List.length_cons]; omega)]
   have:j - o=(j - (o+1))+1:=by omega
   rw [this]; simp
  ·rw [if_neg h1]
   by_cases h2:o=j
   ·subst h2
    rw [if_pos (by simp only [List.length_cons]; omega)]
    rw [Array.getElem?_setIfInBounds_self_of_lt (by omega)]
    simp
   ·rw [if_neg (by simp only [List.length_cons]; omega),Array.getElem?_setIfInBounds_ne h2]
structure tP (P:Program) (t e k:Nat):Prop where
 sl:P.underlying t=some (.slice e)
 size:ai P (sizeOf e) k
 info:∃ i,P.info? e=some i∧i.bytes≤65536
 zero:∃ z,ai P (zeroValue e) z∧z.cells.size=k
section
variable {P:Program} {B:Base} {main:Bool} {af:Jd P B main} {c:Ctx} {R:az} {H H':an} {st st':St} {o:Oper}
theorem aR.weaken{α:Type}{s:Sem α}{K K':α→az→an→Prop}(h:aR P B R H s K)(hk:∀ a R' H',K a R' H'→∃ cx dW,(∀ w,Fits B R' H' w→fP B R' H' w cx dW w)∧K' a cx dW):aR P B R H s K':=by
 intro w hw
 obtain ⟨a,w',R',H',h1,h2,h3,h4⟩:=h w hw
 obtain ⟨cx,dW,g1,g2⟩:=hk a R' H' h4
 exact ⟨a,w',cx,dW,h1,h2,h3.trans (g1 w' h3.fits),g2⟩
theorem aR.firstCells{α:Type}{K:cu α}{k:Nat}{u:Value}{ys:List α}{Q:Array Value→az→an→Prop}(hu:ir K k R H u ys)(hQ:∀ es:List Value,aY K k R ys es→Q es.toArray R H):aR P B R H (Builtin.firstCells k ys.length u) Q:=by
 obtain ⟨A,cap,es,rfl,hE,hc⟩:=hu
 cases ys with
 | nil =>
  have e0:es=[]:=by have:=hE.len; simpa using this
  subst e0
  cases A with
  | none=>exact aR.pure (hQ [] hE)
  | some a =>
   simp only [Builtin.firstCells,List.length_nil,Nat.zero_mul,loadCells]
   exact aR.pure (hQ [] hE)
 | cons y ys =>
  obtain ⟨b,o,rfl,qE⟩:=hc (by simp)
  simp only [Builtin.firstCells,loadCells]
  rw [← hE.len]
  exact aR.loadCellsFrom es 0 #[] (by simpa using qE) (by simpa using hQ es hE)
theorem bz.arg{α:Type}{K:cu α}{k e:Nat}{G:an→an}(hG:lu G){v:Value}{xs:List α}{Hs:an}(h:bz K k e R v xs Hs):ir K k R (G Hs) v xs:=by
 rcases h with ⟨A,rfl,rfl,_⟩ | ⟨b,cap,cs,es,rfl,rfl,h3,h4,h5,h6⟩
 ·exact ⟨A,0,[],rfl,.nil,λ h=>absurd rfl h⟩
 ·refine ⟨_,cap,es,rfl,h5,λ _=>⟨b,0,rfl,λ j w hj=>⟨rfl,cs,e,(0,0),.inr ?_,by simpa using h6 j w hj⟩⟩⟩
  obtain ⟨A,D,zX⟩:=hG
  rw [zX]; simp
theorem aBD{n m:Nat}(h:m < n)(hn:n≤16777216):Builtin.nextslicecap n m≤67108864:=by
 unfold Builtin.nextslicecap
 split
 ·omega
 ·split
  ·omega
  ·have:∀ (r c:Nat),c≤16777216→Builtin.growBy n r c≤67108864:=by
    intro r
    induction r with
    | zero=>intro c hc; simp only [Builtin.growBy]; omega
    | succ r ih =>
     intro c hc
     simp only [Builtin.growBy]
     split
     ·omega
     ·rename_i eU
      by_cases h2:c+(c+768) / 4≤16777216
      ·exact ih _ h2
      ·
       cases r with
       | zero=>simp only [Builtin.growBy]; omega
       | succ r=>simp only [Builtin.growBy]; rw [if_pos (by omega)]; omega
   exact this 4 m (by omega)
theorem aR.append{α:Type}{K:cu α}[CM K]{k t e xT T:Nat}{G:an→an}(hG:lu G){v u:Value}{xs ys:List α}{Hs:an}{dx:TypeDesc}(ht:tP P t e k)(WB:P.underlying xT=some dx)(TZ:∀ kd,dx ≠ .int kd)
  (hO:bz K k e R v xs Hs) (hu:ir K k R (G Hs) u ys) (hl:xs.length+ys.length≤16777216) {Q:Value→az→an→Prop} (hk:∀ v' dT,bz K k e R v' (xs++ys) dT→Q v' R (G dT)) :
  aR P B R (G Hs) (Builtin.append_ #[t,xT] T #[v,u]) Q:=by
 obtain ⟨A2,aN1,es2,hu2⟩:=id hu
 have hv:∃ base cap,v = .slice base xs.length cap:=by
  rcases hO with ⟨A,rfl,rfl,_⟩ | ⟨b,cap,cs,es,rfl,_⟩
  ·exact ⟨A,0,rfl⟩
  ·exact ⟨_,cap,rfl⟩
 obtain ⟨base,cap,rfl⟩:=hv
 obtain ⟨i,hi,aqD⟩:=ht.info
 obtain ⟨z,hz,hzs⟩:=ht.zero
 have hlen:ai P (Builtin.lenOf u) ys.length:=by rw [hu2.1]; exact ai.pure _
 have run:aR P B R (G Hs) (do
   let need:=xs.length+ys.length
   if need≤cap then do
    let new ← Builtin.firstCells k ys.length u
    if let some a:=base then storeCells (a.add (xs.length * k)) new.toList
    Pure.pure (Value.slice base need cap)
   else do
    if (need:Int) > IntKind.i64.max∧(false=true∨(← typeInfo e).bytes=0) then runtimePanic (.error "growslice: len out of range")
    if Builtin.nextslicecap need cap * (← typeInfo e).bytes > 2 ^ 48 then (if false=true then runtimePanic (.error "growslice: len out of range") else do
     if !(← Builtin.mayShare k xs.length ys.length base u) then mark .noRoom
     unsupported (.resourceLimit "append: a slice or a string whose bytes no memory bears"))
    let AG ← Go.choose (Question.appendCap need cap e)
    askRoom (AG * (← typeInfo e).bytes)
    let old ← Builtin.firstCells k xs.length (.slice base xs.length cap)
    let new ← Builtin.firstCells k ys.length u
    let rest:=Builtin.zeroCells (← zeroValue e).cells (AG - need)
    Pure.pure (Value.slice (some (← newRow e (old++new++rest))) need AG)) Q:=by
  dsimp only
  by_cases hc:xs.length+ys.length≤cap
  ·rw [if_pos hc]
   refine aR.bind (aR.firstCells hu λ es hE=>?_)
   rcases hO with ⟨A,e1,rfl,rfl⟩ | ⟨b,aN0,cs,BT,e1,rfl,h3,h4,h5,h6⟩
   ·injection e1 with e1 e2 e3
    subst e1; subst e3
    have hy:ys=[]:=by simpa using hc
    subst hy
    have e0:es=[]:=by have:=hE.len; simpa using this
    subst e0
    have key:Q (.slice base ([]:List α).length 0) R (G []):=hk _ [] (.inl ⟨base,rfl,by simp,rfl⟩)
    cases base with
    | none=>exact aR.bind (aR.pure (aR.pure key))
    | some a=>exact aR.bind (aR.pure (aR.pure key))
   ·injection e1 with e1 _ e3
    subst e1; subst e3
    dsimp only
    rw [show (⟨b,0,none⟩:Addr).add (xs.length * k)=⟨b,0+xs.length * k,none⟩ from sz _ _ _,Nat.zero_add]
    refine aR.given λ dR=>aR.bind (aR.O6 es cs (xs.length * k) 0 (G [(b,.cells cs e (0,0))]) (G [(b,.cells (fU cs (xs.length * k) es) e (0,0))]) hE.one ?_ (by simpa using lu.set hG) dR (aR.pure ?_))
    ·rw [h3,hE.len,Nat.add_zero,← Nat.add_mul]; exact Nat.mul_le_mul_right k hc
    ·have xV:xs.length * k+es.length≤cs.size:=by rw [h3,hE.len,← Nat.add_mul]; exact Nat.mul_le_mul_right k hc
     refine hk _ _ (.inr ⟨b,cap,fU cs (xs.length * k) es,BT++es,by rw [List.length_append],rfl,by rw [KY]; exact h3,by rw [List.length_append]; exact hc,h5.append hE,λ j w hj=>?_⟩)
     rw [Dm es cs _ _ xV]
     by_cases Un:j < BT.length
     ·rw [List.getElem?_append_left Un] at hj
      rw [if_neg (by rw [← h5.len]; omega)]
      exact h6 j w hj
     ·rw [List.getElem?_append_right (by omega)] at hj
      have:=(List.getElem?_eq_some_iff.1 hj).1
      rw [if_pos (by rw [← h5.len]; omega),← h5.len]
      exact hj
  ·rw [if_neg hc]
   have hnb:Builtin.nextslicecap (xs.length+ys.length) cap * i.bytes≤2 ^ 48:=by
    have h1:=aBD (n:=xs.length+ys.length) (m:=cap) (by omega) hl
    calc _≤67108864 * 65536:=Nat.mul_le_mul h1 aqD
     _≤2 ^ 48:=by decide
   have hni:¬ (((xs.length+ys.length:Nat):Int) > IntKind.i64.max∧(false=true∨i.bytes=0)):=by
    intro h
    have:IntKind.i64.max=9223372036854775807:=by decide
    omega
   refine ai.eX (ai.typeInfo hi) ?_
   rw [if_neg hni]
   refine ai.eX (ai.typeInfo hi) ?_
   rw [if_neg (by omega)]
   refine (aR.bind (aR.choose λ tape=>ai.eX (ai.typeInfo hi) (aR.bind ?_)))
   have aqC:∀ (n:Nat) (Q':Unit→az→an→Prop),Q' () R (G Hs)→aR P B R (G Hs) (askRoom n) Q':=by
    intro n Q' hq
    unfold askRoom
    split
    ·exact aR.aBr hq
    ·exact aR.pure hq
   refine aqC _ _ ?_
   simp only [Question.forced,Bool.false_eq_true,if_false,Question.cut]
   generalize xR:xs.length+ys.length+tape % (2 ^ 63 - (xs.length+ys.length))=AG
   refine aR.bind (aR.firstCells (bz.arg hG hO) λ BT hEx=>aR.bind (aR.firstCells hu λ M8 hEy=>ai.eX hz ?_))
   simp only [newRow]
   refine aR.bind (aR.bind (aR.weaken (aR.new (K:=λ r R' H'=>R'=R∧H'=(r,.cells (BT.toArray++M8.toArray++Builtin.zeroCells z.cells (AG - (xs.length+ys.length))) e (0,0))::G Hs) λ r _ _=>⟨rfl,rfl⟩) λ r R' H' hrh=>?_))
   obtain ⟨rfl,rfl⟩:=hrh
   refine ⟨R',G [(r,.cells (BT.toArray++M8.toArray++Builtin.zeroCells z.cells (AG - (xs.length+ys.length))) e (0,0))],λ w hw=>?_,aR.pure (aR.pure (hk _ _ (.inr ⟨r,AG,_,BT++M8,by rw [List.length_append],rfl,?_,by rw [List.length_append]; omega,hEx.append hEy,λ j w hj=>?_⟩)))⟩
   ·obtain ⟨A,D,zX⟩:=hG
    rw [zX,zX] at *
    have h1:=X5 (H':=A++(Hs++((r,.cells (BT.toArray++M8.toArray++Builtin.zeroCells z.cells (AG - (xs.length+ys.length))) e (0,0))::D))) (by simpa using List.perm_middle (l₁:=A++Hs)) hw
    refine h1.trans (Pf ?_ h1.fits)
    exact List.Sublist.append_left (List.sublist_append_right _ _) _
   ·simp only [Array.size_append,List.size_toArray,hEx.len,hEy.len,Builtin.zeroCells,Array.size_map,Array.size_range,hzs]
    rw [← Nat.add_mul,← Nat.add_mul]
    congr 1; omega
   ·have:=(List.getElem?_eq_some_iff.1 hj).1
    rw [Array.getElem?_append_left (by simpa using this)]
    simpa using hj
 unfold Builtin.append_
 refine ai.eX (ai.underlying ht.sl) (ai.eX ht.size (ai.eX (ai.underlying WB) (ai.eX (a:=false) (by cases dx <;> first | exact ai.pure _ | exact absurd rfl (TZ _)) ?_)))
 exact ai.eX hlen run
theorem Ox.append{α:Type}{K:cu α}[CM K]{k t e xT:Nat}(G:an→an){x y:Operand}{v u:Value}{xs ys zs:List α}{Hs:an}{dx:TypeDesc}{C:az→an→St→Prop}(au:o.op = .call ⟨.builtin .append,#[x,y],#[t,xT]⟩)(hx:bg st x=some v)(hy:bg st y=some u)
  (ht:tP P t e k) (WB:P.underlying xT=some dx) (TZ:∀ kd,dx ≠ .int kd) (hG:lu G) (hO:bz K k e R v xs Hs) (hu:ir K k R (G Hs) u ys) (hl:eW xs ys=some zs) (hd:bT o.dst c.n)
  (hC:∀ v' dT,bz K k e R v' zs dT→∃ st',aI (bU o.dst v' st) st'∧C R (G dT) st'):aW P B c o R (G Hs) st C:=by
 obtain ⟨tA,rfl⟩:=alX hl
 refine ⟨by rw [au]; rfl,hd,λ ρ bd=>?_⟩
 simp only [execOp,au]
 refine ai.eX (a:=⟨.builtin .append #[t,xT] o.type (#[x,y].map λ | .const _=>true | _=>false),#[x,y].map ρ⟩) (ai.pure _) ?_
 simp only [invoke,builtin]
 have e:(#[x,y].map ρ)=#[v,u]:=by simp [bd x _ hx,bd y _ hy]
 rw [e]
 refine aR.bind (aR.append hG ht WB TZ hO hu tA λ v' dT Ni=>aR.pure ?_)
 obtain ⟨st',hs,h⟩:=hC v' dT Ni
 exact ⟨v',.inl rfl,st',hs,h⟩
theorem U.lO{α:Type}{K:cu α}[CM K]{k e:Nat}{todo:List Item}(G:an→an)(hG:lu G){v:Value}{xs:List α}{Hs H2:an}(h2:G []=H2)(hO:bz K k e R v xs Hs)(h:∀ R',aT R R'→ae K k R' v xs→U af c R' H2 st todo):U af c R (G Hs) st todo:=by
 subst h2
 rcases hO with ⟨A,rfl,rfl,rfl⟩ | ⟨b,cap,cs,es,rfl,rfl,h3,h4,h5,h6⟩
 ·exact h R (aT.refl R) .nil
 ·obtain ⟨A,D,zX⟩:=hG
  rw [zX] at h ⊢
  refine U.perm (H':=(b,.cells cs e (0,0))::(A++([]++D))) (by simpa using List.perm_middle.symm) (U.freeze λ R' hR hb=>h R' hR ?_)
  exact ⟨_,cap,es,rfl,h5.mono hR,h4,λ _=>⟨b,0,cs,e,(0,0),rfl,hb,λ j w hj=>by simpa using h6 j w hj⟩⟩
theorem U.qB{α:Type}{K:cu α}[CM K]{k e b n:Nat}{todo:List Item}(G:an→an)(hG:lu G){H2:an}(h2:G []=H2){ys:List α}{cs:Array Value}(hE:aY K k R ys cs.toList)(hn:ys.length=n)(h:∀ R',aT R R'→ae K k R' (.slice (some ⟨b,0,none⟩) n n) ys→U af c R' H2 st todo):U af c R (G [(b,.cells cs e (0,0))]) st todo:=by
 subst hn h2
 obtain ⟨A,D,zX⟩:=hG
 rw [zX] at h ⊢
 refine U.perm (H':=(b,.cells cs e (0,0))::(A++([]++D))) (by simpa using List.perm_middle.symm) (U.freeze λ R' hR hb=>h R' hR ?_)
 exact ⟨_,ys.length,cs.toList,rfl,hE.mono hR,Nat.le_refl _,λ _=>⟨b,0,cs,e,(0,0),rfl,hb,λ j w hj=>by simpa using hj⟩⟩
theorem bz.lit{α:Type}{K:cu α}{k e b n:Nat}{ys:List α}{cs:Array Value}(hE:aY K k R ys cs.toList)(hn:ys.length=n):bz K k e R (.slice (some ⟨b,0,none⟩) n n) ys [(b,.cells cs e (0,0))]:=by
 subst hn
 exact .inr ⟨b,_,cs,cs.toList,rfl,rfl,by simpa using hE.len,Nat.le_refl _,hE,λ j w hj=>by simpa using hj⟩
end
end Go.Lg
namespace Go.Lg
open Go.Conc
theorem aI.one{dst:Option Tmp}{d:Tmp}{v:Value}{st:St}(h:dst=some d):aI (bU dst v st) [(d,v)]:=by
 subst h
 intro t u hu
 simp only [List.lookup_cons,List.lookup_nil] at hu
 simp only [bU,List.lookup_cons]
 split at hu
 ·exact hu
 ·cases hu
theorem fp.skip{Ks H H':an}{b:Nat}{o o':Obj}(h:fp H b o o' H'):fp (Ks++H) b o o' (Ks++H'):=by
 induction Ks with
 | nil=>exact h
 | cons p Ks ih=>exact .there ih
theorem aQ.box{R:az}{H:an}{b:Nat}{e:TypeId}{fz:Nat × Nat}{L:List Value}(hm:(b,Obj.cells L.toArray e fz)∈H):aQ R H b 0 L:=λ j v hj=>⟨rfl,_,e,fz,.inr hm,by simpa using hj⟩
theorem lu.id{D:an}:lu (λ X=>X++D):=⟨[],D,λ _=>rfl⟩
theorem lu.cons{p:Nat × Obj}{G:an→an}(h:lu G):lu (λ X=>p::G X):=by
 obtain ⟨A,D,h⟩:=h
 exact ⟨p::A,D,λ X=>by show p::G X=_; rw [h]; rfl⟩
theorem lu.app{L:an}{G:an→an}(h:lu G):lu (λ X=>L++G X):=by
 obtain ⟨A,D,h⟩:=h
 exact ⟨L++A,D,λ X=>by show L++G X=_; rw [h,List.append_assoc]⟩
theorem nS{place:Nat→Option (Nat × Nat)}{cells:Array Value}:Instr.fill place cells []=some cells:=rfl
theorem aCC(vc:List Value):∀ (cells:Array Value) (off j:Nat),(vc.zipIdx j).foldl (λ cs (c,i)=>cs.setIfInBounds (off+i) c) cells=fU cells (off+j) vc:=by
 induction vc with
 | nil=>intro cells off j; rfl
 | cons v r ih=>intro cells off j; simp only [List.zipIdx_cons,List.foldl_cons,fU]; rw [ih]; rfl
theorem aCD(vc cells:Array Value)(off:Nat):vc.zipIdx.foldl (λ cs (c,i)=>cs.setIfInBounds (off+i) c) cells=fU cells off vc.toList:=by
 have h:=aCC vc.toList cells off 0
 rw [Nat.add_zero] at h
 rw [← h,← Array.foldl_toList]
 simp
theorem nj{place:Nat→Option (Nat × Nat)}{cells cells' out vc:Array Value}{i off size:Nat}{v:Value}{rest:List (Nat × Value)}(hp:place i=some (off,size))(hc:v.cells=vc)
  (hs:(vc.size == size && Nat.ble (off+vc.size) cells.size)=true) (mX:fU cells off vc.toList=cells') (h:Instr.fill place cells' rest=some out):Instr.fill place cells ((i,v)::rest)=some out:=by
 subst hc
 rw [Bool.and_eq_true] at hs
 have h1:v.cells.size=size:=by simpa using hs.1
 have h2:off+v.cells.size≤cells.size:=by simpa [Nat.ble_eq] using hs.2
 simp only [Instr.fill,hp]
 rw [if_neg (by simp [h1]; omega),aCD,mX]
 exact h
theorem bl:∀ u∈([]:List Value),u.oneCell'=true:=λ _ h=>by cases h
theorem cw{v:Value}{l:List Value}(h:v.oneCell'=true)(t:∀ u∈l,u.oneCell'=true):∀ u∈v::l,u.oneCell'=true:=λ u hu=>by
 rcases List.mem_cons.1 hu with rfl | hu
 ·exact h
 ·exact t u hu
theorem bq{l m:List Value}(h:∀ u∈l,u.oneCell'=true)(t:∀ u∈m,u.oneCell'=true):∀ u∈l++m,u.oneCell'=true:=λ u hu=>(List.mem_append.1 hu).elim (h u) (t u)
theorem cO{α:Type}{f:α→Value}{xs:List α}(h:∀ x,(f x).oneCell'=true):∀ u∈xs.map f,u.oneCell'=true:=λ u hu=>by
 obtain ⟨x,_,rfl⟩:=List.mem_map.1 hu
 exact h x
theorem aQ.part{R:az}{H:an}{b o j n:Nat}{L vs:List Value}(h:aQ R H b o L)(hv:(L.drop j).take n=vs):aQ R H b (o+j) vs:=by
 intro i v hi
 subst hv
 rw [List.getElem?_take] at hi
 split at hi
 ·rw [List.getElem?_drop] at hi
  have:=h _ _ hi
  simpa [Nat.add_assoc] using this
 ·cases hi
theorem aQ.arr{α:Type}{R:az}{H:an}{b o k:Nat}{f:α→Value}{pre post:List Value}{xs:List α}{i:Int}{x:α}(h:aQ R H b o (pre++(xs.map f++post)))(hi:idx xs i=some x)(hk:pre.length=k):Cell R H ⟨b,o+k+i.toNat * 1,none⟩ (f x):=by
 obtain ⟨_,_,h3⟩:=uR hi
 have bK:=(List.getElem?_eq_some_iff.1 h3).1
 have:=h (k+i.toNat) (f x) (by
  rw [List.getElem?_append_right (by omega),← hk,Nat.add_sub_cancel_left,List.getElem?_append_left (by simpa using bK)]
  simp [h3])
 simpa [Nat.add_assoc] using this
theorem aQ.sub{R:az}{H H':an}{b o:Nat}{L:List Value}(h:aQ R H b o L)(hs:∀ p∈H,p∈H'):aQ R H' b o L:=λ j v hj=>by
 obtain ⟨h1,cs,e,fz,h2,h3⟩:=h j v hj
 exact ⟨h1,cs,e,fz,h2.imp id (hs _),h3⟩
theorem aQ.le{R R':az}{H:an}{b o:Nat}{L:List Value}(h:aQ R H b o L)(hs:aT R R'):aQ R' H b o L:=λ j v hj=>by
 obtain ⟨h1,cs,e,fz,h2,h3⟩:=h j v hj
 exact ⟨h1,cs,e,fz,h2.imp (hs _ _) id,h3⟩
theorem Sd{α:Type}{f:α→Value}{pre post:List Value}{xs:List α}{i:Int}{x y:α}{k:Nat}(hi:idx xs i=some y)(hk:pre.length=k):((pre++(xs.map f++post)).toArray).setIfInBounds (k+i.toNat * 1) (f x)=(pre++((xs.set i.toNat x).map f++post)).toArray:=by
 obtain ⟨_,_,h3⟩:=uR hi
 have bK:=(List.getElem?_eq_some_iff.1 h3).1
 subst hk
 simp only [Nat.mul_one,List.setIfInBounds_toArray,List.map_set]
 congr 1
 rw [List.set_append_right _ _ (by omega),Nat.add_sub_cancel_left,List.set_append_left _ _ (by simpa using bK)]
theorem Sb{α:Type}{f:α→Value}{pre post:List Value}{xs:List α}{i:Int}{y:α}{k:Nat}(hi:idx xs i=some y)(hk:pre.length=k):Nat.blt (k+i.toNat * 1) ((pre++(xs.map f++post)).toArray).size=true:=by
 obtain ⟨_,_,h3⟩:=uR hi
 have bK:=(List.getElem?_eq_some_iff.1 h3).1
 rw [Nat.blt_eq]
 simp
 omega
theorem eZ{L:List Value}{n:Nat}(h:L.length=n):(L.drop 0).take n=L:=by subst h; simp
theorem aD6{pre mid post:List Value}{k n:Nat}(hk:pre.length=k)(hn:mid.length=n):((pre++(mid++post)).drop k).take n=mid:=by subst hk; subst hn; simp
theorem o6{P:Program}{α:Type}{t e len k b m:Nat}{i:Int}{xs:List α}{x:α}(ht:vN P t len e k)(hl:xs.length=len)(hi:idx xs i=some x):zI P t (.pointer (some ⟨b,m,none⟩)) i b (m+i.toNat * k):=by
 obtain ⟨h1,h2,_⟩:=uR hi
 exact adz ht ⟨h1,by omega⟩
theorem ae.one{α:Type}{C:cu α}{k:Nat}{R:az}{v:Value}{xs:List α}(h:ae C k R v xs):v.oneCell'=true:=by
 obtain ⟨A,cap,es,rfl,_⟩:=h; rfl
theorem ae.cells{α:Type}{C:cu α}{k:Nat}{R:az}{v:Value}{xs:List α}(h:ae C k R v xs):v.cells=#[v]:=by
 obtain ⟨A,cap,es,rfl,_⟩:=h; rfl
theorem bz.cells{α:Type}{C:cu α}{k e:Nat}{R:az}{v:Value}{xs:List α}{Hs:an}(h:bz C k e R v xs Hs):v.cells=#[v]:=by
 rcases h with ⟨A,rfl,_⟩ | ⟨b,cap,cs,es,rfl,_⟩ <;> rfl
theorem bz.one{α:Type}{C:cu α}{k e:Nat}{R:az}{v:Value}{xs:List α}{Hs:an}(h:bz C k e R v xs Hs):v.oneCell'=true:=by
 rcases h with ⟨A,rfl,_⟩ | ⟨b,cap,cs,es,rfl,_⟩ <;> rfl
theorem aY.cons{α:Type}{C:cu α}{k:Nat}{R:az}{x:α}{xs:List α}{e1 es:List Value}(h:C R x e1)(hk:e1.length=k)(g:aY C k R xs es):aY C k R (x::xs) (e1++es):=(aY.single h hk).append g
theorem aY.le{α:Type}{C:cu α}{k:Nat}{R:az}{xs:List α}{es fs:List Value}(h:aY C k R xs es)(e:es=fs):aY C k R xs fs:=by subst e; exact h
section
variable {P:Program} {B:Base} {main:Bool} {af:Jd P B main} {c:Ctx} {R:az} {H H':an} {st st':St} {o:Oper} {k:List Item}
inductive pJ (P:Program) (R:az) (H:an) (st:St):List ResultVar→List Value→Prop
 | nil:pJ P R H st [] []
 | tmp {t:Tmp} {v:Value} {r:List ResultVar} {vs:List Value}:st.lookup t=some v→pJ P R H st r vs→pJ P R H st (.tmp t::r) (v::vs)
 | one {a:Tmp} {t:TypeId} {b o:Nat} {v:Value} {r:List ResultVar} {vs:List Value}:st.lookup a=some (.pointer (some ⟨b,o,none⟩))→ic P t→Cell R H ⟨b,o,none⟩ v→pJ P R H st r vs→pJ P R H st (.cell a t::r) (v::vs)
 | agg {a:Tmp} {t:TypeId} {b o n:Nat} {us:List Value} {r:List ResultVar} {vs:List Value}:st.lookup a=some (.pointer (some ⟨b,o,none⟩))→nA P t n→us.length=n→aQ R H b o us→pJ P R H st r vs→pJ P R H st (.cell a t::r) (.agg us.toArray::vs)
theorem aDs{tmps:Array Value}{n:Nat}(ht:cM n st tmps):∀ {l:List ResultVar} {vs:List Value},pJ P R H st l vs→∀ {K:List Value→az→an→Prop},K vs R H →
  aR P B R H (l.mapM (m:=Sem) λ
   | .tmp t=>pure (tmps.getD t undef)
   | .cell a t=>do loadVar t (← asAddr (tmps.getD a undef))) K:=by
 intro l vs h
 induction h with
 | nil=>intro K hk; exact aR.pure hk
 | @tmp t v r vs hl _ ih =>
  intro K hk
  rw [List.mapM_cons]
  have:tmps.getD t undef=v:=by simp [Array.getD_eq_getD_getElem?,ht.2 t v hl]
  refine ai.eX (a:=v) (by show ai P (pure (tmps.getD t undef)) v; rw [this]; exact ai.pure _) (aR.bind (ih (K:=λ us R' H'=>K (v::us) R' H') hk |>.mono λ us R' H' h=>aR.pure h))
 | @one a t b o v r vs hl NM hc _ ih =>
  intro K hk
  rw [List.mapM_cons]
  have:tmps.getD a undef = .pointer (some ⟨b,o,none⟩):=by simp [Array.getD_eq_getD_getElem?,ht.2 a _ hl]
  simp only [this]
  refine aR.bind (ai.eX (a:=⟨b,o,none⟩) (ai.pure _) ?_)
  unfold loadVar
  refine ai.eX NM.1 (aR.load hc (aR.bind (ih (K:=λ us R' H'=>K (v::us) R' H') hk |>.mono λ us R' H' h=>aR.pure h)))
 | @agg a t b o n us r vs hl NM hn hc _ ih =>
  intro K hk
  rw [List.mapM_cons]
  have:tmps.getD a undef = .pointer (some ⟨b,o,none⟩):=by simp [Array.getD_eq_getD_getElem?,ht.2 a _ hl]
  simp only [this]
  refine aR.bind (ai.eX (a:=⟨b,o,none⟩) (ai.pure _) ?_)
  unfold loadVar
  refine ai.eX NM.1 ?_
  simp only [if_true]
  subst hn
  refine ai.eX NM.2 (aR.bind (aR.loadCellsFrom us 0 #[] (by simpa using hc) (aR.pure ?_)))
  simp only [List.append_toArray,List.nil_append]
  exact aR.bind (ih (K:=λ vs R' H'=>K (.agg us.toArray::vs) R' H') hk |>.mono λ us R' H' h=>aR.pure h)
theorem O2{fn:Func}{tmps:Array Value}{n:Nat}{vs:List Value}(ht:cM n st tmps)(h:pJ P R H st fn.results.toList vs):aR P B R H (results fn tmps) λ v R' H'=>v=iE vs∧R'=R∧H'=H:=by
 unfold results
 rw [← Array.toArray_toList (xs:=fn.results),List.mapM_toArray]
 refine aR.bind (aR.map (aDs ht h ?_))
 cases vs with
 | nil=>exact aR.pure ⟨rfl,rfl,rfl⟩
 | cons v r=>cases r with
  | nil=>exact aR.pure ⟨rfl,rfl,rfl⟩
  | cons _ _=>exact aR.pure ⟨rfl,rfl,rfl⟩
theorem U.Dn{fr:Frame}{cs:List Frame}{f:FuncId}{n:Nat}{fn:Func}{vs:List Value}(hf:P.funcs[f]? = some fn)(hr:pJ P R H st fn.results.toList vs)(hj:af.J R H (aX (fr.finish (iE vs)) cs)) :
  U af ⟨f,.normal,none,n,[],fr::cs⟩ R H st (.code .ret::k):=λ tmps ht=>by
 refine Jd.ctl (g':=aX { (aV ⟨f,.normal,none,n,[],fr::cs⟩ tmps (.code .ret::k)) with mode:=.returning } (fr::cs)) rfl (λ w=>by simp [stepG,stepG.exec,aX,aV])
  (af.step rfl λ w hw=>?_)
 obtain ⟨v,w',R',H',h1,h2,h3,rfl,rfl,rfl⟩:=O2 (P:=P) ht hr w hw
 refine ⟨aX (fr.finish (iE vs)) cs,w',seen P f ((results fn tmps).events P w #[]),R',H',?_,λ e he=>h2 e (mem_seen he),h3,hj⟩
 simp [stepG,unwind,doReturn,aX,aV,hf,h1,GStep.after]
theorem U.MT{fr:Frame}{cs:List Frame}{f:FuncId}{n:Nat}{fn:Func}{vs:List Value}(hf:P.funcs[f]? = some fn)(hr:pJ P R H st fn.results.toList vs)(hj:af.J R H (aX (fr.finish (iE vs)) cs)) :
  U af ⟨f,.normal,none,n,[],fr::cs⟩ R H st []:=λ tmps ht=>by
 refine Jd.ctl (g':=aX { (aV ⟨f,.normal,none,n,[],fr::cs⟩ tmps []) with mode:=.returning } (fr::cs)) rfl (λ w=>by simp [stepG,stepG.exec,aX,aV])
  (af.step rfl λ w hw=>?_)
 obtain ⟨v,w',R',H',h1,h2,h3,rfl,rfl,rfl⟩:=O2 (P:=P) ht hr w hw
 refine ⟨aX (fr.finish (iE vs)) cs,w',seen P f ((results fn tmps).events P w #[]),R',H',?_,λ e he=>h2 e (mem_seen he),h3,hj⟩
 simp [stepG,unwind,doReturn,aX,aV,hf,h1,GStep.after]
end
section
variable {P:Program} {B:Base} {main:Bool}
abbrev nY(α:Type):=az→α→Value→Prop
def pE(af:Jd P B main)(R:az)(H:an){α β:Type}(A:nY α)(D:nY β)(v:Value)(f:α→Option β):Prop :=
 ∃ ij first captured,v = .func (.func ij) first captured∧bj P ij∧∀ R' H',aT R R'→(∀ p∈H,p∈H')→∀ x r va,A R' x va→f x=some r→aC af ij (first++#[va]++captured) R' H' λ v cx dW=>aT R' cx∧dW=H'∧D cx r v
def VI(kd:IntKind):nY Int:=λ _ x v=>v = .int kd x
def VB:nY Bool:=λ _ x v=>v = .bool x
def jR{α:Type}(C:cu α):nY α:=λ R x v=>∃ es,v = .agg (List.toArray es)∧C R x es
theorem pE.up{af:Jd P B main}{R R':az}{H H':an}{α β:Type}{A:nY α}{D:nY β}{v:Value}{f:α→Option β}(h:pE af R H A D v f)(hR:aT R R')(hH:∀ p∈H,p∈H'):pE af R' H' A D v f:=by
 obtain ⟨ij,first,captured,h1,h2,h3⟩:=h
 exact ⟨ij,first,captured,h1,h2,λ cx dW IP hH'=>h3 cx dW (hR.trans IP) (λ p hp=>hH' p (hH p hp))⟩
end
end Go.Lg
namespace Go.Lg
open Go.Conc
theorem pk{h l1 l2:an}(p:List.Sublist l1 l2):List.Sublist (h++l1) (h++l2):=List.Sublist.append (List.Sublist.refl _) p
theorem bV{h l1 l2:an}(p:List.Sublist l1 l2):List.Sublist l1 (h++l2):=by
 induction h with
 | nil=>exact p
 | cons a h ih=>exact ih.cons a
def nX{α:Type}(f:α→Value)(n:Nat):cu (List α):=λ _ xs es=>xs.length=n∧es=[]++(xs.map f++[])
theorem cH{vs:List Value}{cs:Array Value}(h:vs.length=cs.size):fU cs 0 vs=vs.toArray:=by
 have hs:(fU cs 0 vs).size=cs.size:=KY _ _ _
 apply Array.ext_getElem?
 intro j
 rw [Dm vs cs 0 j (by omega)]
 by_cases hj:j < vs.length
 ·rw [if_pos (by omega)]; simp
 ·rw [if_neg (by omega)]
  rw [Array.getElem?_eq_none (by omega)]
  simp [Nat.not_lt.1 hj]
section
variable {P:Program} {B:Base} {main:Bool} {af:Jd P B main} {c:Ctx} {R:az} {H:an} {st:St} {k:List Item} {o:Oper} {C:az→an→St→Prop}
theorem U.azF{S Q ρ:Type}{body:S→Option (S ⊕ Q)}{s0:S}{code:Code}{g:Q→Option ρ}{r:ρ}(hM:(Go.Lg.bC body s0).bind g=some r)(I:S→az→an→St→Prop)(h0:I s0 R H st)(hb:∀ s R H st,I s R H st→∀ x,body s=some x→(∀ s',x=Sum.inl s'→∀ R' H' st',I s' R' H' st'→U af c R' H' st' (.inLoop code::k))→(∀ p,x=(Sum.inr p)→g p=some r)→U af c R H st (.code code :: .inLoop code::k)):U af c R H st (.code (.loop code)::k):=U.bC hM I (λ s R H st hI x hx again out=>hb s R H st hI x hx again (λ _ hp=>out _ hp)) h0
theorem U.jA{S P0 ρ:Type}{body:S→Option (S ⊕ P0)}{s0:S}{code:Code}{f0:P0→Option ρ}{r:ρ}{k0:List Item}(hM:(Go.Lg.bC body s0).bind f0=some r)(I:S→az→an→St→Prop)(E0:P0→az→an→St→Prop)(WI:Nat)(_:exitTo WI k=some k0)(h0:I s0 R H st)(sK:∀ p R H st,E0 p R H st→f0 p=some r→U af c R H st k0)(hb:∀ s R H st,I s R H st→∀ x,body s=some x→(∀ s',x=Sum.inl s'→∀ R' H' st',I s' R' H' st'→U af c R' H' st' (.inLoop code::k))→(∀ p,x=(Sum.inr p)→∀ R' H' st',E0 p R' H' st'→U af c R' H' st' k0)→U af c R H st (.code code :: .inLoop code::k)):U af c R H st (.code (.loop code)::k):=U.bC hM I (λ s R H st hI x hx again out=>hb s R H st hI x hx again (λ p hp R' H' st' hE=>sK p R' H' st' hE (out _ hp))) h0
theorem U.fD{S P0 Q ρ:Type}{body:S→Option (S ⊕ (P0 ⊕ Q))}{s0:S}{code:Code}{f0:P0→Option ρ}{g:Q→Option ρ}{r:ρ}{k0:List Item}(hM:(Go.Lg.bC body s0).bind (Sum.elim f0 g)=some r)(I:S→az→an→St→Prop)(E0:P0→az→an→St→Prop)(WI:Nat)(_:exitTo WI k=some k0)(h0:I s0 R H st)(sK:∀ p R H st,E0 p R H st→f0 p=some r→U af c R H st k0)(hb:∀ s R H st,I s R H st→∀ x,body s=some x→(∀ s',x=Sum.inl s'→∀ R' H' st',I s' R' H' st'→U af c R' H' st' (.inLoop code::k))→(∀ p,x=(Sum.inr (Sum.inl p))→∀ R' H' st',E0 p R' H' st'→U af c R' H' st' k0)→(∀ p,x=(Sum.inr (Sum.inr p))→g p=some r)→U af c R H st (.code code :: .inLoop code::k)):U af c R H st (.code (.loop code)::k):=U.bC hM I (λ s R H st hI x hx again out=>hb s R H st hI x hx again (λ p hp R' H' st' hE=>sK p R' H' st' hE (out _ hp)) (λ _ hp=>out _ hp)) h0
theorem U.ia{P0 ρ:Type}{A:Option P0}{it:Item}{f0:P0→Option ρ}{r:ρ}(hM:A.bind f0=some r)(E0:P0→az→an→St→Prop)(sK:∀ p R H st,E0 p R H st→f0 p=some r→U af c R H st k)(hb:∀ x,A=some x→(∀ p,x=p→∀ R' H' st',E0 p R' H' st'→U af c R' H' st' k)→U af c R H st (it::k)):U af c R H st (it::k):=by
 obtain ⟨x,h1,h2⟩:=aj hM
 exact hb x h1 (λ p hp R' H' st' hE=>sK p R' H' st' hE (by subst hp; exact h2))
theorem U.aIn{P0 Q ρ:Type}{A:Option (P0 ⊕ Q)}{it:Item}{f0:P0→Option ρ}{g:Q→Option ρ}{r:ρ}(hM:A.bind (Sum.elim f0 g)=some r)(E0:P0→az→an→St→Prop)(sK:∀ p R H st,E0 p R H st→f0 p=some r→U af c R H st k)(hb:∀ x,A=some x→(∀ p,x=(Sum.inl p)→∀ R' H' st',E0 p R' H' st'→U af c R' H' st' k)→(∀ p,x=(Sum.inr p)→g p=some r)→U af c R H st (it::k)):U af c R H st (it::k):=by
 obtain ⟨x,h1,h2⟩:=aj hM
 exact hb x h1 (λ p hp R' H' st' hE=>sK p R' H' st' hE (by subst hp; exact h2)) (λ p hp=>by subst hp; exact h2)
theorem Ox.ub{α β:Type}{A:nY α}{D:nY β}{f:α→Option β}{x y:Operand}{ts:Array TypeId}{v va:Value}{a:α}{r:β}{H0:an}(h:pE af R H0 A D v f)
  (au:o.op = .call ⟨.value x,#[y],ts⟩) (hx:bg st x=some v) (hy:bg st y=some va) (hA:A R a va) (hf:f a=some r) (hd:bT o.dst c.n) (hH:∀ p∈H0,p∈H)
  (hC:∀ w R',aT R R'→D R' r w→∃ st',aI (bU o.dst w st) st'∧C R' H st'):pI af c o R H st C:=by
 obtain ⟨ij,first,captured,rfl,he,hk⟩:=h
 refine Ox.fQ (vs:=[va]) au rfl hx (by simp [ji,hy]) he rfl hd ((hk R H (aT.refl _) hH a r va hA hf).mono λ w R' H' h=>?_)
 obtain ⟨h1,rfl,h3⟩:=h
 exact hC w R' h1 h3
end
end Go.Lg
namespace Go.Lg
open Go.Conc
def cK{α:Type}(C:cu α)(k:Nat)(R:az)(H:an)(v:Value)(xs:List α):Prop :=
 ∃ A cap es,v = .slice A xs.length cap∧aY C k R xs es∧xs.length≤cap∧(xs≠[]→∃ b o,A=some ⟨b,o,none⟩∧aQ R H b o es)
theorem cK.le{α:Type}{C:cu α}[CM C]{k:Nat}{R R':az}{H:an}{v:Value}{xs:List α}(h:cK C k R H v xs)(hR:aT R R'):cK C k R' H v xs:=by
 obtain ⟨A,cap,es,h1,h2,h3,h4⟩:=h
 refine ⟨A,cap,es,h1,h2.mono hR,h3,λ hx=>?_⟩
 obtain ⟨b,o,g1,g2⟩:=h4 hx
 exact ⟨b,o,g1,g2.le hR⟩
theorem cK.sub{α:Type}{C:cu α}{k:Nat}{R:az}{H H':an}{v:Value}{xs:List α}(h:cK C k R H v xs)(hs:∀ p∈H,p∈H'):cK C k R H' v xs:=by
 obtain ⟨A,cap,es,h1,h2,h3,h4⟩:=h
 refine ⟨A,cap,es,h1,h2,h3,λ hx=>?_⟩
 obtain ⟨b,o,g1,g2⟩:=h4 hx
 exact ⟨b,o,g1,g2.sub hs⟩
theorem ae.rd{α:Type}{C:cu α}{k:Nat}{R:az}{H:an}{v:Value}{xs:List α}(h:ae C k R v xs):cK C k R H v xs:=by
 obtain ⟨A,cap,es,h1,h2,hc,h3⟩:=h
 refine ⟨A,cap,es,h1,h2,hc,λ hx=>?_⟩
 obtain ⟨b,o,arr,e,fz,g1,g2,g3⟩:=h3 hx
 exact ⟨b,o,g1,λ j w hj=>⟨rfl,arr,e,fz,.inl g2,g3 j w hj⟩⟩
theorem bz.rd{α:Type}{C:cu α}{k e:Nat}{R:az}{H:an}{v:Value}{xs:List α}{Hs:an}(h:bz C k e R v xs Hs)(hs:∀ p∈Hs,p∈H):cK C k R H v xs:=by
 rcases h with ⟨A,rfl,rfl,rfl⟩ | ⟨b,cap,cs,es,rfl,rfl,h3,h4,h5,h6⟩
 ·exact ⟨A,0,[],rfl,.nil,Nat.le_refl _,λ h=>absurd rfl h⟩
 ·exact ⟨_,cap,es,rfl,h5,h4,λ _=>⟨b,0,rfl,λ j w hj=>⟨rfl,cs,e,(0,0),.inr (hs _ (by simp)),by simpa using h6 j w hj⟩⟩⟩
theorem cK.lit{α:Type}{C:cu α}{k e n b:Nat}{R:az}{H:an}{ys:List α}{cs:Array Value}{fz:Nat × Nat}(hm:(b,Obj.cells cs e fz)∈H)(hE:aY C k R ys cs.toList)(hn:ys.length=n):cK C k R H (.slice (some ⟨b,0,none⟩) n n) ys:=by
 subst hn
 exact ⟨_,ys.length,cs.toList,rfl,hE,Nat.le_refl _,λ _=>⟨b,0,rfl,λ j w hj=>⟨rfl,cs,e,fz,.inr hm,by simpa using hj⟩⟩⟩
theorem cK.arg{α:Type}{C:cu α}{k:Nat}{R:az}{H:an}{v:Value}{xs:List α}(h:cK C k R H v xs):ir C k R H v xs:=by
 obtain ⟨A,cap,es,h1,h2,_,h3⟩:=h
 exact ⟨A,cap,es,h1,h2,h3⟩
theorem cK.elem{P:Program}{α:Type}{K:cu α}{k t e:Nat}{R:az}{H:an}{v:Value}{xs:List α}{i:Int}{x:α}(h:cK K k R H v xs)(ht:mR P t e k)(hi:idx xs i=some x) :
  ∃ b n es,K R x es∧aQ R H b n es∧zI P t v i b n:=by
 obtain ⟨h1,h2,h3⟩:=uR hi
 obtain ⟨A,cap,es,rfl,hE,_,hc⟩:=h
 obtain ⟨b,o,rfl,g2⟩:=hc (by rintro rfl; simp at h3)
 obtain ⟨e1,f1,f2,f3⟩:=hE.at_ _ _ h3
 refine ⟨b,o+i.toNat * k,e1,f1,λ j w hj=>?_,λ kd=>?_⟩
 ·have:=g2 _ _ (f3 j w hj)
  simpa [Nat.add_assoc] using this
 ·have:=Yb (P:=P) (b:=b) (m:=o) (cap:=cap) (kd:=kd) ht (j:=i.toNat) (len:=xs.length) (by omega)
  rwa [Int.toNat_of_nonneg h1] at this
theorem q6(a b:Nat × Obj)(l:an):List.Perm (a::b::l) (b::a::l):=List.Perm.swap _ _ _
section
variable {P:Program} {B:Base} {main:Bool} {af:Jd P B main} {c:Ctx} {R:az} {H H':an} {st st':St} {o:Oper} {C:az→an→St→Prop} {k:List Item}
theorem Ox.WW{α:Type}{K:cu α}{k:Nat}{x:Operand}{t e:TypeId}{v:Value}{xs:List α}{H0:an}(au:o.op = .call ⟨.builtin .len,#[x],#[t]⟩)(hx:bg st x=some v)(hl:cK K k R H0 v xs)(ht:P.underlying t=some (.slice e))
  (hd:bT o.dst c.n) (hs:aI (bU o.dst (.int .i64 (xs.length:Int)) st) st') (h:C R H st'):aW P B c o R H st C:=by
 obtain ⟨A,cap,es,rfl,_⟩:=hl
 exact Ox.len au hx ht hd hs h
theorem U.cut{it:Item}(E:az→an→St→Prop)(h1:∀ R' H' st',E R' H' st'→U af c R' H' st' k)(h2:(∀ R' H' st',E R' H' st'→U af c R' H' st' k)→U af c R H st (it::k)):U af c R H st (it::k):=h2 h1
theorem Any.aEd{S:Nat→an}{ops:Array Oper}{n:Nat}{rem ra rb:List Nat}{i j:Nat}{a b:Oper}(ha:ops[i]? = some a)(hb:ops[j]? = some b)(mY:rem.filter (oz ops rem)=[i,j])(J1:cE ops st a=some true)(J2:cE ops st b=some true)(dR:rem.Nodup)(Ci:rem.erase i=ra)(UJ:rem.erase j=rb)
  (h1:pI af c a R H st λ R' H' st'=>aT R R'∧(∀ p∈S i,p∈H→p∈H')∧Any af c S ops k n ra R' H' st')
  (h2:pI af c b R H st λ R' H' st'=>aT R R'∧(∀ p∈S j,p∈H→p∈H')∧Any af c S ops k n rb R' H' st'):Any af c S ops k (n+1) rem R H st:=by
 subst Ci UJ
 refine ⟨dR,λ tmps ht=>.inr ⟨(λ e=>by rw [e] at mY; cases mY),λ _ x hx WC=>?_⟩⟩
 have:x∈rem.filter (oz ops rem):=List.mem_filter.2 ⟨hx,WC⟩
 rw [mY] at this
 simp only [List.mem_cons,List.not_mem_nil,or_false] at this
 rcases this with rfl | rfl
 ·exact h1.Ge ha (kO ht J1) ht
 ·exact h2.Ge hb (kO ht J2) ht
theorem Any.Pa{S:Nat→an}{ops:Array Oper}{n:Nat}{rem ra rb rc:List Nat}{i j l:Nat}{a b d:Oper}(ha:ops[i]? = some a)(hb:ops[j]? = some b)(hd:ops[l]? = some d)(mY:rem.filter (oz ops rem)=[i,j,l])(J1:cE ops st a=some true)(J2:cE ops st b=some true)(hwd:cE ops st d=some true)(dR:rem.Nodup)(Ci:rem.erase i=ra)(UJ:rem.erase j=rb)(hrc:rem.erase l=rc)
  (h1:pI af c a R H st λ R' H' st'=>aT R R'∧(∀ p∈S i,p∈H→p∈H')∧Any af c S ops k n ra R' H' st')
  (h2:pI af c b R H st λ R' H' st'=>aT R R'∧(∀ p∈S j,p∈H→p∈H')∧Any af c S ops k n rb R' H' st')
  (h3:pI af c d R H st λ R' H' st'=>aT R R'∧(∀ p∈S l,p∈H→p∈H')∧Any af c S ops k n rc R' H' st'):Any af c S ops k (n+1) rem R H st:=by
 subst Ci UJ hrc
 refine ⟨dR,λ tmps ht=>.inr ⟨(λ e=>by rw [e] at mY; cases mY),λ _ x hx WC=>?_⟩⟩
 have:x∈rem.filter (oz ops rem):=List.mem_filter.2 ⟨hx,WC⟩
 rw [mY] at this
 simp only [List.mem_cons,List.not_mem_nil,or_false] at this
 rcases this with rfl | rfl | rfl
 ·exact h1.Ge ha (kO ht J1) ht
 ·exact h2.Ge hb (kO ht J2) ht
 ·exact h3.Ge hd (kO ht hwd) ht
end
end Go.Lg
namespace Go.Lg
open Go.Conc
section
variable {P:Program} {d:Nat} {xs ys:Array Value}
inductive HX (P:Program) (d:Nat) (xs ys:Array Value):List Field→Bool→Prop
 | nil:HX P d xs ys [] true
 | cons {f:Field} {rest:List Field} {a b:Value} {r r':Bool}:(f.name == "_")=false→ai P (part f.type xs f.offset) a→ai P (part f.type ys f.offset) b→ai P (Op.equalIn d f.type a b) r→HX P d xs ys rest r'→HX P d xs ys (f::rest) (r && r')
def rO(r:Bool):Option Bool × Unit:=(if r then none else some false,())
theorem aEr{fs:List Field}{r:Bool}(h:HX P d xs ys fs r) :
  ai P (forIn fs ((none:Option Bool),()) λ f (_:Option Bool × Unit) =>
      if f.name ≠ "_" then do
       let a ← part f.type xs f.offset
       let b ← part f.type ys f.offset
       let q ← Op.equalIn d f.type a b
       if (!q)=true then pure (ForInStep.done (some false,())) else pure (ForInStep.yield (none,()))
      else pure (ForInStep.yield (none,()))) (rO r):=by
 induction h with
 | nil=>rw [List.forIn_nil]; exact ai.pure _
 | @cons f rest a b r r' hn ha hb hq _ ih =>
  have xY:f.name ≠ "_":=by simpa using hn
  rw [List.forIn_cons]
  simp only [xY,ne_eq,not_false_iff,if_true,bind_assoc]
  refine ai.bind ha (ai.bind hb (ai.bind hq ?_))
  cases r with
  | false=>simp only [Bool.not_false,if_true,pure_bind,Bool.false_and]; exact ai.pure _
  | true =>
   simp only [Bool.not_true,Bool.false_eq_true,if_false,pure_bind,Bool.true_and]
   simpa only [ne_eq] using ih
theorem Lb{t:TypeId}{fields:Array Field}{r:Bool}(hu:P.underlying t=some (.struct fields))(cG:P.stoodInHeld t=false)(h:HX P d xs ys fields.toList r):ai P (Op.equalIn (d+1) t (.agg xs) (.agg ys)) r:=by
 rw [Op.equalIn]
 refine ai.bind (ai.underlying hu) ?_
 dsimp only
 refine ai.bind ai.program ?_
 simp only [cG,Bool.false_eq_true,if_false]
 rw [← Array.forIn_toList]
 refine ai.bind (aEr h) ?_
 cases r <;> exact ai.pure _
theorem vq{t:TypeId}{kd:IntKind}{a b:Int}(hu:P.underlying t=some (.int kd)):ai P (Op.equalIn (d+1) t (.int kd a) (.int kd b)) (a == b):=by
 rw [Op.equalIn]
 refine ai.bind (ai.underlying hu) ?_
 simp only [if_true]
 exact ai.pure _
theorem La{t:TypeId}{a b:Bool}(hu:P.underlying t=some .bool):ai P (Op.equalIn (d+1) t (.bool a) (.bool b)) (a == b):=by
 rw [Op.equalIn]
 exact ai.bind (ai.underlying hu) (ai.pure _)
inductive HW (P:Program) (d:Nat) (elem:TypeId) (n:Nat) (xs ys:Array Value):List Nat→Bool→Prop
 | nil:HW P d elem n xs ys [] true
 | cons {i:Nat} {rest:List Nat} {a b:Value} {r r':Bool}:ai P (part elem xs (i * n)) a→ai P (part elem ys (i * n)) b→ai P (Op.equalIn d elem a b) r→HW P d elem n xs ys rest r'→HW P d elem n xs ys (i::rest) (r && r')
theorem aEq{elem:TypeId}{n:Nat}{is:List Nat}{r:Bool}(h:HW P d elem n xs ys is r) :
  ai P (forIn is ((none:Option Bool),()) λ i (_:Option Bool × Unit)=>do
      let a ← part elem xs (i * n)
      let b ← part elem ys (i * n)
      let q ← Op.equalIn d elem a b
      if (!q)=true then pure (ForInStep.done (some false,())) else pure (ForInStep.yield (none,()))) (rO r):=by
 induction h with
 | nil=>rw [List.forIn_nil]; exact ai.pure _
 | @cons i rest a b r r' ha hb hq _ ih =>
  rw [List.forIn_cons]
  simp only [bind_assoc]
  refine ai.bind ha (ai.bind hb (ai.bind hq ?_))
  cases r with
  | false=>simp only [Bool.not_false,if_true,pure_bind,Bool.false_and]; exact ai.pure _
  | true =>
   simp only [Bool.not_true,Bool.false_eq_true,if_false,pure_bind,Bool.true_and]
   exact ih
theorem aEn{n len:Nat}{t elem:TypeId}{r:Bool}(hu:P.underlying t=some (.array len elem))(hs:ai P (sizeOf elem) n)(h:HW P d elem n xs ys (List.range len) r):ai P (Op.equalIn (d+1) t (.agg xs) (.agg ys)) r:=by
 rw [Op.equalIn]
 refine ai.bind (ai.underlying hu) ?_
 dsimp only
 refine ai.bind hs ?_
 rw [Std.Legacy.Range.forIn_eq_forIn_range']
 simp only [Std.Legacy.Range.size,Nat.sub_zero,Nat.add_sub_cancel,Nat.div_one]
 rw [← List.range_eq_range']
 refine ai.bind (aEq h) ?_
 cases r <;> exact ai.pure _
end
end Go.Lg
namespace Go.Lg
open Go.Conc
def im(s:ByteArray):List Int:=s.data.toList.map λ b=>(b.toNat:Int)
def vo(s:ByteArray)(i:Int):Option Int:=idx (im s) i
section
variable {P:Program} {B:Base} {main:Bool} {af:Jd P B main} {c:Ctx} {R:az} {H H':an} {st st':St} {o:Oper} {C:az→an→St→Prop} {k:List Item}
theorem Ox.N1{x y:Operand}{t:TypeId}{s:ByteArray}{kd:IntKind}{i z:Int}(au:o.op = .index t x y)(hx:bg st x=some (.string s))(hy:bg st y=some (.int kd i))(ht:P.underlying t=some .string)(hz:vo s i=some z)
  (hd:bT o.dst c.n) (hs:aI (bU o.dst (.int .u8 z) st) st') (h:C R H st'):aW P B c o R H st C :=
 Ox.me (s:=λ ρ=>Instr.index t (ρ x) (ρ y)) (by rw [au]; rfl) hd (λ ρ=>by simp only [execOp,au]) (λ ρ bd=>by
  rw [bd x _ hx,bd y _ hy]
  obtain ⟨h1,h2,h3⟩:=uR hz
  unfold im at h3
  rw [List.getElem?_map] at h3
  obtain ⟨b,hb,rfl⟩:=Option.map_eq_some_iff.1 h3
  unfold Instr.index
  refine ai.bind (a:=(kd,i)) (ai.pure _) (ai.bind (ai.underlying ht) ?_)
  have e:(if 0≤i then s[i.toNat]? else none)=some b:=by
   rw [if_pos h1]
   have gh:s.data[i.toNat]? = some b:=by simpa using hb
   rw [← gh]
   rfl
  simp only [e]
  exact ai.pure _) hs h
def aaj(P:Program)(t:TypeId)(z:Array Value):Prop:=jC P t z∧∃ n e m,P.underlying t=some (.array n e)∧ai P (sizeOf e) m
theorem Ox.MC{t:TypeId}{z:Array Value}(au:o.op = .build t #[])(ht:aaj P t z)
  (hd:bT o.dst c.n) (hs:aI (bU o.dst (.agg z) st) st') (h:C R H st'):aW P B c o R H st C :=
 Ox.me (s:=λ _=>Instr.build t #[]) (by rw [au]; rfl) hd (λ ρ=>by simp [execOp,au]) (λ ρ bd=>by
  obtain ⟨⟨z0,hz,rfl⟩,n,e,m,h1,h2⟩:=ht
  unfold Instr.build
  exact ai.bind hz (ai.bind (ai.underlying h1) (ai.bind h2 (ai.pure _)))) hs h
def Ey(P:Program)(t _:Nat)(v:Value)(len l h:Int)(v':Value):Prop :=
 ∀ (ρ:Operand→Value) (st:St) (x:Operand) (lo hi:Option Operand),Knows st ρ→ρ x=v→Kp st lo=some l→Je st len.toNat hi=some h→ai P (Instr.sliceAt t (ρ x) (lo.map ρ) (hi.map ρ) none) v'
theorem cK.cut{α:Type}{K:cu α}{k t e:Nat}{xs ys:List α}{v:Value}{l h:Int}{H0:an}(hS:cK K k R H0 v xs)(ht:mR P t e k)(hc:nN xs l h=some ys):∃ v',cK K k R H0 v' ys∧Ey P t k v (xs.length:Int) l h v':=by
 obtain ⟨h1,h2,h3,rfl⟩:=IB hc
 obtain ⟨A,cap,es,rfl,hE,xR,hm⟩:=hS
 refine ⟨(.slice (if cap=l.toNat then A else A.map (·.add (l.toNat * k))) (h.toNat - l.toNat) (cap - l.toNat)),?_,?_⟩
 ·have Ak:((xs.take h.toNat).drop l.toNat).length=h.toNat - l.toNat:=by
   simp only [List.length_drop,List.length_take]
   omega
  refine ⟨(if cap=l.toNat then A else A.map (·.add (l.toNat * k))),cap - l.toNat,(es.take (h.toNat * k)).drop (l.toNat * k),by rw [Ak],hE.take.drop,by rw [Ak]; omega,λ dU=>?_⟩
  have bK:l.toNat < h.toNat:=by
   apply Classical.byContradiction
   intro hn
   apply dU
   apply List.eq_nil_of_length_eq_zero
   simp only [List.length_drop,List.length_take]
   omega
  obtain ⟨b,o',rfl,g2⟩:=hm (by rintro rfl; simp at h3; omega)
  refine ⟨b,o'+l.toNat * k,?_,λ j w hj=>?_⟩
  ·rw [if_neg (by omega)]; simp [sz]
  ·rw [List.getElem?_drop,List.getElem?_take] at hj
   split at hj
   ·have:=g2 _ _ hj
    simpa [Nat.add_assoc] using this
   ·cases hj
 ·intro ρ st x lo hi bd hx hl hh
  rw [Int.toNat_natCast] at hh
  rw [hx]
  unfold Instr.sliceAt
  refine ai.bind (ai.underlying ht.1) ?_
  unfold Instr.slice
  refine ai.bind (ai.underlying ht.1) (ai.bind (Pr bd hl hh ⟨h1,h2,h3⟩ xR) (ai.bind ht.2 (ai.pure _)))
theorem ae.cut{α:Type}{K:cu α}{k t e:Nat}{xs ys:List α}{v:Value}{l h:Int}(hS:ae K k R v xs)(ht:mR P t e k)(hc:nN xs l h=some ys):∃ v',ae K k R v' ys∧Ey P t k v (xs.length:Int) l h v':=by
 obtain ⟨h1,h2,h3,rfl⟩:=IB hc
 obtain ⟨A,cap,es,rfl,hE,xR,hm⟩:=hS
 refine ⟨(.slice (if cap=l.toNat then A else A.map (·.add (l.toNat * k))) (h.toNat - l.toNat) (cap - l.toNat)),?_,?_⟩
 ·have Ak:((xs.take h.toNat).drop l.toNat).length=h.toNat - l.toNat:=by
   simp only [List.length_drop,List.length_take]
   omega
  refine ⟨(if cap=l.toNat then A else A.map (·.add (l.toNat * k))),cap - l.toNat,(es.take (h.toNat * k)).drop (l.toNat * k),by rw [Ak],hE.take.drop,by rw [Ak]; omega,λ dU=>?_⟩
  have bK:l.toNat < h.toNat:=by
   apply Classical.byContradiction
   intro hn
   apply dU
   apply List.eq_nil_of_length_eq_zero
   simp only [List.length_drop,List.length_take]
   omega
  obtain ⟨b,o',arr,e',fz,rfl,g2,g3⟩:=hm (by rintro rfl; simp at h3; omega)
  refine ⟨b,o'+l.toNat * k,arr,e',fz,?_,g2,λ j w hj=>?_⟩
  ·rw [if_neg (by omega)]; simp [sz]
  ·rw [List.getElem?_drop,List.getElem?_take] at hj
   split at hj
   ·have:=g3 _ _ hj
    simpa [Nat.add_assoc] using this
   ·cases hj
 ·intro ρ st x lo hi bd hx hl hh
  rw [Int.toNat_natCast] at hh
  rw [hx]
  unfold Instr.sliceAt
  refine ai.bind (ai.underlying ht.1) ?_
  unfold Instr.slice
  refine ai.bind (ai.underlying ht.1) (ai.bind (Pr bd hl hh ⟨h1,h2,h3⟩ xR) (ai.bind ht.2 (ai.pure _)))
theorem Ox.IC{x:Operand}{t k:Nat}{lo hi:Option Operand}{v v':Value}{len l h:Int}(au:o.op = .slice t x lo hi none)(hx:bg st x=some v)(hl:Kp st lo=some l)(hh:Je st len.toNat hi=some h)(hc:Ey P t k v len l h v')(hd:bT o.dst c.n)
  (hs:aI (bU o.dst v' st) st') (hC:C R H st'):aW P B c o R H st C :=
 Ox.me (s:=λ ρ=>Instr.sliceAt t (ρ x) (lo.map ρ) (hi.map ρ) none) (by rw [au]; rfl) hd (λ ρ=>by simp only [execOp,au]; rfl) (λ ρ bd=>hc ρ st x lo hi bd (bd x _ hx) hl hh) hs hC
theorem bz.SR{α:Type}{K:cu α}{k t e:Nat}{v:Value}{xs:List α}{Hs:an}{i:Int}{x:α}(h:bz K k e R v xs Hs)(ht:mR P t e k)(hi:idx xs i=some x) :
  ∃ b cs es,K R x es∧Hs=[(b,.cells cs e (0,0))]∧aQ R Hs b (i.toNat * k) es∧(∀ (j:Nat) (w:Value),es[j]? = some w→cs[i.toNat * k+j]? = some w)∧zI P t v i b (i.toNat * k)∧es.length=k∧i.toNat * k+k≤cs.size ∧
   ∀ x' ug,K R x' ug→ug.length=k→bz K k e R v (xs.set i.toNat x') [(b,.cells (fU cs (i.toNat * k) ug) e (0,0))]:=by
 obtain ⟨h1,h2,h3⟩:=uR hi
 rcases h with ⟨A,rfl,rfl,rfl⟩ | ⟨b,cap,cs,es,rfl,rfl,g3,g4,g5,g6⟩
 ·simp at h3
 obtain ⟨e1,f1,f2,f3⟩:=g5.at_ _ _ h3
 have bK:i.toNat < xs.length:=(List.getElem?_eq_some_iff.1 h3).1
 have fN:i.toNat * k+k≤xs.length * k:=by
  calc i.toNat * k+k=(i.toNat+1) * k:=by rw [Nat.add_mul,Nat.one_mul]
   _≤xs.length * k:=Nat.mul_le_mul_right k bK
 have qE:xs.length * k≤cs.size:=by rw [g3]; exact Nat.mul_le_mul_right k g4
 refine ⟨b,cs,e1,f1,rfl,λ j w hj=>⟨rfl,cs,e,(0,0),.inr (by simp),g6 _ _ (f3 j w hj)⟩,λ j w hj=>g6 _ _ (f3 j w hj),λ kd=>?_,f2,by omega,λ x' ug vA hl'=>?_⟩
 ·have:=Yb (P:=P) (b:=b) (m:=0) (cap:=cap) (kd:=kd) ht (j:=i.toNat) (len:=xs.length) bK
  rw [Int.toNat_of_nonneg h1] at this
  simpa using this
 ·refine .inr ⟨b,cap,_,(es.take (i.toNat * k))++(ug++es.drop (i.toNat * k+k)),by rw [List.length_set],rfl,by rw [KY]; exact g3,by rw [List.length_set]; exact g4,?_,?_⟩
  ·have l8:=g5.len
   refine ⟨?_,λ j y hy=>?_⟩
   ·simp only [List.length_append,List.length_take,List.length_drop,List.length_set,hl',l8]
    omega
   ·rw [List.getElem?_set] at hy
    split at hy
    ·rename_i fZ
     subst fZ
     cases hy
     refine ⟨ug,vA,hl',λ a w hw=>?_⟩
     have ha:=(List.getElem?_eq_some_iff.1 hw).1
     rw [List.getElem?_append_right (by simp only [List.length_take]; omega)]
     simp only [List.length_take,l8]
     rw [show i.toNat * k+a - min (i.toNat * k) (xs.length * k)=a by omega,List.getElem?_append_left ha]
     exact hw
    ·rename_i fZ
     obtain ⟨e2,q1,q2,q3⟩:=g5.at_ _ _ hy
     refine ⟨e2,q1,q2,λ a w hw=>?_⟩
     have ha:=(List.getElem?_eq_some_iff.1 hw).1
     rw [q2] at ha
     have hold:=q3 a w hw
     rcases Nat.lt_or_ge j i.toNat with adg | uy
     ·have:j * k+k≤i.toNat * k:=by
       calc j * k+k=(j+1) * k:=by rw [Nat.add_mul,Nat.one_mul]
        _≤i.toNat * k:=Nat.mul_le_mul_right k adg
      rw [List.getElem?_append_left (by simp only [List.length_take,l8]; omega),List.getElem?_take,if_pos (by omega)]
      exact hold
     ·have:i.toNat * k+k≤j * k:=by
       calc i.toNat * k+k=(i.toNat+1) * k:=by rw [Nat.add_mul,Nat.one_mul]
        _≤j * k:=Nat.mul_le_mul_right k (by omega)
      rw [List.getElem?_append_right (by simp only [List.length_take]; omega),List.getElem?_append_right (by simp only [List.length_take,l8,hl']; omega),List.getElem?_drop]
      simp only [List.length_take,l8,hl']
      rw [show i.toNat * k+k+(j * k+a - min (i.toNat * k) (xs.length * k) - k)=j * k+a by omega]
      exact hold
  ·intro j w hj
   have l8:=g5.len
   rw [Dm ug cs (i.toNat * k) j (by rw [hl']; omega)]
   rw [List.getElem?_append] at hj
   simp only [List.length_take,l8] at hj
   split at hj
   ·rename_i adg
    rw [List.getElem?_take] at hj
    split at hj
    ·rw [if_neg (by omega)]
     exact g6 _ _ hj
    ·cases hj
   ·rw [List.getElem?_append] at hj
    split at hj
    ·rename_i h5 h6
     rw [if_pos (by omega),← hj]
     congr 1
     omega
    ·rename_i h5 h6
     rw [hl'] at h6
     rw [if_neg (by rw [hl']; omega)]
     rw [List.getElem?_drop,hl'] at hj
     have:=g6 _ _ hj
     rwa [show i.toNat * k+k+(j - min (i.toNat * k) (xs.length * k) - k)=j by omega] at this
theorem XE:∀ (vs ws:List Value) (cs:Array Value) (o:Nat),fU cs o (vs++ws)=fU (fU cs o vs) (o+vs.length) ws
 | [],ws,cs,o=>by simp [fU]
 | v::vs,ws,cs,o=>by
  simp only [List.cons_append,fU,List.length_cons]
  rw [XE vs ws]
  congr 1
  omega
theorem XF:∀ (vs:List Value) (cs:Array Value) (o:Nat),(∀ j w,vs[j]? = some w→cs[o+j]? = some w)→fU cs o vs=cs
 | [],cs,o,_=>rfl
 | v::vs,cs,o,h=>by
  have h0:cs[o]? = some v:=h 0 v rfl
  have bK:=(Array.getElem?_eq_some_iff.1 h0).1
  have e:cs.setIfInBounds o v=cs:=by
   apply Array.ext_getElem?
   intro j
   by_cases hj:o=j
   ·subst hj; rw [Array.getElem?_setIfInBounds_self_of_lt bK,h0]
   ·rw [Array.getElem?_setIfInBounds_ne hj]
  simp only [fU,e]
  exact XF vs cs (o+1) λ j w hj=>by
   have:=h (j+1) w (by simpa using hj)
   rwa [show o+(j+1)=o+1+j by omega] at this
theorem Ox.XV{α:Type}{K:cu α}{k e t b j n:Nat}{x y:Operand}{G:an→an}{v w:Value}{xs:List α}{i:Int}{x':α}{cs:Array Value}{pre mid post vs:List Value}(hG:lu G)
  (au:o.op = .store t x y) (hx:bg st x=some (.pointer (some ⟨b,i.toNat * k+j,none⟩))) (hy:bg st y=some w) (hw:w.cells.toList=vs) (ht:ai P (sizeOf t) n) (hn:vs.length=n) (h1:∀ u∈vs,u.oneCell'=true)
  (hc:∀ (j:Nat) (w:Value),(pre++(mid++post))[j]? = some w→cs[i.toNat * k+j]? = some w) (hj:pre.length=j) (hm:mid.length=n) (hk:(pre++(mid++post)).length=k) (fN:i.toNat * k+k≤cs.size)
  (hO:∀ x' ug,K R x' ug→ug.length=k→bz K k e R v (xs.set i.toNat x') [(b,.cells (fU cs (i.toNat * k) ug) e (0,0))]) (hK:K R x' (pre++(vs++post)))
  (hd:o.dst=none) (Jz:aI st st') (h:∀ dT,bz K k e R v (xs.set i.toNat x') dT→C R (G dT) st'):aW P B c o R (G [(b,.cells cs e (0,0))]) st C:=by
 have mX:fU cs (i.toNat * k+j) vs=fU cs (i.toNat * k) (pre++(vs++post)):=by
  rw [XE,XF pre cs _ (λ a u ha=>hc a u (by rw [List.getElem?_append_left (List.getElem?_eq_some_iff.1 ha).1]; exact ha)),XE,hj,hn]
  rw [XF post]
  intro a u ha
  have h2:=hc (j+n+a) u (by
   rw [List.getElem?_append_right (by omega),List.getElem?_append_right (by omega)]
   rw [show j+n+a - pre.length - mid.length=a by omega]
   exact ha)
  have bK:=(Array.getElem?_eq_some_iff.1 h2).1
  rw [Dm vs cs (i.toNat * k+j) _ (by rw [hn]; have:=hk; simp only [List.length_append] at this; omega),if_neg (by omega)]
  rwa [show i.toNat * k+(j+n+a)=i.toNat * k+j+n+a by omega] at h2
 have hlen:(pre++(vs++post)).length=k:=by
  simp only [List.length_append] at hk ⊢
  omega
 have Ni:=hO x' _ hK hlen
 rw [← mX] at Ni
 refine Ox.Oq (s:=λ ρ=>Instr.storeAt t (ρ x) (ρ y)) (by rw [au]; rfl) hd (λ ρ=>by simp only [execOp,au]) Jz (λ ρ bd=>?_)
 rw [bd x _ hx,bd y _ hy]
 simp only [Instr.storeAt,Instr.sureAddr]
 refine ai.eX (ai.pure _) ?_
 have avC:w.cells.size=n:=by rw [← hn,← hw]; simp
 refine aR.storeVar (cs:=cs) (e:=e) ht avC (by rw [hw]; exact h1) (by simp only [List.length_append] at hk; omega) ?_ (h _ Ni)
 rw [hw]
 exact hG.set
def EW{α:Type}(xs ys:List α):List α:=ys.take xs.length++xs.drop ys.length
end
end Go.Lg
namespace Go.Lg
open Go.Conc
section
variable {P:Program} {B:Base} {main:Bool} {af:Jd P B main} {c:Ctx} {R:az} {H:an} {st:St} {k:List Item}
theorem aR.getLoop{l:Nat}{r:Loop}{K:Loop→az→an→Prop}(h:(l,Obj.loop r)∈H)(hk:K r R H):aR P B R H (Instr.getLoop l) K:=by
 unfold Instr.getLoop
 exact aR.bind (aR.getObj rfl (.inr h) (aR.pure hk))
theorem fp.at_{b:Nat}{o o':Obj}{T:an}:∀ {Hs:an},fp (Hs++(b,o)::T) b o o' (Hs++(b,o')::T)
 | []=>.here
 | _::_=>.there fp.at_
def Ie(af:Jd P B main)(v:Value)(args:Array Value)(R:az)(H:an)(Post:Value→az→an→Prop):Prop :=
 ∃ l r,v = .func (.yield l) #[] #[]∧(l,Obj.loop r)∈H∧r.params.size=args.size ∧
  ∀ fr cs,(∀ w R' H',Post w R' H'→af.J R' H' (aX (fr.finish w) cs)) →
   af.J R H (aX (Frame.round l r.fn ((r.params.zip args).foldl (λ tmps (t,a)=>tmps.setIfInBounds t a) r.tmps) r.assign r.body .normal) (fr::cs))
theorem Ie.mono{v:Value}{args:Array Value}{Post H9:Value→az→an→Prop}(h:Ie af v args R H Post)(hp:∀ w R' H',Post w R' H'→H9 w R' H'):Ie af v args R H H9:=by
 obtain ⟨l,r,h1,h2,h3,h4⟩:=h
 exact ⟨l,r,h1,h2,h3,λ fr cs hk=>h4 fr cs λ w R' H' hw=>hk w R' H' (hp _ _ _ hw)⟩
theorem alY{fr:Frame}{cs:List Frame}{s:Sem Next}{w w':World}{l:Nat}{f:FuncId}{tmps:Array Value}{assign body:Code}(hk:fr.kind ≠ .early)(hr:s.run P w = .ok (.round l f tmps assign body) w') :
  stepG.apply P true fr cs none s w = .go (aX (Frame.round l f tmps assign body .normal) (fr::cs)) w' (seen P fr.fn (s.events P w #[])):=by
 have cR:(fr.kind == CallKind.early)=false:=by simpa using hk
 simp [stepG.apply,hr,aX,cR,GStep.after]
theorem U.afq{ops:Array Oper}{i:Nat}{rest:List Nat}{o:Oper}{ca:Call}{x:Operand}{v:Value}{vs:List Value}(ho:ops[i]? = some o)(hw:cE ops st o=some true)(hk:(c.kind == CallKind.early)=false)
  (au:o.op = .call ca) (hc:ca.callee = .value x) (hx:bg st x=some v) (ha:ji st ca.args.toList=some vs) (lT:bT o.dst c.n)
  (h:Ie af v vs.toArray R H λ w R' H'=>∃ st',aI (bU o.dst w st) st'∧U af c R' H' st' (.inRegion ops rest::k)) :
  U af c R H st (.inRegion ops (i::rest)::k):=by
 intro tmps ht
 obtain ⟨l,r,rfl,hl,fN,hj⟩:=h
 have iO:=ht.knows c (.inRegion ops (i::rest)::k)
 have hd:m5 o.op=false:=by rw [au]; rfl
 have hs:aR P B R H (execOp (aV c tmps (.inRegion ops (i::rest)::k)).eval o) λ nx R' H'=>nx = .round l r.fn ((r.params.zip vs.toArray).foldl (λ tmps (t,a)=>tmps.setIfInBounds t a) r.tmps) r.assign r.body∧R'=R∧H'=H:=by
  simp only [execOp,au,resolve,hc,iO x _ hx,Deferred.ofValue]
  have e:ca.args.map (aV c tmps (.inRegion ops (i::rest)::k)).eval=vs.toArray:=by apply Array.ext'; simpa using BK iO _ _ ha
  refine ai.eX (a:=⟨.fn (.yield l) #[],#[]++vs.toArray⟩) (by rw [e]; exact ai.pure _) ?_
  simp only [invoke,Instr.yield]
  refine aR.bind (aR.getLoop hl ?_)
  simp only [Array.empty_append,fN,ne_eq,not_true_eq_false,if_false]
  exact aR.pure ⟨rfl,rfl,rfl⟩
 refine af.step rfl λ w qH=>?_
 obtain ⟨nx,w',R',H',h1,h2,h3,rfl,rfl,rfl⟩:=hs w qH
 refine ⟨_,w',seen P c.fn ((execOp (aV c tmps (.inRegion ops (i::rest)::k)).eval o).events P w #[]),R',H',?_,λ e he=>h2 e (mem_seen he),h3,hj (aV c tmps (.inRegion ops (i::rest)::k)) c.cs λ u cx dW hp=>?_⟩
 ·rw [qc ho (kO ht hw) hd]
  exact alY (by simpa [aV] using hk) h1
 ·obtain ⟨st',hs',j0⟩:=hp
  rw [qz ho]
  exact j0 _ ((ht.put u lT).sub hs')
structure mq (af:Jd P B main) (R:az) {α S:Type} (A:nY α) (v:Value) (y:α→S→Option (S × Bool)) (Inv:S→az→an→Prop):Prop where
 fn:∃ l,v = .func (.yield l) #[] #[]
 mono:∀ {s:S} {R1 R2:az} {Hy:an},aT R R1→aT R1 R2→Inv s R1 Hy→Inv s R2 Hy
 call:∀ (Hf:an) {R':az} {Hy:an} {s:S} {x:α} {va:Value} {z:S × Bool},aT R R'→Inv s R' Hy→A R' x va→y x s=some z →
  Ie af v #[va] R' (Hf++Hy) λ w cx dW=>aT R' cx∧w = .bool z.2∧∃ zH,Inv z.1 cx zH∧dW=Hf++zH
theorem mq.up{R':az}{α S:Type}{A:nY α}{v:Value}{y:α→S→Option (S × Bool)}{Inv:S→az→an→Prop}(h:mq af R A v y Inv)(hR:aT R R'):mq af R' A v y Inv :=
 ⟨h.fn,λ h1 h2=>h.mono (hR.trans h1) h2,λ Hf=>λ h1=>h.call Hf (hR.trans h1)⟩
theorem mq.cells{α S:Type}{A:nY α}{v:Value}{y:α→S→Option (S × Bool)}{Inv:S→az→an→Prop}(h:mq af R A v y Inv):v.cells=#[v]:=by
 obtain ⟨l,rfl⟩:=h.fn; rfl
def gu{α S O:Type}(body:α→S→Option (S ⊕ O))(x:α):S ⊕ O→Option ((S ⊕ O) × Bool)
 | .inl s=>(body x s).map λ z=>(z,z.isLeft)
 | .inr _=>none
def Shape(I:az→an→an→Prop):Prop:=∀ R T H,I R T H→∃ Hs,H=Hs++T∧∀ R' T',aT R R'→I R' T' (Hs++T')
theorem aDq{l:Nat}{jump:Option Code}{r:Loop}{Hs T:an}:aR P B R (Hs++(l,.loop r)::T) (Instr.endRound l jump) λ v R' H'=>v = .bool jump.isNone∧R'=R∧H'=Hs++(l,.loop { r with state:=if jump.isNone then .ready else .done,pending:=jump })::T:=by
 unfold Instr.endRound
 exact aR.bind (aR.getLoop (by simp) (aR.bind (aR.setObj rfl rfl fp.at_ (aR.pure ⟨rfl,rfl,rfl⟩))))
theorem aDp{l:Nat}{r:Loop}{Hs T:an}(hb:(r.state == .busy)=false):aR P B R (Hs++(l,.loop r)::T) (Instr.endLoop l) λ v R' H'=>v=r.pending∧R'=R∧H'=Hs++(l,.loop { r with state:=.exhausted })::T:=by
 unfold Instr.endLoop
 refine aR.bind (aR.getLoop (r:=r) (by simp) ?_)
 simp only [hb]
 exact aR.bind (aR.setObj rfl rfl fp.at_ (aR.pure ⟨rfl,rfl,rfl⟩))
theorem aDo{l:Nat}{r:Loop}{H':an}(hs:fp H l (.loop r) (.loop { r with state:=.busy }) H')(hr:r.state = .ready):aR P B R H (do Instr.beginRound l; pure Next.skip) λ v cx dW=>v = .skip∧cx=R∧dW=H':=by
 unfold Instr.beginRound
 refine aR.bind (aR.bind (aR.getLoop hs.mem (aR.bind (aR.setObj rfl rfl hs ?_))))
 simp only [hr]
 exact aR.pure (aR.pure ⟨rfl,rfl,rfl⟩)
theorem U.beginRound{l:Nat}{r:Loop}{H':an}(kI:c.ro=some l)(hk:(c.kind == CallKind.early)=false)(hs:fp H l (.loop r) (.loop { r with state:=.busy }) H')(hr:r.state = .ready)(h:U af c R H' st k):U af c R H st (.beginRound::k):=λ tmps ht=>by
 refine af.step rfl λ w hw=>?_
 obtain ⟨v,w',R',dW,h1,h2,h3,rfl,rfl,rfl⟩:=aDo (P:=P) hs hr w hw
 refine ⟨aX (aV c tmps k) c.cs,w',seen P c.fn ((do Instr.beginRound l; pure Next.skip:Sem Next).events P w #[]),R',dW,?_,λ e he=>h2 e (mem_seen he),h3,h tmps ht⟩
 have e:=R9 (P:=P) (fr:=aV c tmps (.beginRound::k)) (cs:=c.cs) (by simpa [aV] using hk) h1
 simpa [stepG,stepG.exec,aX,aV,kI,Frame.finish] using e
def Leaves(todo:List Item)(jump:Option Code):Prop :=
 (todo=[]∧jump=none)∨(∃ k',todo = .code .ret::k'∧jump=some .ret)∨(∃ id k',todo = .code (.exit id)::k'∧exitTo id k'=none∧jump=some (.exit id))
theorem adO{l f:Nat}{n:Nat}{cs:List Frame}{fr:Frame}{tmps:Array Value}{todo:List Item}{jump:Option Code}{r:Loop}{Hs T:an}(hl:Leaves todo jump)
  (h:af.J R (Hs++(l,.loop { r with state:=if jump.isNone then .ready else .done,pending:=jump })::T) (aX (fr.finish (.bool jump.isNone)) cs)) :
  af.J R (Hs++(l,.loop r)::T) (aX (aV ⟨f,.normal,some l,n,[],fr::cs⟩ tmps todo) (fr::cs)):=by
 refine af.step rfl λ w hw=>?_
 obtain ⟨v,w',R',H',h1,h2,h3,rfl,rfl,rfl⟩:=aDq (P:=P) (jump:=jump) w hw
 refine ⟨aX (fr.finish (.bool jump.isNone)) cs,w',seen P f ((Instr.endRound l jump).events P w #[]),R',_,?_,λ e he=>h2 e (mem_seen he),h3,h⟩
 rcases hl with ⟨rfl,rfl⟩ | ⟨k',rfl,rfl⟩ | ⟨id,k',rfl,cR,rfl⟩
 ·simp at h1; simp [stepG,stepG.exec,aV,h1,doReturn,GStep.after,aX]
 ·simp at h1; simp [stepG,stepG.exec,aV,h1,doReturn,GStep.after,aX]
 ·simp at h1; simp [stepG,stepG.exec,aV,h1,cR,doReturn,GStep.after,aX]
def uU(fn:FuncId)(tmps:Array Value)(t:Tmp)(assign body:Code)(d:Nat):Loop:={ state:=.ready,pending:=none,fn,tmps,params:=#[t],assign,body,defers:=d }
theorem XD{p:Nat × Obj}{Hf Hs D:an}:List.Perm (Hs++p::(Hf++D)) (Hf++(Hs++p::D)):=by
 have h1:List.Perm (Hs++p::(Hf++D)) (p::(Hs++(Hf++D))):=List.perm_middle
 have h2:List.Perm (Hf++(Hs++p::D)) (p::(Hf++(Hs++D))):=by
  rw [← List.append_assoc,← List.append_assoc]
  exact List.perm_middle
 refine h1.trans (List.Perm.trans (List.Perm.cons _ ?_) h2.symm)
 rw [← List.append_assoc,← List.append_assoc]
 exact List.perm_append_comm.append_right D
section
variable {α S O:Type} {A:nY α} {body:α→S→Option (S ⊕ O)} {t:Tmp} {assign jT:Code}
 (I:S→az→an→an→Prop) (E:O→az→an→an→Prop) (jc:O→Code)
def RInv(R:az)(l:Nat)(r:Loop)(D:an):S ⊕ O→az→an→Prop
 | .inl s,R',Hy=>aT R R'∧I s R' ((l,.loop r)::D) Hy
 | .inr o,R',Hy=>aT R R'∧E o R' ((l,.loop { r with state:=.done,pending:=some (jc o) })::D) Hy
def aaB(af:Jd P B main)(c:Ctx)(R:az)(H:an)(st:St)(A:nY α)(body:α→S→Option (S ⊕ O))(t:Tmp)(assign jT:Code):Prop :=
 ∀ (va:Value) (x:α) (s:S) (z:S ⊕ O) (R':az) (T H':an) (l:Nat) (ld:Loop) (cs:List Frame),aT R R'→List.Sublist H T→A R' x va→I s R' ((l,.loop ld)::T) H'→ld.state = .ready→body x s=some z →
  (∀ s' cx dW oC,z = .inl s'→aT R' cx→I s' cx ((l,.loop { ld with state:=.busy })::T) dW→U af ⟨c.fn,.normal,some l,c.n,[],cs⟩ cx dW oC []) →
  (∀ o cx dW oC As,z = .inr o→aT R' cx→E o cx ((l,.loop { ld with state:=.busy })::T) dW→Leaves (.code (jc o)::As) (some (jc o))→U af ⟨c.fn,.normal,some l,c.n,[],cs⟩ cx dW oC (.code (jc o)::As)) →
  U af ⟨c.fn,.normal,some l,c.n,[],cs⟩ R' H' ((t,va)::st) [.code assign,.beginRound,.code jT]
variable {I E jc}
theorem aqB{D:an}{l:Nat}{d:Nat}{tmps:Array Value}(uk:∀ s,Shape (I s))(BZ:∀ o,Shape (E o))(ht:cM c.n st tmps)(hd:Nat.blt t c.n=true)(hH:List.Sublist H D)
  (hb:aaB I E jc af c R H st A body t assign jT) :
  mq af R A (.func (.yield l) #[] #[]) (gu body) (RInv I E jc R l (uU c.fn tmps t assign jT d) D) where
 fn:=⟨l,rfl⟩
 mono:=by
  intro s R1 R2 Hy h1 h2 hI
  cases s with
  | inl s =>
   obtain ⟨hr,hI⟩:=hI
   obtain ⟨Hs,rfl,h⟩:=uk s _ _ _ hI
   exact ⟨hr.trans h2,h _ _ h2⟩
  | inr o =>
   obtain ⟨hr,hI⟩:=hI
   obtain ⟨Hs,rfl,h⟩:=BZ o _ _ _ hI
   exact ⟨hr.trans h2,h _ _ h2⟩
 call:=by
  intro Hf R' Hy s x va z hR hI hA hy
  cases s with
  | inr o=>cases hy
  | inl s =>
   simp only [gu,Option.map_eq_some_iff] at hy
   obtain ⟨z',hz,rfl⟩:=hy
   obtain ⟨hr,hI⟩:=hI
   obtain ⟨Hs,rfl,bf⟩:=uk s _ _ _ hI
   refine ⟨l,uU c.fn tmps t assign jT d,rfl,by simp,rfl,λ fr cs hk=>?_⟩
   refine J.perm (H':=Hs++(l,.loop (uU c.fn tmps t assign jT d))::(Hf++D)) XD ?_
   have UK:cM c.n ((t,va)::st) (((uU c.fn tmps t assign jT d).params.zip #[va]).foldl (λ tmps (t,a)=>tmps.setIfInBounds t a) (uU c.fn tmps t assign jT d).tmps):=by
    have:=ht.put (dst:=some t) va hd
    simpa [uU,bU,fG] using this
   refine hb va x s z' R' (Hf++D) _ l (uU c.fn tmps t assign jT d) (fr::cs) hR (hH.trans (List.sublist_append_right _ _)) hA (bf R' _ (aT.refl _)) rfl hz (λ s' cx dW oC WE sH ap7=>?_) (λ o cx dW oC As WE sH ap6 hl=>?_) _ UK
   ·subst WE
    obtain ⟨dT,rfl,Cj⟩:=uk s' _ _ _ ap7
    intro aZ _
    refine adO (jump:=none) (.inl ⟨rfl,rfl⟩) ?_
    refine J.perm XD.symm ?_
    exact hk _ _ _ ⟨sH,rfl,_,⟨hR.trans sH,Cj cx _ (aT.refl _)⟩,rfl⟩
   ·subst WE
    obtain ⟨dT,rfl,Cj⟩:=BZ o _ _ _ ap6
    intro aZ _
    refine adO (jump:=some (jc o)) hl ?_
    refine J.perm XD.symm ?_
    exact hk _ _ _ ⟨sH,rfl,_,⟨hR.trans sH,Cj cx _ (aT.refl _)⟩,rfl⟩
theorem aDr{fn:FuncId}{tmps:Array Value}{ps:Array Tmp}{assign jT:Code}:aR P B R H (Instr.enterLoop fn tmps ps assign jT none) λ q R' H'=>R'=R∧∃ r,q.2=[⟨.collected r,#[]⟩]∧H'=(q.1,.loop ⟨.ready,none,fn,tmps,ps,assign,jT,r⟩)::(r,.deferred (some []))::H:=by
 unfold Instr.enterLoop
 refine aR.bind (aR.new λ r _ _=>aR.bind (aR.pure ?_))
 refine aR.bind (aR.new λ l _ _=>aR.pure ?_)
 exact ⟨rfl,r,rfl,rfl⟩
theorem U.aog{x:Operand}{ij:FuncId}{first cap:Array Value}(hx:bg st x=some (.func (.func ij) first cap))(he:bj P ij)(hk:(c.kind == CallKind.early)=false){K:Nat × List Deferred→az→an→Prop}
  (Nr:∀ tmps,aR P B R H (Instr.enterLoop c.fn tmps #[t] assign jT c.ro) λ q R' H'=>R'=R∧∃ d Hm,H'=(q.1,.loop (uU c.fn tmps t assign jT d))::Hm∧K q R Hm)
  (h:∀ l mark d Hm tmps,cM c.n st tmps→K (l,mark) R Hm→af.J R ((l,.loop (uU c.fn tmps t assign jT d))::Hm) (aX (Frame.enter P ij (first++#[.func (.yield l) #[] #[]]++cap) .normal) (aV ⟨c.fn,c.kind,c.ro,c.n,mark++c.defers,c.cs⟩ tmps (.inRangeFunc l::k)::c.cs))) :
  U af c R H st (.code (.rangeFunc x #[t] assign jT)::k):=by
 intro tmps ht
 refine af.step rfl λ w hw=>?_
 obtain ⟨⟨l,mark⟩,w',R',H',h1,h2,h3,rfl,d,Hm,rfl,hK⟩:=Nr tmps w hw
 have iO:=ht.knows ⟨c.fn,c.kind,c.ro,c.n,mark++c.defers,c.cs⟩ (.inRangeFunc l::k)
 have hv:ai P (do let d ← resolve (aV ⟨c.fn,c.kind,c.ro,c.n,mark++c.defers,c.cs⟩ tmps (.inRangeFunc l::k)).eval { callee:=.value x,args:=#[.const (.func (.yield l) #[] #[])],argTypes:=#[] } 0; invoke d.target d.args) (.enter ij (first++#[.func (.yield l) #[] #[]]++cap)):=by
  obtain ⟨fn,e1,e2,e3⟩:=he.ex
  simp only [resolve,iO x _ hx,Deferred.ofValue]
  refine ai.bind (a:=⟨.fn (.func ij) cap,first++#[.func (.yield l) #[] #[]]⟩) (by simpa [Frame.eval] using ai.pure _) ?_
  simp only [invoke]
  exact DC e1 e2 e3
 have hj:=h l mark d Hm tmps ht hK
 refine ⟨_,w',seen P c.fn ((Instr.enterLoop c.fn tmps #[t] assign jT c.ro).events P w #[]),R',_,?_,λ e Ja=>h2 e (mem_seen Ja),h3,hj⟩
 have J0:=hv w'
 simp only [aV] at J0
 have cR:(c.kind == CallKind.early)=false:=hk
 simp [stepG,stepG.exec,stepG.apply,aX,aV,h1,J0.1,J0.2,GStep.after,cR,seen]
theorem U.ab2{l:Nat}{r:Loop}{Hs T:an}{pend:Option Code}(hb:(r.state == .busy)=false)(hp:r.pending=pend)(h:U af c R (Hs++T) st ((pend.map Item.code).toList++k)):U af c R (Hs++(l,.loop r)::T) st (.endRangeFunc l::k):=λ tmps ht=>by
 subst hp
 refine af.step rfl λ w hw=>?_
 obtain ⟨v,w',R',H',h1,h2,h3,rfl,rfl,rfl⟩:=aDp (P:=P) hb w hw
 refine ⟨aX (aV c tmps ((r.pending.map Item.code).toList++k)) c.cs,w',seen P c.fn ((Instr.endLoop l).events P w #[]),R',_,?_,λ e he=>h2 e (mem_seen he),h3,J.drop ?_ (h tmps ht)⟩
 ·simp [stepG,stepG.exec,aX,aV,h1,GStep.after]
 ·exact (List.sublist_cons_self _ _).append_left _
theorem apJ{tmps:Array Value}{l:Nat}{w:Value}:(aV c tmps (.inRangeFunc l::k)).finish w=aV c tmps (.endRangeFunc l::k):=rfl
theorem U.ae4{ρ:Type}{sV:(α→(S ⊕ O)→Option ((S ⊕ O) × Bool))→(S ⊕ O)→Option (S ⊕ O)}{cont:S ⊕ O→Option ρ}{s0:S}{rr:ρ}{x:Operand}{ij:FuncId}{first cap:Array Value}{H1:an}
  (hM:(sV (gu body) (.inl s0)).bind cont=some rr) (hx:bg st x=some (.func (.func ij) first cap)) (he:bj P ij) (hk:(c.kind == CallKind.early)=false) (kI:c.ro=none) (hd:Nat.blt t c.n=true)
  (I:S→az→an→an→Prop) (E:O→az→an→an→Prop) (jc:O→Code) (uk:∀ s,Shape (I s)) (BZ:∀ o,Shape (E o))
  (Ju:∀ v Inv Hy z,mq af R A v (gu body) Inv→Inv (.inl s0) R Hy→sV (gu body) (.inl s0)=some z→aC af ij (first++#[v]++cap) R Hy λ _ R' H'=>aT R R'∧Inv z R' H')
  (h0:I s0 R H H1)
  (ha:∀ r s R' H',aT R R'→I s R' ((r,.deferred (some []))::H) H'→cont (.inl s)=some rr→U af ⟨c.fn,c.kind,none,c.n,⟨.collected r,#[]⟩::c.defers,c.cs⟩ R' H' st k)
  (hz:∀ r o R' H',aT R R'→E o R' ((r,.deferred (some []))::H) H'→cont (.inr o)=some rr→U af ⟨c.fn,c.kind,none,c.n,⟨.collected r,#[]⟩::c.defers,c.cs⟩ R' H' st (.code (jc o)::k))
  (hb:aaB I E jc af c R H st A body t assign jT) :
  U af c R H1 st (.code (.rangeFunc x #[t] assign jT)::k):=by
 obtain ⟨z,hm,hc⟩:=aj hM
 refine U.aog hx he hk (K:=λ q R' Hm=>∃ r,q.2=[⟨.collected r,#[]⟩]∧Hm=(r,.deferred (some []))::H1) (λ tmps=>?_) ?_
 ·rw [kI]
  exact aDr.mono λ q R' H' ⟨h1,r,h2,h3⟩=>⟨h1,r,_,h3,r,h2,rfl⟩
 rintro l mark d Hm tmps ht ⟨r,Up,rfl⟩
 have Up:mark=[⟨.collected r,#[]⟩]:=Up
 subst Up
 obtain ⟨Hs,rfl,bf⟩:=uk s0 _ _ _ h0
 have arZ:mq af R A (.func (.yield l) #[] #[]) (gu body) (RInv I E jc R l (uU c.fn tmps t assign jT d) ((r,.deferred (some []))::H)):=aqB uk BZ ht hd (List.sublist_cons_self _ _) hb
 refine J.perm (H':=Hs++(l,.loop (uU c.fn tmps t assign jT d))::(r,.deferred (some []))::H) ?_ ?_
 ·exact List.perm_middle.trans (List.Perm.cons _ List.perm_middle)
 refine Ju _ _ _ z arZ ⟨aT.refl R,bf R _ (aT.refl R)⟩ hm _ _ λ v R' H' hv=>?_
 rw [apJ]
 obtain ⟨hR,hI⟩:=hv
 cases z with
 | inl s =>
  obtain ⟨_,hI⟩:=hI
  obtain ⟨dT,rfl,Cj⟩:=uk s _ _ _ hI
  rw [kI]
  exact U.ab2 (c:=⟨c.fn,c.kind,none,c.n,⟨.collected r,#[]⟩::c.defers,c.cs⟩) rfl rfl (ha r s R' _ hR (Cj R' _ (aT.refl R')) hc) tmps ht
 | inr o =>
  obtain ⟨_,hI⟩:=hI
  obtain ⟨dT,rfl,Cj⟩:=BZ o _ _ _ hI
  rw [kI]
  exact U.ab2 (c:=⟨c.fn,c.kind,none,c.n,⟨.collected r,#[]⟩::c.defers,c.cs⟩) rfl rfl (hz r o R' _ hR (Cj R' _ (aT.refl R')) hc) tmps ht
theorem U.XG{ρ:Type}{body:α→S→Option (S ⊕ Empty)}(sV:(α→(S ⊕ Empty)→Option ((S ⊕ Empty) × Bool))→(S ⊕ Empty)→Option (S ⊕ Empty)){f:S→Option ρ}{g:Empty→Option ρ}{s0:S}{rr:ρ}{x:Operand}{ij:FuncId}{first cap:Array Value}{H1:an}
  (hM:(sV (gu body) (.inl s0)).bind (Sum.elim f g)=some rr) (hx:bg st x=some (.func (.func ij) first cap)) (he:bj P ij) (hk:(c.kind == CallKind.early)=false) (kI:c.ro=none) (hd:Nat.blt t c.n=true)
  (I:S→az→an→an→Prop) (uk:∀ s,Shape (I s))
  (Ju:∀ v Inv Hy z,mq af R A v (gu body) Inv→Inv (.inl s0) R Hy→sV (gu body) (.inl s0)=some z→aC af ij (first++#[v]++cap) R Hy λ _ R' H'=>aT R R'∧Inv z R' H')
  (h0:I s0 R H H1)
  (ha:∀ r s R' H',aT R R'→I s R' ((r,.deferred (some []))::H) H'→f s=some rr→U af ⟨c.fn,c.kind,none,c.n,⟨.collected r,#[]⟩::c.defers,c.cs⟩ R' H' st k)
  (hb:∀ (va:Value) (x:α) (s:S) (R':az) (T H':an) (l:Nat) (ld:Loop) (cs:List Frame),aT R R'→List.Sublist H T→A R' x va→I s R' ((l,.loop ld)::T) H'→ld.state = .ready→∀ z,body x s=some z →
   (∀ s',z = .inl s'→∀ cx dW oC,aT R' cx→I s' cx ((l,.loop { ld with state:=.busy })::T) dW→U af ⟨c.fn,.normal,some l,c.n,[],cs⟩ cx dW oC []) →
   U af ⟨c.fn,.normal,some l,c.n,[],cs⟩ R' H' ((t,va)::st) [.code assign,.beginRound,.code jT]) :
  U af c R H1 st (.code (.rangeFunc x #[t] assign jT)::k) :=
 U.ae4 (sV:=sV) hM hx he hk kI hd I (λ o=>o.elim) (λ o=>o.elim) uk (λ o=>o.elim) Ju h0 ha (λ _ o=>o.elim)
  (λ va x s z R' T H' l ld cs h1 h2 h3 h4 h5 h6 h7 _=>hb va x s R' T H' l ld cs h1 h2 h3 h4 h5 z h6 λ s' hz cx dW oC=>h7 s' cx dW oC hz)
theorem U.XH{ρ:Type}(sV:(α→(S ⊕ O)→Option ((S ⊕ O) × Bool))→(S ⊕ O)→Option (S ⊕ O)){f:S→Option ρ}{g:O→Option ρ}{s0:S}{rr:ρ}{x:Operand}{ij:FuncId}{first cap:Array Value}{H1:an}(jc:Code)
  (hM:(sV (gu body) (.inl s0)).bind (Sum.elim f g)=some rr) (hx:bg st x=some (.func (.func ij) first cap)) (he:bj P ij) (hk:(c.kind == CallKind.early)=false) (kI:c.ro=none) (hd:Nat.blt t c.n=true)
  (I:S→az→an→an→Prop) (E:O→az→an→an→Prop) (uk:∀ s,Shape (I s)) (BZ:∀ s,Shape (E s))
  (Ju:∀ v Inv Hy z,mq af R A v (gu body) Inv→Inv (.inl s0) R Hy→sV (gu body) (.inl s0)=some z→aC af ij (first++#[v]++cap) R Hy λ _ R' H'=>aT R R'∧Inv z R' H')
  (h0:I s0 R H H1)
  (ha:∀ r s R' H',aT R R'→I s R' ((r,.deferred (some []))::H) H'→f s=some rr→U af ⟨c.fn,c.kind,none,c.n,⟨.collected r,#[]⟩::c.defers,c.cs⟩ R' H' st k)
  (hz:∀ r o R' H',aT R R'→E o R' ((r,.deferred (some []))::H) H'→g o=some rr→U af ⟨c.fn,c.kind,none,c.n,⟨.collected r,#[]⟩::c.defers,c.cs⟩ R' H' st (.code jc::k))
  (hb:∀ (va:Value) (x:α) (s:S) (R':az) (T H':an) (l:Nat) (ld:Loop) (cs:List Frame),aT R R'→List.Sublist H T→A R' x va→I s R' ((l,.loop ld)::T) H'→ld.state = .ready→∀ z,body x s=some z →
   (∀ s',z = .inl s'→∀ cx dW oC,aT R' cx→I s' cx ((l,.loop { ld with state:=.busy })::T) dW→U af ⟨c.fn,.normal,some l,c.n,[],cs⟩ cx dW oC []) →
   (∀ o,z = .inr o→∀ cx dW oC As,aT R' cx→E o cx ((l,.loop { ld with state:=.busy })::T) dW→Leaves (.code jc::As) (some jc)→U af ⟨c.fn,.normal,some l,c.n,[],cs⟩ cx dW oC (.code jc::As)) →
   U af ⟨c.fn,.normal,some l,c.n,[],cs⟩ R' H' ((t,va)::st) [.code assign,.beginRound,.code jT]) :
  U af c R H1 st (.code (.rangeFunc x #[t] assign jT)::k) :=
 U.ae4 (sV:=sV) hM hx he hk kI hd I E (λ _=>jc) uk BZ Ju h0 ha hz
  (λ va x s z R' T H' l ld cs h1 h2 h3 h4 h5 h6 h7 h8=>hb va x s R' T H' l ld cs h1 h2 h3 h4 h5 z h6 (λ s' hz cx dW oC=>h7 s' cx dW oC hz) (λ o hz cx dW oC As=>h8 o cx dW oC As hz))
theorem aDt{r:Nat}{H':an}(hs:fp H r (.deferred (some [])) (.deferred none) H'):aR P B R H (Instr.takeDeferred r) λ v cx dW=>v=[]∧cx=R∧dW=H':=by
 unfold Instr.takeDeferred
 exact aR.bind (aR.getObj rfl (.inr hs.mem) (aR.bind (aR.setObj rfl rfl hs (aR.pure ⟨rfl,rfl,rfl⟩))))
theorem aC1{fr:Frame}{cs:List Frame}{f:FuncId}{n r:Nat}{H':an}{tmps:Array Value}{todo:List Item}(hs:fp H r (.deferred (some [])) (.deferred none) H')
  (h:af.J R H' (aX { (aV ⟨f,.normal,none,n,[],fr::cs⟩ tmps todo) with mode:=.returning } (fr::cs))) :
  af.J R H (aX { (aV ⟨f,.normal,none,n,[⟨.collected r,#[]⟩],fr::cs⟩ tmps todo) with mode:=.returning } (fr::cs)):=by
 refine af.step rfl λ w hw=>?_
 obtain ⟨v,w',R',H',h1,h2,h3,rfl,rfl,rfl⟩:=aDt (P:=P) hs w hw
 refine ⟨_,w',seen P f ((Instr.takeDeferred r).events P w #[]),R',_,?_,λ e he=>h2 e (mem_seen he),h3,h⟩
 simp [stepG,unwind,aX,aV,h1,GStep.after]
theorem aC0{fr:Frame}{cs:List Frame}{f:FuncId}{n:Nat}{fn:Func}{vs:List Value}{tmps:Array Value}{todo:List Item}(hf:P.funcs[f]? = some fn)(ht:cM n st tmps)(hr:pJ P R H st fn.results.toList vs)(hj:af.J R H (aX (fr.finish (iE vs)) cs)) :
  af.J R H (aX { (aV ⟨f,.normal,none,n,[],fr::cs⟩ tmps todo) with mode:=.returning } (fr::cs)):=by
 refine af.step rfl λ w hw=>?_
 obtain ⟨v,w',R',H',h1,h2,h3,rfl,rfl,rfl⟩:=O2 (P:=P) ht hr w hw
 refine ⟨aX (fr.finish (iE vs)) cs,w',seen P f ((results fn tmps).events P w #[]),R',H',?_,λ e he=>h2 e (mem_seen he),h3,hj⟩
 simp [stepG,unwind,doReturn,aX,aV,hf,h1,GStep.after]
theorem U.yG{fr:Frame}{cs:List Frame}{f:FuncId}{n r:Nat}{H':an}{fn:Func}{vs:List Value}(hs:fp H r (.deferred (some [])) (.deferred none) H')(hf:P.funcs[f]? = some fn)(hr:pJ P R H' st fn.results.toList vs)(hj:af.J R H' (aX (fr.finish (iE vs)) cs)) :
  U af ⟨f,.normal,none,n,[⟨.collected r,#[]⟩],fr::cs⟩ R H st (.code .ret::k):=λ tmps ht=>by
 refine Jd.ctl (g':=aX { (aV ⟨f,.normal,none,n,[⟨.collected r,#[]⟩],fr::cs⟩ tmps (.code .ret::k)) with mode:=.returning } (fr::cs)) rfl (λ w=>by simp [stepG,stepG.exec,aX,aV]) ?_
 exact aC1 hs (aC0 hf ht hr hj)
end
theorem aC.hole{f:FuncId}{args:Array Value}{G:an→an}{Hs:an}(hG:lu G){Q:Value→az→an→Prop}(h:aC af f args R (Hs++G []) λ v R' H'=>∃ dT,Q v R' dT∧H'=dT++G []) :
  aC af f args R (G Hs) λ v R' H'=>∃ dT,Q v R' dT∧H'=G dT:=by
 obtain ⟨A,D,hG⟩:=hG
 have key:∀ X:an,List.Perm (X++G []) (G X):=λ X=>by
  rw [hG,hG,List.nil_append,← List.append_assoc,← List.append_assoc]
  exact List.perm_append_comm.append_right D
 intro fr cs hk
 refine J.perm (key Hs) (h fr cs λ v R' H' hv=>?_)
 obtain ⟨dT,hq,rfl⟩:=hv
 exact J.perm (key dT).symm (hk v R' _ ⟨dT,hq,rfl⟩)
theorem Ox.vX{x y:Operand}{t u e:TypeId}{o:Oper}{C:az→an→St→Prop}{A:Option Addr}{n cap:Nat}{b:Bool}{st':St}(au:o.op = .binOp .eql t x y u)(hx:bg st x=some (.slice A n cap))(hy:bg st y=some (.slice none 0 0))(ht:P.underlying t=some (.slice e))(hb:A.isNone=b)
  (hd:bT o.dst c.n) (hs:aI (bU o.dst (.bool b) st) st') (h:C R H st'):aW P B c o R H st C :=
 Ox.me (s:=λ ρ=>do eqGuard .eql t x y (ρ x) (ρ y); binOp .eql t (ρ x) (ρ y)) (by rw [au]; rfl) hd (λ ρ=>by simp only [execOp,au]) (λ ρ bd=>by
  rw [bd x _ hx,bd y _ hy]
  refine ai.bind (a:=()) (ai.pure _) ?_
  simp only [binOp]
  refine ai.bind (a:=b) ?_ (ai.pure _)
  unfold Op.equal Op.maxDepth Op.equalIn
  refine ai.bind (ai.underlying ht) ?_
  cases A with
  | none=>subst hb; exact ai.pure _
  | some a=>subst hb; exact ai.pure _) hs h
theorem cK.KQ{α:Type}{K:cu α}{k:Nat}{v:Value}{xs:List α}(h:cK K k R H v xs):(∃ cap,v = .slice none 0 cap∧xs=[])∨∃ a n cap,v = .slice (some a) n cap:=by
 obtain ⟨A,cap,es,rfl,h2,h3,h4⟩:=h
 cases A with
 | some a=>exact .inr ⟨a,_,cap,rfl⟩
 | none =>
  cases xs with
  | nil=>exact .inl ⟨cap,rfl,rfl⟩
  | cons x xs =>
   obtain ⟨b,o,g,_⟩:=h4 (by simp)
   cases g
theorem Ox.CG{x y:Operand}{t e len:Nat}{cs:Array Value}{v:Value}{kd:IntKind}{i:Int}{o:Oper}{C:az→an→St→Prop}{st':St}(au:o.op = .index t x y)(hx:bg st x=some (.agg cs))(hy:bg st y=some (.int kd i))(ht:vN P t len e 1)(he:ai P (isAgg e) false)(hi:0≤i∧i < len)(hv:cs[i.toNat * 1]? = some v)
  (hd:bT o.dst c.n) (hs:aI (bU o.dst v st) st') (h:C R H st'):aW P B c o R H st C :=
 Ox.me (s:=λ ρ=>Instr.index t (ρ x) (ρ y)) (by rw [au]; rfl) hd (λ ρ=>by simp only [execOp,au]) (λ ρ bd=>by
  rw [bd x _ hx,bd y _ hy]
  unfold Instr.index
  refine ai.bind (a:=(kd,i)) (ai.pure _) (ai.bind (ai.underlying ht.1) ?_)
  simp only [hi,and_self,if_true]
  refine ai.bind ht.2 ?_
  unfold part
  refine ai.bind he ?_
  simp only [hv]
  exact ai.pure _) hs h
theorem U.qA{todo:List Item}{b:Nat}{cs:Array Value}{e:TypeId}{fz:Nat × Nat}(G:an→an)(hG:lu G){H2:an}(h2:G []=H2)(h:∀ R',aT R R'→aQ R' [] b 0 cs.toList→U af c R' H2 st todo):U af c R (G [(b,.cells cs e fz)]) st todo:=by
 obtain ⟨A,D,hG⟩:=hG
 refine U.perm (H':=(b,.cells cs e fz)::(A++D)) ?_ (U.freeze λ R' hR hb=>?_)
 ·rw [hG]; exact List.perm_middle.symm
 ·have e2:A++D=H2:=by rw [← h2,hG]; rfl
  rw [e2]
  exact h R' hR (aQ.known (n:=cs.toList.length) hb (by rw [List.drop_zero,List.take_length]))
def BG(af:Jd P B main)(R:az){α S:Type}(A:nY α)(v:Value)(q:(α→S→Option (S × Bool))→S→Option S):Prop :=
 ∃ ij first cap,v = .func (.func ij) first cap∧bj P ij∧∀ R',aT R R'→∀ (w:Value) (y:α→S→Option (S × Bool)) (Inv:S→az→an→Prop) (Hy:an) (s z:S),mq af R' A w y Inv→Inv s R' Hy→q y s=some z →
  aC af ij (first++#[w]++cap) R' Hy λ _ cx H'=>aT R' cx∧Inv z cx H'
theorem BG.mono{R':az}{α S:Type}{A:nY α}{v:Value}{q:(α→S→Option (S × Bool))→S→Option S}(h:BG af R A v q)(hR:aT R R'):BG af R' A v q:=by
 obtain ⟨ij,first,cap,h1,h2,h3⟩:=h
 exact ⟨ij,first,cap,h1,h2,λ cx IP=>h3 cx (hR.trans IP)⟩
theorem mq.frame{α S:Type}{A:nY α}{v:Value}{y:α→S→Option (S × Bool)}{Inv:S→az→an→Prop}(h:mq af R A v y Inv)(Hf:an):mq af R A v y λ s R' H'=>∃ Hy,Inv s R' Hy∧H'=Hf++Hy where
 fn:=h.fn
 mono:=λ h1 h2 ⟨Hy,hi,e⟩=>⟨Hy,h.mono h1 h2 hi,e⟩
 call:=by
  intro H2 R' Hy s x va z hR hI hA hy
  obtain ⟨Hy,hI,rfl⟩:=hI
  have:=h.call (H2++Hf) hR hI hA hy
  rw [List.append_assoc] at this
  refine this.mono λ w cx dW ⟨h1,h2,zH,h3,h4⟩=>⟨h1,h2,Hf++zH,⟨zH,h3,rfl⟩,by rw [h4,List.append_assoc]⟩
def many(a:an):List (Nat × an)→Nat→an
 | [],_=>a
 | (q,l)::r,j=>if j=q then l else many a r j
section
variable {a N:an} {ex:List (Nat × an)} {rem D:List Nat} {i q:Nat} {l H':an}
theorem fT(ha:∀ p∈N,p∈a):∀ j∈rem,j≠i→j ∉ D→∀ p∈N,p∈many a [] j:=λ _ _ _ _ p hp=>ha p hp
theorem dk(hd:(D.contains q || q == i || !rem.contains q)=true)(h:∀ j∈rem,j≠i→j ∉ D→∀ p∈N,p∈many a ex j):∀ j∈rem,j≠i→j ∉ D→∀ p∈N,p∈many a ((q,l)::ex) j:=by
 intro j hj fZ rz p hp
 unfold many
 split
 ·subst_vars
  simp only [Bool.or_eq_true,Bool.not_eq_true',List.contains_iff_mem,beq_iff_eq] at hd
  rcases hd with (x | x) | x
  ·exact absurd x rz
  ·exact absurd x fZ
  ·have:rem.contains j=true:=List.contains_iff_mem.2 hj
   rw [this] at x; cases x
 ·exact h j hj fZ rz p hp
theorem ael(hl:∀ p∈N,p∈l)(h:∀ j∈rem,j≠i→j ∉ D→∀ p∈N,p∈many a ex j):∀ j∈rem,j≠i→j ∉ D→∀ p∈N,p∈many a ((q,l)::ex) j:=by
 intro j hj fZ rz p hp
 unfold many
 split
 ·exact hl p hp
 ·exact h j hj fZ rz p hp
theorem fy(he:many a ex i=l)(h:∀ p∈l,p∈H'):∀ p∈many a ex i,p∈H→p∈H':=by
 rw [he]; exact λ p hp _=>h p hp
end
end
end Go.Lg
namespace Go.Lg
open Go.Conc
def fS(p:Int):Value:=.int .i64 p
theorem NZ{p p':Int}(h:fS p=fS p'):p=p':=by
 simpa [fS] using h
def pv(m:Int→Int)(p z:Int):Int→Int:=λ a=>if a=p then z else m a
structure zF (es:List MapEntry) (m:Int→Int) (clock:Nat):Prop where
 MU:∀ e∈es,∃ p,e.key=fS p∧e.val = .int .i64 (m p)
 zero:∀ p,(∀ e∈es,e.key≠fS p)→m p=0
 keys:∀ (i j:Nat) (a b:MapEntry),es[i]? = some a→es[j]? = some b→a.key=b.key→i=j
 old:∀ e∈es,e.born < clock
 abj:∀ (i j:Nat) (a b:MapEntry),es[i]? = some a→es[j]? = some b→a.born=b.born→i=j
def BB(v:Value)(m:Int→Int)(Hs:an):Prop:=∃ b es clock,v = .map (some b)∧Hs=[(b,.map es clock)]∧zF es.toList m clock
structure Mi (P:Program) (t kt et:TypeId):Prop where
 ty:P.underlying t=some (.map kt et)
 key:P.underlying kt=some (.int .i64)
 lR:∀ (e:Bool) (a:Int),ai P (Instr.checkKey e 10000 kt (fS a)) ()
 zero:ai P (zeroValue et) (.int .i64 0)
section
variable {P:Program} {B:Base} {main:Bool} {af:Jd P B main} {c:Ctx} {R:az} {H:an} {st st':St} {o:Oper} {C:az→an→St→Prop}
def ake(es:List MapEntry)(p:Int)(r:Option (Nat × Value)):Prop :=
 (r=none∧∀ e∈es,e.key≠fS p)∨∃ (i:Nat) (e:MapEntry),es[i]? = some e∧e.key=fS p∧r=some (i,e.val)
theorem acO(p:Int):∀ (es:List MapEntry) (i:Nat),(∀ e∈es,∃ p,e.key=fS p)→∃ r,Instr.findNow (.int .i64) (fS p) es i=some r∧((r=none∧∀ e∈es,e.key≠fS p)∨∃ (j:Nat) (e:MapEntry),es[j]? = some e∧e.key=fS p∧r=some (i+j,e.val))
 | [],i,h=>⟨none,rfl,.inl ⟨rfl,λ e he=>(by cases he)⟩⟩
 | e::es,i,h=>by
  obtain ⟨p',hk⟩:=h e (by simp)
  by_cases heq:p=p'
  ·subst heq
   refine ⟨some (i,e.val),?_,.inr ⟨0,e,rfl,hk,rfl⟩⟩
   unfold Instr.findNow
   rw [hk]
   simp [fS,Instr.sameNow]
  ·obtain ⟨r,hr,hc⟩:=acO p es (i+1) (λ e he=>h e (by simp [he]))
   refine ⟨r,?_,?_⟩
   ·unfold Instr.findNow
    rw [hk]
    simp only [fS] at hr ⊢
    have hb:(p == p')=false:=by simpa using heq
    simp [Instr.sameNow,hb,hr]
   ·rcases hc with ⟨rfl,hc⟩ | ⟨j,e',h1,h2,rfl⟩
    ·refine .inl ⟨rfl,λ x hx=>?_⟩
     rcases List.mem_cons.1 hx with rfl | hx
     ·intro e2
      exact heq (NZ (hk.symm.trans e2)).symm
     ·exact hc x hx
    ·exact .inr ⟨j+1,e',by simpa using h1,h2,by simp; omega⟩
theorem afM{t kt et:TypeId}(ht:Mi P t kt et)(p:Int){es:List MapEntry}{m:Int→Int}{cl:Nat}(h:zF es m cl):∃ r,ai P (Instr.findKey kt (fS p) es) r∧ake es p r:=by
 obtain ⟨r,hr,hc⟩:=acO p es 0 (λ e he=>let ⟨p,hk,_⟩:=h.MU e he; ⟨p,hk⟩)
 refine ⟨r,?_,?_⟩
 ·unfold Instr.findKey
  refine ai.bind (ai.underlying ht.key) ?_
  rw [hr]
  exact ai.pure _
 ·rcases hc with hc | ⟨j,e',h1,h2,h3⟩
  ·exact .inl hc
  ·exact .inr ⟨j,e',h1,h2,by simpa using h3⟩
theorem Ox.aBn{t:TypeId}(au:o.op = .makeMap t none)(hd:bT o.dst c.n)
  (hC:∀ v Hs,BB v (λ _=>0) Hs→∃ st',aI (bU o.dst v st) st'∧C R (Hs++H) st'):aW P B c o R H st C :=
 Ox.mem (s:=λ ρ=>Instr.makeMap t none) (by rw [au]; rfl) hd (λ ρ=>by simp only [execOp,au]; rfl) (λ ρ bd=>by
  unfold Instr.makeMap
  refine aR.bind (aR.new λ b _ _=>aR.pure ?_)
  exact hC (.map (some b)) [(b,.map #[] 0)] ⟨b,#[],0,rfl,rfl,⟨λ e he=>(by cases he),λ _ _=>rfl,λ i j a b ha=>(by simp at ha),λ e he=>(by cases he),λ i j a b ha=>(by simp at ha)⟩⟩)
theorem Ox.adU{x y:Operand}{t kt et:TypeId}{v:Value}{m:Int→Int}{p:Int}{Hs:an}(au:o.op = .lookup t x y false)(hx:bg st x=some v)(hy:bg st y=some (fS p))(ht:Mi P t kt et)(hm:BB v m Hs)(hH:∀ q∈Hs,q∈H)
  (hd:bT o.dst c.n) (hs:aI (bU o.dst (.int .i64 (m p)) st) st') (h:C R H st'):aW P B c o R H st C :=
 Ox.mem (s:=λ ρ=>Instr.lookup t (ρ x) (ρ y) false) (by rw [au]; rfl) hd (λ ρ=>by simp only [execOp,au]) (λ ρ bd=>by
  rw [bd x _ hx,bd y _ hy]
  unfold Instr.lookup
  refine ai.eX (ai.underlying ht.ty) ?_
  obtain ⟨b,es,cl,rfl,rfl,he⟩:=hm
  refine aR.bind (aR.getObj rfl (.inr (hH (b,.map es cl) (by simp))) ?_)
  refine aR.bind (aR.pure ?_)
  obtain ⟨r,hr,hf⟩:=afM ht p he
  refine ai.eX (ht.lR _ p) (ai.eX hr ?_)
  rcases hf with ⟨rfl,hn⟩ | ⟨i,e,h1,h2,rfl⟩
  ·refine ai.eX ht.zero (aR.bind (aR.pure (aR.pure ?_)))
   rw [he.zero p hn] at hs
   exact ⟨st',hs,h⟩
  ·obtain ⟨p',hk,hv⟩:=he.MU e (List.mem_of_getElem? h1)
   obtain rfl:=NZ (hk.symm.trans h2)
   rw [hv]
   exact aR.bind (aR.pure (aR.pure ⟨st',hs,h⟩)))
theorem aDn(p:Int):Instr.sameBits 10000 (fS p) (fS p)=true:=by
 simp [Instr.sameBits,fS]
theorem zF.push{es:Array MapEntry}{m:Int→Int}{cl:Nat}{p z:Int}(h:zF es.toList m cl)(hn:∀ e∈es.toList,e.key≠fS p) :
  zF (es.push { key:=fS p,val:=.int .i64 z,born:=cl }).toList (pv m p z) (cl+1):=by
 rw [Array.toList_push]
 refine ⟨λ e he=>?_,λ p' dU=>?_,λ i j a b ha hb bJ=>?_,λ e he=>?_,λ i j a b ha hb bJ=>?_⟩
 ·rcases List.mem_append.1 he with he | he
  ·obtain ⟨p',h1,h2⟩:=h.MU e he
   refine ⟨p',h1,?_⟩
   unfold pv
   rw [if_neg (λ e2=>hn e he (by rw [h1,e2])),h2]
  ·rcases List.mem_singleton.1 he with rfl
   exact ⟨p,rfl,by simp [pv]⟩
 ·have h1:=h.zero p' λ e he=>dU e (List.mem_append.2 (.inl he))
  unfold pv
  rw [if_neg,h1]
  rintro rfl
  exact dU { key:=fS p',val:=.int .i64 z,born:=cl } (List.mem_append.2 (.inr (by simp))) rfl
 ·rw [List.getElem?_append] at ha hb
  split at ha <;> split at hb
  ·exact h.keys i j a b ha hb bJ
  ·have:b={ key:=fS p,val:=.int .i64 z,born:=cl }:=by
    have:=List.mem_of_getElem? hb; simpa using this
   subst this
   exact absurd bJ (hn a (List.mem_of_getElem? ha))
  ·have:a={ key:=fS p,val:=.int .i64 z,born:=cl }:=by
    have:=List.mem_of_getElem? ha; simpa using this
   subst this
   exact absurd bJ.symm (hn b (List.mem_of_getElem? hb))
  ·have h1:=(List.getElem?_eq_some_iff.1 ha).1
   have h2:=(List.getElem?_eq_some_iff.1 hb).1
   simp only [List.length_singleton,Array.length_toList] at *
   omega
 ·rcases List.mem_append.1 he with he | he
  ·have:=h.old e he; omega
  ·rcases List.mem_singleton.1 he with rfl
   exact Nat.lt_succ_self _
 ·rw [List.getElem?_append] at ha hb
  split at ha <;> split at hb
  ·exact h.abj i j a b ha hb bJ
  ·have:b={ key:=fS p,val:=.int .i64 z,born:=cl }:=by
    have:=List.mem_of_getElem? hb; simpa using this
   subst this
   have:=h.old a (List.mem_of_getElem? ha)
   simp only at bJ
   omega
  ·have:a={ key:=fS p,val:=.int .i64 z,born:=cl }:=by
    have:=List.mem_of_getElem? ha; simpa using this
   subst this
   have:=h.old b (List.mem_of_getElem? hb)
   simp only at bJ
   omega
  ·have h1:=(List.getElem?_eq_some_iff.1 ha).1
   have h2:=(List.getElem?_eq_some_iff.1 hb).1
   simp only [List.length_singleton,Array.length_toList] at *
   omega
theorem IK{α:Type}{a:Array α}{j:Nat}{x:α}(h:a.toList[j]? = some x):a[j]? = some x:=by rwa [Array.getElem?_toList] at h
theorem zF.te{es:Array MapEntry}{m:Int→Int}{cl i:Nat}{p z:Int}{e:MapEntry}(he:zF es.toList m cl)(hi:es[i]? = some e)(hk:e.key=fS p) :
  zF (es.modify i λ e=>{ e with key:=fS p,val:=.int .i64 z }).toList (pv m p z) cl:=by
 have uz:∀ j a,(es.modify i λ e=>{ e with key:=fS p,val:=.int .i64 z })[j]? = some a→∃ a0,es[j]? = some a0∧a.key=a0.key∧a.born=a0.born∧a.val=if i=j then .int .i64 z else a0.val:=by
  intro j a ha
  rw [Array.getElem?_modify] at ha
  by_cases hj:i=j
  ·subst hj
   rw [hi] at ha
   simp only [if_true,Option.map_some,Option.some.injEq] at ha
   subst ha
   exact ⟨e,hi,hk.symm,rfl,by simp⟩
  ·simp only [hj,if_false] at ha
   exact ⟨a,ha,rfl,rfl,by simp [hj]⟩
 have lS:∀ a∈(es.modify i λ e=>{ e with key:=fS p,val:=.int .i64 z }).toList,∃ j,(es.modify i λ e=>{ e with key:=fS p,val:=.int .i64 z })[j]? = some a:=λ a ha=>by
  obtain ⟨j,hj⟩:=List.mem_iff_getElem?.1 ha
  exact ⟨j,IK hj⟩
 refine ⟨λ a ha=>?_,λ p' dU=>?_,λ j k a b' ha hb bJ=>?_,λ a ha=>?_,λ j k a b' ha hb bJ=>?_⟩
 ·obtain ⟨j,hj⟩:=lS a ha
  obtain ⟨a0,h1,h2,h3,h4⟩:=uz j a hj
  obtain ⟨p',cR,J0⟩:=he.MU a0 (by rw [← Array.mem_def]; exact Array.mem_of_getElem? h1)
  refine ⟨p',h2.trans cR,?_⟩
  rw [h4]
  by_cases pn:i=j
  ·subst pn
   rw [hi] at h1; cases h1
   obtain rfl:=NZ (hk.symm.trans cR)
   simp [pv]
  ·rw [if_neg pn,J0]
   unfold pv
   rw [if_neg]
   rintro rfl
   exact pn (he.keys i j e a0 (by simpa using hi) (by simpa using h1) (hk.trans cR.symm))
 ·unfold pv
  by_cases UB:p'=p
  ·subst UB
   exfalso
   obtain ⟨bK,uy⟩:=Array.getElem?_eq_some_iff.1 hi
   refine dU { e with key:=fS p',val:=.int .i64 z } ?_ rfl
   rw [← Array.mem_def]
   exact Array.mem_of_getElem? (i:=i) (by rw [Array.getElem?_modify]; simp [hi])
  ·rw [if_neg UB]
   refine he.zero p' λ a ha=>?_
   obtain ⟨j,hj⟩:=List.mem_iff_getElem?.1 ha
   have Ai:es[j]? = some a:=by simpa using hj
   by_cases pn:i=j
   ·subst pn
    rw [hi] at Ai; cases Ai
    intro e2
    exact UB (NZ (hk.symm.trans e2)).symm
   ·exact dU a (by rw [← Array.mem_def]; exact Array.mem_of_getElem? (i:=j) (by rw [Array.getElem?_modify]; simp [pn,Ai]))
 ·obtain ⟨a0,h1,h2,_⟩:=uz j a (IK ha)
  obtain ⟨b0,k1,k2,_⟩:=uz k b' (IK hb)
  exact he.keys j k a0 b0 (by simpa using h1) (by simpa using k1) (h2.symm.trans (bJ.trans k2))
 ·obtain ⟨j,hj⟩:=lS a ha
  obtain ⟨a0,h1,h2,h3,h4⟩:=uz j a hj
  rw [h3]
  exact he.old a0 (by rw [← Array.mem_def]; exact Array.mem_of_getElem? h1)
 ·obtain ⟨a0,h1,_,h3,_⟩:=uz j a (IK ha)
  obtain ⟨b0,k1,_,k3,_⟩:=uz k b' (IK hb)
  exact he.abj j k a0 b0 (by simpa using h1) (by simpa using k1) (h3.symm.trans (bJ.trans k3))
theorem Ox.aBp{x y u:Operand}{t kt et:TypeId}{v:Value}{m:Int→Int}{p z:Int}{Hs:an}(G:an→an)(au:o.op = .mapUpdate t x y u)(hx:bg st x=some v)(hy:bg st y=some (fS p))(hz:bg st u=some (.int .i64 z))(ht:Mi P t kt et)(hG:lu G)(hm:BB v m Hs)
  (hd:o.dst=none) (cG:aI st st') (hC:∀ dT,BB v (pv m p z) dT→C R (G dT) st'):aW P B c o R (G Hs) st C :=
 Ox.Oq (s:=λ ρ=>Instr.mapUpdate t (ρ x) (ρ y) (ρ u)) (by rw [au]; rfl) hd (λ ρ=>by simp only [execOp,au]) cG (λ ρ bd=>by
  rw [bd x _ hx,bd y _ hy,bd u _ hz]
  unfold Instr.mapUpdate
  refine ai.eX (ai.underlying ht.ty) ?_
  obtain ⟨b,es,cl,rfl,rfl,he⟩:=hm
  refine aR.bind (aR.getObj rfl (.inr (hG.set (o':=.map es cl)).mem) ?_)
  obtain ⟨r,hr,hf⟩:=afM ht p he
  refine ai.eX (ht.lR _ p) (ai.eX hr ?_)
  rcases hf with ⟨rfl,hn⟩ | ⟨i,e,h1,h2,rfl⟩
  ·exact aR.setObj rfl rfl hG.set (hC _ ⟨b,_,_,rfl,rfl,he.push hn⟩)
  ·have y9:es[i]? = some e:=by simpa using h1
   have cG:ai P (Instr.keyThatStays (((es[i]?).map (·.key)).getD (fS p)) (fS p)) (fS p):=by
    rw [y9]
    simp only [Option.map_some,Option.getD_some,h2,Instr.keyThatStays,aDn,if_true]
    exact ai.pure _
   exact ai.eX cG (aR.setObj rfl rfl hG.set (hC _ ⟨b,_,_,rfl,rfl,he.te y9 h2⟩)))
end
end Go.Lg
namespace Go.Lg
open Go.Conc
def gI{α:Type}(m:Nat)(xs:List α)(i:Int):Option (List α):=if 0≤i∧i.toNat * m+m≤xs.length then some ((xs.drop (i.toNat * m)).take m) else none
def lM{α:Type}(m:Nat)(xs:List α)(i k:Int)(x:α):List α:=xs.set (i.toNat * m+k.toNat) x
def Ej{α:Type}(m:Nat)(xs:List α)(i:Int)(r:List α):List α:=xs.take (i.toNat * m)++(r++xs.drop (i.toNat * m+m))
section
variable {α:Type} {m n:Nat} {xs r g:List α} {i k:Int} {x y:α}
theorem yI(h:gI m xs i=some r):0≤i∧i.toNat * m+m≤xs.length∧r=(xs.drop (i.toNat * m)).take m:=by
 unfold gI at h
 split at h
 ·rename_i hc; cases h; exact ⟨hc.1,hc.2,rfl⟩
 ·cases h
theorem o9(h:gI m xs i=some r):r.length=m:=by
 obtain ⟨_,h2,rfl⟩:=yI h
 simp only [List.length_take,List.length_drop]
 omega
theorem Gt(h:xs.length=n):(lM m xs i k x).length=n:=by simpa [lM] using h
theorem aDu(h:gI m xs i=some r)(hx:xs.length=n)(hg:g.length=m):(Ej m xs i g).length=n:=by
 obtain ⟨_,h2,_⟩:=yI h
 simp only [Ej,List.length_append,List.length_take,List.length_drop]
 omega
theorem wR{P:Program}{t e len K b o:Nat}(ht:vN P t len e K)(hl:xs.length=len * m)(hm:0 < m)(h:gI m xs i=some r):zI P t (.pointer (some ⟨b,o,none⟩)) i b (o+i.toNat * K):=by
 obtain ⟨h1,h2,_⟩:=yI h
 refine adz ht ⟨h1,?_⟩
 rw [hl] at h2
 have h3:(i.toNat+1) * m≤len * m:=by rw [Nat.add_mul]; omega
 have:=Nat.le_of_mul_le_mul_right h3 hm
 omega
theorem aDj{pre post:List Value}{f:α→Value}{p:Nat}(h:gI m xs i=some r)(hp:pre.length=p):∃ a c,pre++(xs.map f++post)=a++(r.map f++c)∧a.length=p+i.toNat * m:=by
 obtain ⟨_,h2,rfl⟩:=yI h
 refine ⟨pre++(xs.take (i.toNat * m)).map f,(xs.drop (i.toNat * m+m)).map f++post,?_,by simp [hp]; omega⟩
 have e:xs=xs.take (i.toNat * m)++((xs.drop (i.toNat * m)).take m++xs.drop (i.toNat * m+m)):=by
  rw [← List.drop_drop,List.take_append_drop,List.take_append_drop]
 conv=>lhs; rw [e]
 simp
theorem aQ.row{R:az}{H:an}{b o p:Nat}{f:α→Value}{pre post:List Value}(hc:aQ R H b o (pre++(xs.map f++post)))(h:gI m xs i=some r)(hp:pre.length=p):aQ R H b (o+p+i.toNat * m) ([]++(r.map f++[])):=by
 obtain ⟨a,c,e,ha⟩:=aDj (post:=post) (f:=f) h hp
 rw [e] at hc
 have:=hc.part (j:=a.length) (n:=(r.map f).length) (aD6 rfl rfl)
 rw [ha] at this
 simpa [Nat.add_assoc] using this
theorem Sc{pre post:List Value}{f:α→Value}{p:Nat}(h:gI m xs i=some r)(hk:idx r k=some y)(hp:pre.length=p):Nat.blt (p+i.toNat * m+k.toNat * 1) ((pre++(xs.map f++post)).toArray).size=true:=by
 obtain ⟨_,h2,_⟩:=yI h
 obtain ⟨_,h4,h5⟩:=uR hk
 have:=o9 h
 have:=(List.getElem?_eq_some_iff.1 h5).1
 rw [Nat.blt_eq]
 simp
 omega
theorem Se{pre post:List Value}{f:α→Value}{p:Nat}(h:gI m xs i=some r)(hk:idx r k=some y)(hp:pre.length=p):((pre++(xs.map f++post)).toArray).setIfInBounds (p+i.toNat * m+k.toNat * 1) (f x)=(pre++((lM m xs i k x).map f++post)).toArray:=by
 obtain ⟨_,h2,_⟩:=yI h
 obtain ⟨_,h4,h5⟩:=uR hk
 have:=o9 h
 have:=(List.getElem?_eq_some_iff.1 h5).1
 subst hp
 unfold lM
 simp only [Nat.mul_one,List.setIfInBounds_toArray,List.map_set]
 congr 1
 rw [List.set_append_right _ _ (by omega),show pre.length+i.toNat * m+k.toNat - pre.length=i.toNat * m+k.toNat by omega,List.set_append_left _ _ (by simp; omega)]
theorem aDh{pre post:List Value}{f:α→Value}{p:Nat}(h:gI m xs i=some r)(hp:pre.length=p):Nat.ble (p+i.toNat * m+m) ((pre++(xs.map f++post)).toArray).size=true:=by
 obtain ⟨_,h2,_⟩:=yI h
 rw [Nat.ble_eq]
 simp
 omega
theorem aCA{a c vs ws:List Value}{cs:Array Value}{off:Nat}(qE:cs=(a++(vs++c)).toArray)(ha:a.length=off)(hl:ws.length=vs.length):fU cs off ws=(a++(ws++c)).toArray:=by
 subst qE ha
 apply Array.ext_getElem?
 intro j
 rw [Dm ws _ _ j (by simp; omega)]
 by_cases hj:a.length≤j∧j < a.length+ws.length
 ·rw [if_pos hj]
  simp only [List.getElem?_toArray]
  rw [List.getElem?_append_right hj.1,List.getElem?_append_left (by omega)]
 ·rw [if_neg hj]
  simp only [List.getElem?_toArray]
  by_cases h1:j < a.length
  ·rw [List.getElem?_append_left h1,List.getElem?_append_left h1]
  ·rw [List.getElem?_append_right (by omega),List.getElem?_append_right (by omega),List.getElem?_append_right (by omega),List.getElem?_append_right (by omega),hl]
theorem aDl{pre post:List Value}{f:α→Value}{p:Nat}(h:gI m xs i=some r)(hg:g.length=m)(hp:pre.length=p):fU ((pre++(xs.map f++post)).toArray) (p+i.toNat * m) (([]:List Value)++(g.map f++[]))=(pre++((Ej m xs i g).map f++post)).toArray:=by
 obtain ⟨_,h2,_⟩:=yI h
 have hr:=o9 h
 have e:xs=xs.take (i.toNat * m)++(r++xs.drop (i.toNat * m+m)):=by
  obtain ⟨_,_,rfl⟩:=yI h
  rw [← List.drop_drop,List.take_append_drop,List.take_append_drop]
 have e2:(pre++(xs.map f++post)).toArray=((pre++(xs.take (i.toNat * m)).map f)++(r.map f++((xs.drop (i.toNat * m+m)).map f++post))).toArray:=by
  conv=>lhs; rw [e]
  simp
 have:=aCA (ws:=([]:List Value)++(g.map f++[])) (off:=p+i.toNat * m) e2 (by simp [hp]; omega) (by simp [hg,hr])
 rw [this]
 simp [Ej]
end
section
variable {P:Program} {B:Base} {main:Bool} {c:Ctx} {R:az} {H:an} {st st':St} {o:Oper} {C:az→an→St→Prop}
theorem Ox.WL{α:Type}{x y:Operand}{t e len:Nat}{f:α→Value}{xs:List α}{a:α}{kd:IntKind}{i:Int}(au:o.op = .index t x y) (hx:bg st x=some (.agg (List.toArray ([]++(xs.map f++[]))))) (hy:bg st y=some (.int kd i)) (ht:vN P t len e 1) (he:ai P (isAgg e) false) (hl:xs.length=len) (hi:idx xs i=some a)
  (hd:bT o.dst c.n) (hs:aI (bU o.dst (f a) st) st') (h:C R H st'):aW P B c o R H st C:=by
 obtain ⟨h1,h2,h3⟩:=uR hi
 exact Ox.CG au hx hy ht he ⟨h1,by omega⟩ (by simp [h3]) hd hs h
end
end Go.Lg
namespace Go.Lg
instance {n:Nat}:CM (nX Value.bool n):=⟨λ _ h=>h,λ ⟨_,h⟩ u hu=>by
 subst h
 simp only [List.nil_append,List.append_nil,List.mem_map] at hu
 obtain ⟨_,_,rfl⟩:=hu
 rfl⟩
instance {n:Nat} {kd:IntKind}:CM (nX (Value.int kd) n):=⟨λ _ h=>h,λ ⟨_,h⟩ u hu=>by
 subst h
 simp only [List.nil_append,List.append_nil,List.mem_map] at hu
 obtain ⟨_,_,rfl⟩:=hu
 rfl⟩
end Go.Lg
namespace Go.Lg
open Go.Conc
section
variable {P:Program} {B:Base} {main:Bool} {c:Ctx} {R:az} {H:an} {st st':St} {o:Oper} {C:az→an→St→Prop}
theorem Ox.aCG{t:TypeId}{x:Operand}{s:ByteArray}(au:o.op = .range t x)(hx:bg st x=some (.string s))(hu:P.underlying t=some .string)(hd:bT o.dst c.n)
  (hC:∀ b,R b=none→(∀ y,(b,y) ∉ H)→∃ st',aI (bU o.dst (.pointer (some ⟨b,0,none⟩)) st) st'∧C R ((b,.stringIter s 0)::H) st'):aW P B c o R H st C :=
 Ox.mem (s:=λ ρ=>Instr.range t (ρ x)) (by rw [au]; rfl) hd (λ ρ=>by simp only [execOp,au]) (λ ρ bd=>by
  rw [bd x _ hx]
  unfold Instr.range
  refine ai.eX (ai.underlying hu) (ai.eX (ai.pure _) ?_)
  exact aR.bind (aR.new λ b h1 h2=>aR.pure (hC b h1 h2)))
theorem Ox.aBz{x:Operand}{b:Nat}{s:ByteArray}{pos:Nat}(au:o.op = .next x true)(hx:bg st x=some (.pointer (some ⟨b,0,none⟩)))(hb:(b,Obj.stringIter s pos)∈H)(hp:¬ pos < s.size)(hd:bT o.dst c.n)
  (hs:aI (bU o.dst (.tuple #[.bool false]) st) st') (h:C R H st'):aW P B c o R H st C :=
 Ox.mem (s:=λ ρ=>Instr.next (ρ x) true o.type) (by rw [au]; rfl) hd (λ ρ=>by simp only [execOp,au]) (λ ρ bd=>by
  rw [bd x _ hx]
  unfold Instr.next
  refine aR.bind (aR.getObj rfl (.inr hb) ?_)
  simp only [hp,if_false]
  exact aR.pure ⟨st',hs,h⟩)
theorem Ox.aBA{x:Operand}{b:Nat}{s:ByteArray}{pos:Nat}{H':an}(au:o.op = .next x true)(hx:bg st x=some (.pointer (some ⟨b,0,none⟩)))(hb:fp H b (.stringIter s pos) (.stringIter s (pos+(Utf8.decode s pos).2)) H')(hp:pos < s.size)(hd:bT o.dst c.n)
  (hs:aI (bU o.dst (.tuple #[.bool true,.int .i64 (pos:Int),.int .i32 ((Utf8.decode s pos).1:Int)]) st) st') (h:C R H' st'):aW P B c o R H st C :=
 Ox.mem (s:=λ ρ=>Instr.next (ρ x) true o.type) (by rw [au]; rfl) hd (λ ρ=>by simp only [execOp,au]) (λ ρ bd=>by
  rw [bd x _ hx]
  unfold Instr.next
  refine aR.bind (aR.getObj rfl (.inr hb.mem) ?_)
  simp only [hp,if_true]
  exact aR.bind (aR.setObj rfl rfl hb (aR.pure ⟨st',hs,h⟩)))
end
end Go.Lg
namespace Go.Lg
open Go.Conc
class mQ (P:Program) where
 off:Nat→Nat→Option Nat
 ok:∀ s f n,off s f=some n→gy P s f n
def OX(fo:Nat→Nat→Option Nat)(st:St)(o:Oper):Option Value :=
 match o.op with
 | .move x=>bg st x
 | .assign x=>bg st x
 | .pick x y z=>match bg st x with
  | some (.bool true)=>bg st y
  | some (.bool false)=>bg st z
  | _=>none
 | .extract x j=>match bg st x with
  | some (.tuple vs)=>vs[j]?
  | _=>none
 | .unOp .not _ x=>match bg st x with
  | some (.bool a)=>some (.bool (!a))
  | _=>none
 | .binOp bo _ x y _=>match bg st x,bg st y with
  | some (.int kd a),some (.int CH b)=>if kd=CH then (match SM bo a b with
   | some r=>some (.bool r)
   | none=>match Sa bo a b with
    | some z=>some (.int kd (kd.wrap z))
    | none=>none) else none
  | _,_=>none
 | .fieldAddr s x f=>match bg st x,fo s f with
  | some (.pointer (some ⟨b,n,none⟩)),some off=>some (.pointer (some ⟨b,n+off,none⟩))
  | _,_=>none
 | _=>none
section
variable {P:Program} [mQ P] {B:Base} {main:Bool} {af:Jd P B main} {c:Ctx} {R:az} {H:an} {st st':St} {o:Oper} {C:az→an→St→Prop} {k:List Item}
theorem ae3{v:Value}(h:OX (mQ.off P) st o=some v)(hd:bT o.dst c.n)(hs:aI (bU o.dst v st) st')(hC:C R H st'):aW P B c o R H st C:=by
 unfold OX at h
 split at h
 ·rename_i x au; exact Ox.move au h hd hs hC
 ·rename_i x au; exact Ox.assign au h hd hs hC
 ·rename_i x y z au
  split at h
  ·rename_i hx; exact Ox.aCx au hx h hd hs hC
  ·rename_i hx; exact Ox.aCw au hx h hd hs hC
  ·cases h
 ·rename_i x j au
  split at h
  ·rename_i hx; exact Ox.extract au hx h hd hs hC
  ·cases h
 ·rename_i t x au
  split at h
  ·rename_i hx; cases h; exact Ox.not au hx hd hs hC
  ·cases h
 ·rename_i bo t x y u au
  split at h
  ·rename_i kd a CH b hx hy
   split at h
   ·rename_i e; subst e
    split at h
    ·rename_i r hr; cases h; exact Ox.cmp au hx hy hr hd hs hC
    ·split at h
     ·rename_i z hz; cases h; exact Ox.ar au hx hy hz hd hs hC
     ·cases h
   ·cases h
  ·cases h
 ·rename_i s x f au
  split at h
  ·rename_i hx hf; cases h; exact Ox.fieldAddr au hx (mQ.ok s f _ hf) hd hs hC
  ·cases h
 ·cases h
def XU(fo:Nat→Nat→Option Nat)(ops:Array Oper)(n:Nat)(st:St)(i:Nat):Option St :=
 match ops[i]? with
 | none=>none
 | some o=>match cE ops st o with
  | some true=>match OX fo st o,o.dst with
   | some v,some d=>if Nat.blt d n=true then some ((d,v)::st) else none
   | _,_=>none
  | some false=>match m5 o.op,o.dst with
   | false,some d=>if Nat.blt d n=true then some ((d,undef)::st) else none
   | false,none=>some st
   | _,_=>none
  | none=>none
def AN(fo:Nat→Nat→Option Nat)(ops:Array Oper)(n:Nat):List Nat→St→Option St
 | [],st=>some st
 | i::is,st=>match XU fo ops n st i with
  | some st'=>AN fo ops n is st'
  | none=>none
theorem afp{ops:Array Oper}{n i:Nat}{fo:Nat→Nat→Option Nat}(h:XU fo ops n st i=some st'):∃ o,ops[i]? = some o ∧
  ((cE ops st o=some true∧∃ v d,OX fo st o=some v∧o.dst=some d∧bT (some d) n∧st'=(d,v)::st) ∨
   (cE ops st o=some false∧m5 o.op=false∧bT o.dst n∧st'=bU o.dst undef st)):=by
 unfold XU at h
 split at h
 ·cases h
 ·rename_i o ho
  refine ⟨o,ho,?_⟩
  split at h
  ·rename_i hw
   split at h
   ·rename_i v d hv hd
    split at h
    ·rename_i hl; cases h; exact .inl ⟨hw,v,d,hv,hd,hl,rfl⟩
    ·cases h
   ·cases h
  ·rename_i hw
   split at h
   ·rename_i d mD hd
    split at h
    ·rename_i hl; cases h; exact .inr ⟨hw,mD,by rw [hd]; exact hl,by rw [hd]; rfl⟩
    ·cases h
   ·rename_i mD hd
    cases h; exact .inr ⟨hw,mD,by rw [hd]; rfl,by rw [hd]; rfl⟩
   ·cases h
  ·cases h
theorem U.run{ops:Array Oper}(hk:(c.kind == CallKind.early)=false):∀ {is rest:List Nat} {st:St},AN (mQ.off P) ops c.n is st=some st'→U af c R H st' (.inRegion ops rest::k)→U af c R H st (.inRegion ops (is++rest)::k)
 | [],rest,st,h,ha=>by cases h; exact ha
 | i::is,rest,st,h,ha=>by
  unfold AN at h
  split at h
  ·rename_i w8 h1
   have ih:=U.run hk h ha
   obtain ⟨o,ho,⟨hw,v,d,hv,hd,hl,rfl⟩ | ⟨hw,mD,hl,rfl⟩⟩:=afp h1
   ·exact U.iX ho hw hk (ae3 hv (by rw [hd]; exact hl) (by rw [hd]; exact aI.refl _) ih)
   ·exact U.unwanted ho hw hl (aI.refl _) ih
  ·cases h
theorem U.vs(m:Nat){ops:Array Oper}{is rG:List Nat}(h:AN (mQ.off P) ops c.n (is.take m) st=some st')(hr:is.drop m=rG)(ha:U af c R H st' (.inRegion ops rG::k))(hk:(c.kind == CallKind.early)=false:=by rfl):U af c R H st (.inRegion ops is::k):=by
 subst hr
 have:=U.run (rest:=is.drop m) hk h ha
 rwa [List.take_append_drop] at this
def abX(ops:Array Oper)(rem:List Nat)(i:Nat):Nat→List Nat→List Nat
 | 0,D=>D
 | n+1,D=>abX ops rem i n (rem.filter λ j=>j != i && (D.contains j || match ops[j]? with | some o=>o.after.any λ e=>Region.binds .any e && (e.on == i || D.contains e.on) | none=>false))
def MR(ops:Array Oper)(rem:List Nat)(i:Nat):List Nat:=abX ops rem i rem.length []
def MO(ops:Array Oper):List Nat→List Nat→Bool
 | _,[]=>true
 | rem,i::is=>decide rem.Nodup && qN ops rem i (MR ops rem i) && MO ops (rem.erase i) is
theorem Any.vs'{S:Nat→an}{ops:Array Oper}{n:Nat}:∀ (is:List Nat) {rem:List Nat} {st:St},AN (mQ.off P) ops c.n is st=some st'→MO ops rem is=true→Any af c S ops k n (is.foldl List.erase rem) R H st'→Any af c S ops k (n+is.length) rem R H st
 | [],rem,st,h,_,ha=>by cases h; exact ha
 | i::is,rem,st,h,hc,ha=>by
  unfold AN at h
  split at h
  ·rename_i w8 h1
   simp only [MO,Bool.and_eq_true,decide_eq_true_eq] at hc
   obtain ⟨⟨dR,j6⟩,hc⟩:=hc
   have ih:=Any.vs' is h hc ha
   obtain ⟨o,ho,⟨hw,v,d,hv,hd,hl,rfl⟩ | ⟨hw,mD,hl,rfl⟩⟩:=afp h1
   ·exact Any.Dv (N:=[]) _ ho hd hw j6 (λ _ _ _ _ p hp=>by cases hp) (λ p hp=>by cases hp) (λ R' H' _ _=>ae3 hv (by rw [hd]; exact hl) (.one hd) ⟨rfl,rfl,rfl⟩) (aI.refl _) dR rfl ih
   ·exact Any.aD4 _ ho j6 mD hl hw (aI.refl _) dR rfl ih
  ·cases h
theorem Any.vs{S:Nat→an}{ops:Array Oper}{n:Nat}(m:Nat)(is:List Nat){rem:List Nat}{st:St}(h:AN (mQ.off P) ops c.n is st=some st')(ha:Any af c S ops k n (is.foldl List.erase rem) R H st')(hc:MO ops rem is=true:=by decide +kernel)(hm:is.length=m:=by rfl):Any af c S ops k (n+m) rem R H st:=by
 subst hm
 exact Any.vs' is h hc ha
end
section
variable {P:Program} {B:Base} {main:Bool} {af:Jd P B main} {c:Ctx} {R:az} {H:an} {st st':St} {o:Oper} {C:az→an→St→Prop} {k:List Item}
theorem U.rg(is:List Nat){id:Nat}{ops:Array Oper}(h:U af c R H st (.inRegion ops is::k))(hn:ops.size=is.length:=by rfl)(mF:List.range is.length=is:=by rfl):U af c R H st (.code (.region id ops false)::k):=U.aCX hn mF h
theorem U.dw(is:List Nat){id:Nat}{ops:Array Oper}(hm:P.follows .mixedOrders=true)(h:Any af c (λ _=>H) ops k is.length is R H st)(hk:(c.kind == CallKind.early)=false:=by rfl)(hb:backward ops=true:=by decide +kernel)(hn:ops.size=is.length:=by rfl)(mF:List.range is.length=is:=by rfl):U af c R H st (.code (.region id ops true)::k):=U.amT hm hk hb hn mF h
theorem Any.tk(i:Nat){N:an}{ops:Array Oper}{n d:Nat}{rem:List Nat}{v:Value}(ho:ops[i]? = some o)(hS:∀ p∈N,p∈H)(hf:∀ R' H',aT R R'→(∀ p∈N,p∈H')→aW P B c o R' H' st λ R1 H1 w8=>R1=R'∧H1=H'∧w8=[(d,v)])
  (h:Any af c (λ _=>N) ops k n (rem.erase i) R H ((d,v)::st)) (oV:o.dst=some d:=by rfl) (hw:cE ops st o=some true:=by rfl) (j6:qN ops rem i (MR ops rem i)=true:=by decide +kernel) (dR:rem.Nodup:=by decide):Any af c (λ _=>N) ops k (n+1) rem R H st :=
 Any.Dv _ ho oV hw j6 (λ _ _ _ _ _ hp=>hp) hS hf (aI.refl _) dR rfl h
theorem U.cv{ops:Array Oper}{i d:Nat}{rest:List Nat}{ca:Call}{x:Operand}{f:FuncId}{first captured:Array Value}{vs:List Value}{args:Array Value}{Post:Value→az→an→Prop}(he:bj P f)(hf:aC af f args R H Post)
  (h:∀ v R' H',Post v R' H'→U af c R' H' ((d,v)::st) (.inRegion ops rest::k))
  (ho:ops[i]? = some o:=by rfl) (hw:cE ops st o=some true:=by rfl) (hk:(c.kind == CallKind.early)=false:=by rfl) (au:o.op = .call ca:=by rfl) (hc:ca.callee = .value x:=by rfl) (hx:bg st x=some (.func (.func f) first captured):=by rfl)
  (ha:ji st ca.args.toList=some vs:=by rfl) (I3:first++vs.toArray++captured=args:=by rfl) (hd:o.dst=some d:=by rfl) (hl:Nat.blt d c.n=true:=by rfl):U af c R H st (.inRegion ops (i::rest)::k) :=
 U.step ho hw hk (Ox.fQ au hc hx ha he I3 (by rw [hd]; exact hl) (hf.mono λ v R' H' hp=>⟨_,.put hd,h v R' H' hp⟩))
theorem Any.cv(i:Nat){S:Nat→an}{ops:Array Oper}{n d:Nat}{rem:List Nat}{ca:Call}{x:Operand}{f:FuncId}{first captured:Array Value}{vs:List Value}{args:Array Value}{Post:Value→az→an→Prop}(he:bj P f)(hf:aC af f args R H Post)
  (h:∀ v R' H',Post v R' H'→aT R R'∧(∀ p∈S i,p∈H→p∈H')∧Any af c S ops k n (rem.erase i) R' H' ((d,v)::st))
  (ho:ops[i]? = some o:=by rfl) (hw:cE ops st o=some true:=by rfl) (au:o.op = .call ca:=by rfl) (hc:ca.callee = .value x:=by rfl) (hx:bg st x=some (.func (.func f) first captured):=by rfl)
  (ha:ji st ca.args.toList=some vs:=by rfl) (I3:first++vs.toArray++captured=args:=by rfl) (hd:o.dst=some d:=by rfl) (hl:Nat.blt d c.n=true:=by rfl) (mY:rem.filter (oz ops rem)=[i]:=by decide +kernel) (dR:rem.Nodup:=by decide):Any af c S ops k (n+1) rem R H st :=
 Any.one ho mY hw dR rfl (Ox.fQ au hc hx ha he I3 (by rw [hd]; exact hl) (hf.mono λ v R' H' hp=>⟨_,.put hd,h v R' H' hp⟩))
theorem Any.on(i:Nat){S:Nat→an}{ops:Array Oper}{n:Nat}{rem:List Nat}(ho:ops[i]? = some o)(hw:cE ops st o=some true)
  (h:pI af c o R H st λ R' H' st'=>aT R R'∧(∀ p∈S i,p∈H→p∈H')∧Any af c S ops k n (rem.erase i) R' H' st') (mY:rem.filter (oz ops rem)=[i]:=by decide +kernel) (dR:rem.Nodup:=by decide):Any af c S ops k (n+1) rem R H st:=Any.one ho mY hw dR rfl h
theorem U.ld{ops:Array Oper}{i d:Nat}{rest:List Nat}{x:Operand}{t:TypeId}{b off:Nat}{v:Value}(ht:ic P t)(hc:Cell R H ⟨b,off,none⟩ v)(h:U af c R H ((d,v)::st) (.inRegion ops rest::k))
  (ho:ops[i]? = some o:=by rfl) (hw:cE ops st o=some true:=by rfl) (hk:(c.kind == CallKind.early)=false:=by rfl) (au:o.op = .load t x:=by rfl) (hx:bg st x=some (.pointer (some ⟨b,off,none⟩)):=by rfl) (hd:o.dst=some d:=by rfl) (hl:Nat.blt d c.n=true:=by rfl):U af c R H st (.inRegion ops (i::rest)::k) :=
 U.iX ho hw hk (Ox.cT au hx ht hc (by rw [hd]; exact hl) (.put hd) h)
theorem U.kn(t:Nat){x b:Bool}{todo:List Item}(hb:x=b)(h:U af c R H ((t,.bool b)::st) todo)(hx:st.lookup t=some (.bool x):=by rfl):U af c R H st todo:=U.known hx hb h
theorem U.s{ops:Array Oper}{i:Nat}{rest:List Nat}(ho:ops[i]? = some o)(hw:cE ops st o=some true)(h:aW P B c o R H st λ R' H' st'=>U af c R' H' st' (.inRegion ops rest::k))(hk:(c.kind == CallKind.early)=false:=by rfl):U af c R H st (.inRegion ops (i::rest)::k):=U.iX ho hw hk h
end
abbrev aJ:List Nat:=[0]
abbrev aS:List Nat:=[0,1]
abbrev bh:List Nat:=[0,1,2]
abbrev cb:List Nat:=[0,1,2,3]
abbrev bZ:List Nat:=[0,1,2,3,4]
abbrev gG:List Nat:=[0,1,2,3,4,5]
abbrev eJ:List Nat:=[0,1,2,3,4,5,6]
abbrev gq:List Nat:=[0,1,2,3,4,5,6,7]
abbrev mh:List Nat:=[0,1,2,3,4,5,6,7,8]
abbrev nq:List Nat:=[0,1,2,3,4,5,6,7,8,9]
abbrev qY:List Nat:=[0,1,2,3,4,5,6,7,8,9,10]
abbrev zz:List Nat:=[0,1,2,3,4,5,6,7,8,9,10,11]
abbrev Rc:List Nat:=[0,1,2,3,4,5,6,7,8,9,10,11,12]
abbrev HJ:List Nat:=[0,1,2,3,4,5,6,7,8,9,10,11,12,13]
abbrev Qb:List Nat:=[0,1,2,3,4,5,6,7,8,9,10,11,12,13,14]
abbrev OZ:List Nat:=[0,1,2,3,4,5,6,7,8,9,10,11,12,13,14,15]
abbrev aIw:List Nat:=[0,1,2,3,4,5,6,7,8,9,10,11,12,13,14,15,16]
abbrev XI:List Nat:=[0,1,2,3,4,5,6,7,8,9,10,11,12,13,14,15,16,17]
abbrev aHu:List Nat:=[0,1,2,3,4,5,6,7,8,9,10,11,12,13,14,15,16,17,18]
abbrev aHv:List Nat:=[0,1,2,3,4,5,6,7,8,9,10,11,12,13,14,15,16,17,18,19,20]
abbrev aIx:List Nat:=[0,1,2,3,4,5,6,7,8,9,10,11,12,13,14,15,16,17,18,19,20,21]
abbrev aIy:List Nat:=[0,1,2,3,4,5,6,7,8,9,10,11,12,13,14,15,16,17,18,19,20,21,22]
abbrev ajN:List Nat:=[0,1,2,3,4,5,6,7,8,9,10,11,12,13,14,15,16,17,18,19,20,21,22,23,24,25]
abbrev ae8:List Nat:=[0,1,2,3,4,5,6,7,8,9,10,11,12,13,14,15,16,17,18,19,20,21,22,23,24,25,26]
abbrev ajO:List Nat:=[0,1,2,3,4,5,6,7,8,9,10,11,12,13,14,15,16,17,18,19,20,21,22,23,24,25,26,27]
abbrev ajP:List Nat:=[0,1,2,3,4,5,6,7,8,9,10,11,12,13,14,15,16,17,18,19,20,21,22,23,24,25,26,27,28]
abbrev aC2:List Nat:=[0,1,2,3,4,5,6,7,8,9,10,11,12,13,14,15,16,17,18,19,20,21,22,23,24,25,26,27,28,29,30,31]
abbrev aIz:List Nat:=[0,1,2,3,4,5,6,7,8,9,10,11,12,13,14,15,16,17,18,19,20,21,22,23,24,25,26,27,28,29,30,31,32]
abbrev aHw:List Nat:=[0,1,2,3,4,5,6,7,8,9,10,11,12,13,14,15,16,17,18,19,20,21,22,23,24,25,26,27,28,29,30,31,32,33,34,35]
abbrev aC3:List Nat:=[0,1,2,3,4,5,6,7,8,9,10,11,12,13,14,15,16,17,18,19,20,21,22,23,24,25,26,27,28,29,30,31,32,33,34,35,36,37]
abbrev aC4:List Nat:=[0,1,2,3,4,5,6,7,8,9,10,11,12,13,14,15,16,17,18,19,20,21,22,23,24,25,26,27,28,29,30,31,32,33,34,35,36,37,38,39,40,41]
abbrev aC5:List Nat:=[0,1,2,3,4,5,6,7,8,9,10,11,12,13,14,15,16,17,18,19,20,21,22,23,24,25,26,27,28,29,30,31,32,33,34,35,36,37,38,39,40,41,42]
abbrev aC6:List Nat:=[0,1,2,3,4,5,6,7,8,9,10,11,12,13,14,15,16,17,18,19,20,21,22,23,24,25,26,27,28,29,30,31,32,33,34,35,36,37,38,39,40,41,42,43,44]
abbrev aIA:List Nat:=[0,1,2,3,4,5,6,7,8,9,10,11,12,13,14,15,16,17,18,19,20,21,22,23,24,25,26,27,28,29,30,31,32,33,34,35,36,37,38,39,40,41,42,43,44,45,46]
abbrev aC7:List Nat:=[0,1,2,3,4,5,6,7,8,9,10,11,12,13,14,15,16,17,18,19,20,21,22,23,24,25,26,27,28,29,30,31,32,33,34,35,36,37,38,39,40,41,42,43,44,45,46,47]
abbrev aC8:List Nat:=[0,1,2,3,4,5,6,7,8,9,10,11,12,13,14,15,16,17,18,19,20,21,22,23,24,25,26,27,28,29,30,31,32,33,34,35,36,37,38,39,40,41,42,43,44,45,46,47,48,49]
abbrev aC9:List Nat:=[0,1,2,3,4,5,6,7,8,9,10,11,12,13,14,15,16,17,18,19,20,21,22,23,24,25,26,27,28,29,30,31,32,33,34,35,36,37,38,39,40,41,42,43,44,45,46,47,48,49,50,51]
end Go.Lg
namespace Go.Lg
section
variable {α:Type} {a EU Iv MD Sn abv amB aNY aNZ x:α} {l l₁ FF:List α}
theorem so(h:List.Sublist l₁ FF):List.Sublist l₁ (a::FF):=h.cons a
theorem sk(h:List.Sublist l₁ FF):List.Sublist (a::l₁) (a::FF):=List.Sublist.cons_cons a h
theorem sr:List.Sublist l l:=.refl _
theorem sn:List.Sublist [] l:=List.nil_sublist _
theorem su(h:List.Sublist l₁ FF):∀ p∈l₁,p∈FF:=λ _ hp=>h.subset hp
theorem pp:∀ p∈l,p∈l:=λ _ h=>h
theorem z0:x∈x::l:=.head _
theorem z1:x∈a::x::l:=.tail _ z0
theorem z2:x∈a::EU::x::l:=.tail _ z1
theorem z3:x∈a::EU::Iv::x::l:=.tail _ z2
theorem z4:x∈a::EU::Iv::MD::x::l:=.tail _ z3
theorem z5:x∈a::EU::Iv::MD::Sn::x::l:=.tail _ z4
theorem z6:x∈a::EU::Iv::MD::Sn::abv::x::l:=.tail _ z5
theorem z7:x∈a::EU::Iv::MD::Sn::abv::amB::x::l:=.tail _ z6
end
section
variable {P:Program} {B:Base} {main:Bool} {af:Jd P B main} {c:Ctx} {R:az} {H:an} {st st':St} {o:Oper} {k:List Item}
theorem sq{x y:Code}(h:U af c R H st (.code x :: .code y::k)):U af c R H st (.code (.seq x y)::k):=U.seq h
theorem er{ops:Array Oper}(h:U af c R H st k):U af c R H st (.inRegion ops []::k):=U.aU h
theorem es{ops:Array Oper}{x y:Code}(h:U af c R H st (.code x :: .code y::k)):U af c R H st (.inRegion ops [] :: .code (.seq x y)::k):=U.aU (U.seq h)
theorem sg(is:List Nat){id:Nat}{ops:Array Oper}{y:Code}(h:U af c R H st (.inRegion ops is :: .code y::k))(hn:ops.size=is.length:=by rfl)(mF:List.range is.length=is:=by rfl):U af c R H st (.code (.seq (.region id ops false) y)::k):=U.seq (U.rg is h hn mF)
theorem nx(is:List Nat){id:Nat}{os ops:Array Oper}{y:Code}(h:U af c R H st (.inRegion ops is :: .code y::k))(hn:ops.size=is.length:=by rfl)(mF:List.range is.length=is:=by rfl):U af c R H st (.inRegion os [] :: .code (.seq (.region id ops false) y)::k):=U.aU (sg is h hn mF)
theorem sp(h:U af c R H st k):U af c R H st (.code .skip::k):=U.skip h
theorem vs[mQ P](m:Nat){ops:Array Oper}{is rG:List Nat}(ha:U af c R H st' (.inRegion ops rG::k))(h:AN (mQ.off P) ops c.n (is.take m) st=some st':=by rfl)(hr:is.drop m=rG:=by rfl)(hk:(c.kind == CallKind.early)=false:=by rfl):U af c R H st (.inRegion ops is::k):=U.vs m h hr ha hk
theorem ld(j:Nat){ops:Array Oper}{i d:Nat}{rest:List Nat}{x:Operand}{t e:TypeId}{b:Nat}{fz:Nat × Nat}{L:List Value}{v:Value}(ht:ic P t)(hm:(b,Obj.cells L.toArray e fz)∈H)(h:U af c R H ((d,v)::st) (.inRegion ops rest::k))(hj:L[j]? = some v:=by rfl)
  (ho:ops[i]? = some o:=by rfl) (hw:cE ops st o=some true:=by rfl) (hk:(c.kind == CallKind.early)=false:=by rfl) (au:o.op = .load t x:=by rfl) (hx:bg st x=some (.pointer (some ⟨b,0+j,none⟩)):=by rfl) (hd:o.dst=some d:=by rfl) (hl:Nat.blt d c.n=true:=by rfl):U af c R H st (.inRegion ops (i::rest)::k) :=
 U.ld ht ((aQ.box hm).one hj) h ho hw hk au hx hd hl
theorem lN(vs:List Value)(j n:Nat){ops:Array Oper}{i d:Nat}{rest:List Nat}{x:Operand}{t e:TypeId}{b:Nat}{fz:Nat × Nat}{L:List Value}{m:Nat}(ht:nA P t m)(hm:(b,Obj.cells L.toArray e fz)∈H)(h:U af c R H ((d,.agg vs.toArray)::st) (.inRegion ops rest::k))(hv:(L.drop j).take n=vs:=by rfl)
  (ho:ops[i]? = some o:=by rfl) (hw:cE ops st o=some true:=by rfl) (hk:(c.kind == CallKind.early)=false:=by rfl) (au:o.op = .load t x:=by rfl) (hx:bg st x=some (.pointer (some ⟨b,0+j,none⟩)):=by rfl) (hn:vs.length=m:=by rfl) (hd:o.dst=some d:=by rfl) (hl:Nat.blt d c.n=true:=by rfl):U af c R H st (.inRegion ops (i::rest)::k) :=
 U.s ho hw (Ox.bP au hx ht hn ((aQ.box hm).part hv) (by rw [hd]; exact hl) (.put hd) h) hk
theorem bx{ops:Array Oper}{i d:Nat}{rest:List Nat}{x:Operand}{t:TypeId}{vs:Array Value}(h:∀ b,U af c R ((b,.cells vs t)::H) ((d,.pointer (some ⟨b,0,none⟩))::st) (.inRegion ops rest::k))
  (ho:ops[i]? = some o:=by rfl) (hw:cE ops st o=some true:=by rfl) (hk:(c.kind == CallKind.early)=false:=by rfl) (au:o.op = .box t x:=by rfl) (hx:bg st x=some (.agg vs):=by rfl) (hd:o.dst=some d:=by rfl) (hl:Nat.blt d c.n=true:=by rfl):U af c R H st (.inRegion ops (i::rest)::k) :=
 U.s ho hw (Ox.abk au hx (by rw [hd]; exact hl) λ b _ _=>⟨_,.put hd,h b⟩) hk
theorem sc{α:Type}{t:Bool}{a b:Option α}{r:α}{x:Operand}{th el:Code}(hM:aa t a b=some r)(h1:t=true→a=some r→U af c R H st (.code th::k))(h2:t=false→b=some r→U af c R H st (.code el::k))(hx:bg st x=some (.bool t):=by rfl):U af c R H st (.code (.cond x th el)::k) :=
 bu hM (λ h hM=>U.fE hx h (h1 h hM)) (λ h hM=>U.eF hx h (h2 h hM))
theorem ls{α:Type}{K:cu α}{n:Nat}{ops:Array Oper}{i d:Nat}{rest:List Nat}{x:Operand}{t e:TypeId}{v:Value}{xs:List α}(hl:ae K n R v xs)(ht:P.underlying t=some (.slice e))(h:U af c R H ((d,.int .i64 (xs.length:Int))::st) (.inRegion ops rest::k))
  (ho:ops[i]? = some o:=by rfl) (hw:cE ops st o=some true:=by rfl) (hk:(c.kind == CallKind.early)=false:=by rfl) (au:o.op = .call ⟨.builtin .len,#[x],#[t]⟩:=by rfl) (hx:bg st x=some v:=by rfl) (hd:o.dst=some d:=by rfl) (hn:Nat.blt d c.n=true:=by rfl):U af c R H st (.inRegion ops (i::rest)::k) :=
 U.s ho hw (Ox.si au hx hl ht (by rw [hd]; exact hn) (.put hd) h) hk
theorem lr{α:Type}{K:cu α}{n:Nat}{ops:Array Oper}{i d:Nat}{rest:List Nat}{x:Operand}{t e:TypeId}{v:Value}{xs:List α}{H0:an}(hl:cK K n R H0 v xs)(ht:P.underlying t=some (.slice e))(h:U af c R H ((d,.int .i64 (xs.length:Int))::st) (.inRegion ops rest::k))
  (ho:ops[i]? = some o:=by rfl) (hw:cE ops st o=some true:=by rfl) (hk:(c.kind == CallKind.early)=false:=by rfl) (au:o.op = .call ⟨.builtin .len,#[x],#[t]⟩:=by rfl) (hx:bg st x=some v:=by rfl) (hd:o.dst=some d:=by rfl) (hn:Nat.blt d c.n=true:=by rfl):U af c R H st (.inRegion ops (i::rest)::k) :=
 U.s ho hw (Ox.WW au hx hl ht (by rw [hd]; exact hn) (.put hd) h) hk
theorem rt{fr:Frame}{cs:List Frame}{f:FuncId}{n:Nat}{fn:Func}{vs:List Value}{H':an}(hf:P.funcs[f]? = some fn)(hr:pJ P R H st fn.results.toList vs)(hs:List.Sublist H' H)(hj:af.J R H' (aX (fr.finish (iE vs)) cs)):U af ⟨f,.normal,none,n,[],fr::cs⟩ R H st (.code .ret::k) :=
 U.Dn hf hr (J.drop hs hj)
theorem ts(i:Nat){ops:Array Oper}{n d:Nat}{rem:List Nat}{S:Nat→an}{v:Value}{N:an}(D:List Nat)(ho:ops[i]? = some o)(xP:∀ j∈rem,j≠i→j ∉ D→∀ p∈N,p∈S j)(hS:∀ p∈N,p∈H)
  (hf:∀ R' H',aT R R'→(∀ p∈N,p∈H')→aW P B c o R' H' st λ R1 H1 w8=>R1=R'∧H1=H'∧w8=[(d,v)]) (h:Any af c S ops k n (rem.erase i) R H ((d,v)::st))
  (oV:o.dst=some d:=by rfl) (hw:cE ops st o=some true:=by rfl) (j6:qN ops rem i D=true:=by decide +kernel) (dR:rem.Nodup:=by decide):Any af c S ops k (n+1) rem R H st :=
 Any.Dv D ho oV hw j6 xP hS hf (aI.refl _) dR rfl h
theorem tl(i j:Nat){ops:Array Oper}{n d:Nat}{rem:List Nat}{x:Operand}{t e:TypeId}{b:Nat}{fz:Nat × Nat}{L:List Value}{v:Value}(ht:ic P t)(hm:(b,Obj.cells L.toArray e fz)∈H)(h:Any af c (λ _=>H) ops k n (rem.erase i) R H ((d,v)::st))(hj:L[j]? = some v:=by rfl)
  (ho:ops[i]? = some o:=by rfl) (au:o.op = .load t x:=by rfl) (hx:bg st x=some (.pointer (some ⟨b,0+j,none⟩)):=by rfl) (oV:o.dst=some d:=by rfl) (hl:Nat.blt d c.n=true:=by rfl) (hw:cE ops st o=some true:=by rfl) (j6:qN ops rem i (MR ops rem i)=true:=by decide +kernel) (dR:rem.Nodup:=by decide):Any af c (λ _=>H) ops k (n+1) rem R H st :=
 Any.tk i ho pp (λ _ _ _ hS=>Ox.cT au hx ht ((aQ.box (hS _ hm)).one hj) (by rw [oV]; exact hl) (.one oV) ⟨rfl,rfl,rfl⟩) h oV hw j6 dR
theorem tN(i:Nat)(vs:List Value)(j m:Nat){ops:Array Oper}{n d:Nat}{rem:List Nat}{x:Operand}{t e:TypeId}{b:Nat}{fz:Nat × Nat}{L:List Value}{q:Nat}(ht:nA P t q)(hm:(b,Obj.cells L.toArray e fz)∈H)(h:Any af c (λ _=>H) ops k n (rem.erase i) R H ((d,.agg vs.toArray)::st))(hv:(L.drop j).take m=vs:=by rfl)
  (ho:ops[i]? = some o:=by rfl) (au:o.op = .load t x:=by rfl) (hx:bg st x=some (.pointer (some ⟨b,0+j,none⟩)):=by rfl) (hq:vs.length=q:=by rfl) (oV:o.dst=some d:=by rfl) (hl:Nat.blt d c.n=true:=by rfl) (hw:cE ops st o=some true:=by rfl) (j6:qN ops rem i (MR ops rem i)=true:=by decide +kernel) (dR:rem.Nodup:=by decide):Any af c (λ _=>H) ops k (n+1) rem R H st :=
 Any.tk i ho pp (λ _ _ _ hS=>Ox.bP au hx ht hq ((aQ.box (hS _ hm)).part hv) (by rw [oV]; exact hl) (.one oV) ⟨rfl,rfl,rfl⟩) h oV hw j6 dR
theorem tw(i j:Nat){S:Nat→an}{ops:Array Oper}{n:Nat}{rem:List Nat}{a b:Oper}(h1:pI af c a R H st λ R' H' st'=>aT R R'∧(∀ p∈S i,p∈H→p∈H')∧Any af c S ops k n (rem.erase i) R' H' st')
  (h2:pI af c b R H st λ R' H' st'=>aT R R'∧(∀ p∈S j,p∈H→p∈H')∧Any af c S ops k n (rem.erase j) R' H' st') (ha:ops[i]? = some a:=by rfl) (hb:ops[j]? = some b:=by rfl) (mY:rem.filter (oz ops rem)=[i,j]:=by decide +kernel) (J1:cE ops st a=some true:=by rfl) (J2:cE ops st b=some true:=by rfl) (dR:rem.Nodup:=by decide):Any af c S ops k (n+1) rem R H st :=
 Any.aEd ha hb mY J1 J2 dR rfl rfl h1 h2
theorem ka{H X:an}:∀ p∈H,p∈X→p∈H:=λ _ h _=>h
theorem kp{R:az}{H X:an}{C:Prop}(h:C):aT R R∧(∀ p∈H,p∈X→p∈H)∧C:=⟨aT.refl _,ka,h⟩
theorem ku{H H' X:an}(h:List.Sublist H H'):∀ p∈H,p∈X→p∈H':=λ _ hp _=>h.subset hp
theorem rr{R:az}:aT R R:=aT.refl _
end
abbrev CZ:cu Int:=CI .i64
end Go.Lg
namespace Go.Lg
open Go.Conc
def tj(v:Value)(lo k:Nat):Value:=match v with | .slice A n cap=>.slice (if cap=lo then A else A.map (·.add (lo * k))) (n - lo) (cap - lo) | v=>v
def zT(xs:List Int)(lo:Nat):List Int:=xs.take lo++List.replicate (xs.length - lo) 0
theorem amJ{α:Type}{xs ys:List α}{lo hi:Int}(h:nN xs lo hi=some ys):lo.toNat≤xs.length:=by
 obtain ⟨h1,h2,h3,_⟩:=IB h
 omega
section
variable {P:Program} {B:Base} {main:Bool} {af:Jd P B main} {c:Ctx} {R:az} {H H':an} {st st':St} {o:Oper} {C:az→an→St→Prop}
theorem bz.view{α:Type}{K:cu α}{k e:Nat}{v:Value}{xs:List α}{Hs:an}{lo:Nat}(h:bz K k e R v xs Hs)(hs:∀ p∈Hs,p∈H):cK K k R H (tj v lo k) (xs.drop lo):=by
 obtain ⟨A,cap,es,rfl,hE,xR,hm⟩:=h.rd hs
 refine ⟨if cap=lo then A else A.map (·.add (lo * k)),cap - lo,es.drop (lo * k),by simp [tj],hE.drop,by simp; omega,λ dU=>?_⟩
 have bK:lo < xs.length:=by
  apply Classical.byContradiction
  intro hn
  exact dU (List.drop_eq_nil_of_le (by omega))
 obtain ⟨b,o',rfl,g2⟩:=hm (by rintro rfl; simp at bK)
 refine ⟨b,o'+lo * k,?_,λ j w hj=>?_⟩
 ·rw [if_neg (by omega)]; simp [sz]
 ·rw [List.getElem?_drop] at hj
  have:=g2 _ _ hj
  simpa [Nat.add_assoc] using this
theorem bz.afR{α:Type}{K:cu α}{k t e e':Nat}{v:Value}{xs ys:List α}{Hs:an}{lo:Int}(h:bz K k e R v xs Hs)(ht:mR P t e' k)(hc:nN xs lo (xs.length:Int)=some ys):Ey P t k v (xs.length:Int) lo (xs.length:Int) (tj v lo.toNat k):=by
 obtain ⟨h1,h2,h3,_⟩:=IB hc
 obtain ⟨A,cap,es,rfl,hE,xR,hm⟩:=h.rd (H:=Hs) (λ _ h=>h)
 intro ρ st x lo' hi bd hx hl hh
 rw [Int.toNat_natCast] at hh
 rw [hx]
 unfold Instr.sliceAt
 refine ai.bind (ai.underlying ht.1) ?_
 unfold Instr.slice
 refine ai.bind (ai.underlying ht.1) (ai.bind (Pr bd hl hh ⟨h1,h2,h3⟩ xR) (ai.bind ht.2 ?_))
 simp only [tj,Int.toNat_natCast]
 exact ai.pure _
theorem bz.front{α:Type}{K:cu α}{k t e e':Nat}{v:Value}{xs ys:List α}{Hs:an}{hi:Int}(h:bz K k e R v xs Hs)(ht:mR P t e' k)(hc:nN xs 0 hi=some ys):∃ v',bz K k e R v' ys Hs∧Ey P t k v (xs.length:Int) 0 hi v':=by
 obtain ⟨h1,h2,h3,rfl⟩:=IB hc
 have key:∀ A cap,v = .slice A xs.length cap→xs.length≤cap→Ey P t k v (xs.length:Int) 0 hi (.slice (if cap=0 then A else A.map (·.add (0 * k))) (hi.toNat - 0) (cap - 0)):=by
  rintro A cap rfl xR ρ st x lo' iB bd hx hl hh
  rw [Int.toNat_natCast] at hh
  rw [hx]
  unfold Instr.sliceAt
  refine ai.bind (ai.underlying ht.1) ?_
  unfold Instr.slice
  exact ai.bind (ai.underlying ht.1) (ai.bind (Pr bd hl hh ⟨h1,h2,h3⟩ xR) (ai.bind ht.2 (ai.pure _)))
 rcases h with ⟨A,rfl,rfl,rfl⟩ | ⟨b,cap,cs,es,rfl,rfl,g3,g4,g5,g6⟩
 ·have:=key A 0 rfl (Nat.le_refl _)
  have h0:hi.toNat=0:=by simp at h3; omega
  rw [h0] at this
  exact ⟨_,.inl ⟨A,rfl,by simp,rfl⟩,by simpa using this⟩
 ·refine ⟨_,?_,key _ cap rfl g4⟩
  have Ak:((xs.take hi.toNat).drop (0:Int).toNat).length=hi.toNat:=by simp; omega
  refine .inr ⟨b,cap,cs,es.take (hi.toNat * k),?_,rfl,g3,by rw [Ak]; omega,by simpa using g5.take,λ j w hj=>?_⟩
  ·rw [Ak]
   congr 1
   split <;> simp [sz]
  ·rw [List.getElem?_take] at hj
   split at hj
   ·exact g6 _ _ hj
   ·cases hj
theorem Ox.azA{α:Type}{K:cu α}{k e' lo:Nat}{x:Operand}{t e:TypeId}{v:Value}{xs:List α}{Hs:an}(au:o.op = .call ⟨.builtin .len,#[x],#[t]⟩)(hx:bg st x=some (tj v lo k))(hl:bz K k e' R v xs Hs)(ht:P.underlying t=some (.slice e))
  (hd:bT o.dst c.n) (hs:aI (bU o.dst (.int .i64 ((xs.drop lo).length:Int)) st) st') (h:C R H st'):aW P B c o R H st C :=
 Ox.WW au hx (hl.view (H:=Hs) (λ _ h=>h)) ht hd hs h
theorem Ox.amF{t e lo:Nat}(G:an→an){x:Operand}{v:Value}{xs:List Int}{Hs:an}(au:o.op = .call ⟨.builtin .clear,#[x],#[t]⟩)(hx:bg st x=some (tj v lo 1))(ht:mR P t e 1)(hz:jC P e #[.int .i64 0])(hG:lu G)
  (hO:bz (CI .i64) 1 e R v xs Hs) (hlo:lo≤xs.length) (hd:bT o.dst c.n) (hC:∀ dT,bz (CI .i64) 1 e R v (zT xs lo) dT→∃ st',aI (bU o.dst (.tuple #[]) st) st'∧C R (G dT) st'):aW P B c o R (G Hs) st C:=by
 refine ⟨by rw [au]; rfl,hd,λ ρ bd=>?_⟩
 simp only [execOp,au]
 refine ai.eX (a:=⟨.builtin .clear #[t] o.type (#[x].map λ | .const _=>true | _=>false),#[x].map ρ⟩) (ai.pure _) ?_
 simp only [invoke,builtin]
 have e1:(#[x].map ρ)=#[tj v lo 1]:=by simp [bd x _ hx]
 rw [e1]
 have fin:∀ dT,bz (CI .i64) 1 e R v (zT xs lo) dT→aR P B R (G dT) (pure (Value.tuple #[])) λ a R' H'=>aR P B R' H' (pure (Next.value a)) λ nx R' H'=>∃ v,(nx = .value v∨(nx = .skip∧v=undef))∧∃ st',aI (bU o.dst v st) st'∧C R' H' st':=λ dT h=>by
  obtain ⟨st',hs,hC'⟩:=hC dT h
  exact aR.pure (aR.pure ⟨_,.inl rfl,st',hs,hC'⟩)
 refine aR.bind ?_
 unfold Builtin.clear_
 refine ai.eX (ai.underlying ht.1) ?_
 by_cases hn:xs.length - lo=0
 ·have hv:∃ A cap,tj v lo 1 = .slice A 0 cap:=by
   obtain ⟨A,cap,es,rfl,_⟩:=hO.rd (H:=Hs) (λ _ h=>h)
   exact ⟨_,_,by simp only [tj,hn]; rfl⟩
  obtain ⟨A,cap,hv⟩:=hv
  rw [hv]
  have ZV:zT xs lo=xs:=by
   unfold zT
   rw [hn,List.replicate_zero,List.append_nil,List.take_of_length_le (by omega)]
  rw [ZV] at fin
  cases A with
  | none=>exact aR.bind (aR.pure (fin Hs hO))
  | some a=>exact aR.bind (aR.pure (fin Hs hO))
 ·rcases hO with ⟨A,rfl,rfl,rfl⟩ | ⟨b,cap,cs,es,rfl,rfl,g3,g4,g5,g6⟩
  ·simp at hn
  ·have hv:tj (.slice (some ⟨b,0,none⟩) xs.length cap) lo 1 = .slice (some ⟨b,lo,none⟩) (xs.length - lo) (cap - lo):=by
    simp only [tj]
    rw [if_neg (by omega)]
    simp [sz]
   rw [hv]
   obtain ⟨m,hm⟩:∃ m,xs.length - lo=m+1:=⟨xs.length - lo - 1,by omega⟩
   rw [hm]
   dsimp only
   obtain ⟨z0,hz0,hzc⟩:=hz
   refine ai.eX hz0 (aR.bind ?_)
   have UK:(Builtin.zeroCells z0.cells (m+1)).toList=List.replicate (m+1) (Value.int .i64 0):=by
    rw [hzc]
    apply List.ext_getElem?
    intro j
    simp only [Builtin.zeroCells]
    by_cases hj:j < m+1
    ·simp [hj,Nat.mod_one]
    ·simp [hj]
   rw [UK]
   have fN:lo+(m+1)≤cs.size:=by omega
   refine aR.given λ dR=>aR.O6 _ cs lo 0 (G [(b,.cells cs e (0,0))]) (G [(b,.cells (fU cs lo (List.replicate (m+1) (Value.int .i64 0))) e (0,0))]) (λ u hu=>by rw [List.eq_of_mem_replicate hu]; rfl) (by simp; omega) (by simpa using lu.set hG) dR ?_
   have ac9:(zT xs lo).length=xs.length:=by simp [zT]; omega
   refine fin _ (.inr ⟨b,cap,fU cs lo (List.replicate (m+1) (Value.int .i64 0)),es.take lo++List.replicate (m+1) (Value.int .i64 0),by rw [ac9],rfl,by rw [KY]; exact g3,by rw [ac9]; exact g4,?_,λ j w hj=>?_⟩)
   ·have h1:=g5.take (n:=lo)
    rw [Nat.mul_one] at h1
    unfold zT
    rw [hm]
    refine h1.append ?_
    refine ⟨by simp,λ i x hx=>?_⟩
    rw [List.getElem?_replicate] at hx
    split at hx
    ·rename_i hi
     cases hx
     refine ⟨[.int .i64 0],rfl,rfl,λ j w hj=>?_⟩
     have hj1:=(List.getElem?_eq_some_iff.1 hj).1
     have hj0:j=0:=by simp at hj1; omega
     subst hj0
     rw [Nat.mul_one,List.getElem?_replicate,if_pos (by omega)]
     exact hj
    ·cases hx
   ·have l8:=g5.len
    rw [Nat.mul_one] at l8
    rw [Dm _ _ _ _ (by simp; omega)]
    rcases Nat.lt_or_ge j lo with Fc | Fc
    ·rw [List.getElem?_append_left (by simp; omega),List.getElem?_take,if_pos Fc] at hj
     rw [if_neg (by omega)]
     exact g6 _ _ hj
    ·rw [List.getElem?_append_right (by simp; omega)] at hj
     have ZW:(es.take lo).length=lo:=by simp; omega
     rw [ZW] at hj
     have bK:=(List.getElem?_eq_some_iff.1 hj).1
     rw [if_pos ⟨Fc,by simp at bK ⊢; omega⟩]
     exact hj
end
end Go.Lg
namespace Go.Lg
def ag{α:Type}(a b:Option α):Prop:=∀ r,a=some r→b=some r
theorem ag.refl{α:Type}(a:Option α):ag a a:=λ _ h=>h
theorem ag.none{α:Type}{b:Option α}:ag none b:=λ _ h=>by cases h
theorem ag.bind{α β:Type}{a a':Option α}{f f':α→Option β}(h:ag a a')(hf:∀ x,ag (f x) (f' x)):ag (a.bind f) (a'.bind f'):=by
 intro r hr
 obtain ⟨x,hx,hr⟩:=aj hr
 rw [h x hx]
 exact hf x r hr
theorem ag.aa{α:Type}{t:Bool}{a a' b b':Option α}(h:ag a a')(h':ag b b'):ag (aa t a b) (aa t a' b'):=by
 cases t
 ·exact h'
 ·exact h
def qI{S O:Type}(body:S→Option (S ⊕ O))(s:S):Option O:=m6 body 200 s
theorem ag.m6{S O:Type}{body It:S→Option (S ⊕ O)}(h:∀ s,ag (body s) (It s)):∀ (n:Nat) (s:S),ag (Go.Lg.m6 body n s) (bC It s)
 | 0,_=>λ _ hr=>by cases hr
 | n+1,s=>λ r hr=>by
  simp only [Go.Lg.m6] at hr
  cases hb:body s with
  | none=>rw [hb] at hr; cases hr
  | some x =>
   rw [hb] at hr
   have gh:=h s x hb
   cases x with
   | inl s'=>rw [Hq gh]; exact ag.m6 h n s' r hr
   | inr o=>cases hr; exact za gh
theorem ag.loop{S O:Type}{body It:S→Option (S ⊕ O)}{s:S}(h:∀ s,ag (body s) (It s)):ag (qI body s) (bC It s):=ag.m6 h 200 s
theorem ag.elim{α β γ:Type}{f f':α→Option γ}{g g':β→Option γ}(h:∀ x,ag (f x) (f' x))(h':∀ x,ag (g x) (g' x))(x:α ⊕ β):ag (Sum.elim f g x) (Sum.elim f' g' x):=by
 cases x
 ·exact h _
 ·exact h' _
theorem ag.gu{α S O:Type}{f f':α→S→Option (S ⊕ O)}(h:∀ x s,ag (f x s) (f' x s))(x:α)(s:S ⊕ O):ag (Go.Lg.gu f x s) (Go.Lg.gu f' x s):=by
 intro r hr
 cases s with
 | inr s=>cases hr
 | inl s =>
  simp only [Go.Lg.gu] at hr ⊢
  cases hf:f x s with
  | none=>rw [hf] at hr; cases hr
  | some z=>rw [hf] at hr; rw [h x s z hf]; exact hr
theorem ag.mapM{α β:Type}{f f':α→Option β}(h:∀ x,ag (f x) (f' x)):∀ l:List α,ag (l.mapM f) (l.mapM f')
 | []=>ag.refl _
 | a::l=>by
  intro r hr
  rw [List.mapM_cons] at hr ⊢
  cases ha:f a with
  | none=>rw [ha] at hr; simp at hr
  | some b =>
   cases hl:l.mapM f with
   | none=>rw [ha,hl] at hr; simp at hr
   | some bs =>
    rw [ha,hl] at hr
    rw [h a b ha,ag.mapM h l bs hl]
    exact hr
end Go.Lg
namespace Go.Lg
abbrev ah:Value:=.slice none 0 0
theorem bI{α β:Sort _}{a:α}{b:β}:a=a∧b=b:=⟨rfl,rfl⟩
theorem aA{α β γ:Sort _}{a:α}{b:β}{d:γ}:a=a∧b=b∧d=d:=⟨rfl,rfl,rfl⟩
theorem ay{st st':St}(h:bR st st'):aI st st':=bR.sub h
theorem m9{a0:Option Value}:a0=a0∧True:=⟨rfl,trivial⟩
theorem dV{a0 a1:Option Value}:a0=a0∧a1=a1∧True:=⟨rfl,rfl,trivial⟩
theorem dS{a0 a1 a2:Option Value}:a0=a0∧a1=a1∧a2=a2∧True:=⟨rfl,rfl,rfl,trivial⟩
theorem cz{a0 a1 a2 a3:Option Value}:a0=a0∧a1=a1∧a2=a2∧a3=a3∧True:=⟨rfl,rfl,rfl,rfl,trivial⟩
theorem fj{a0 a1 a2 a3 a4:Option Value}:a0=a0∧a1=a1∧a2=a2∧a3=a3∧a4=a4∧True:=⟨rfl,rfl,rfl,rfl,rfl,trivial⟩
theorem na{a0 a1 a2 a3 a4 a5:Option Value}:a0=a0∧a1=a1∧a2=a2∧a3=a3∧a4=a4∧a5=a5∧True:=⟨rfl,rfl,rfl,rfl,rfl,rfl,trivial⟩
theorem gH{a0 a1 a2 a3 a4 a5 a6:Option Value}:a0=a0∧a1=a1∧a2=a2∧a3=a3∧a4=a4∧a5=a5∧a6=a6∧True:=⟨rfl,rfl,rfl,rfl,rfl,rfl,rfl,trivial⟩
theorem nQ{a0 a1 a2 a3 a4 a5 a6 a7:Option Value}:a0=a0∧a1=a1∧a2=a2∧a3=a3∧a4=a4∧a5=a5∧a6=a6∧a7=a7∧True:=⟨rfl,rfl,rfl,rfl,rfl,rfl,rfl,rfl,trivial⟩
theorem zl{a0 a1 a2 a3 a4 a5 a6 a7 a8:Option Value}:a0=a0∧a1=a1∧a2=a2∧a3=a3∧a4=a4∧a5=a5∧a6=a6∧a7=a7∧a8=a8∧True:=⟨rfl,rfl,rfl,rfl,rfl,rfl,rfl,rfl,rfl,trivial⟩
theorem Ga{a0 a1 a2 a3 a4 a5 a6 a7 a8 a9:Option Value}:a0=a0∧a1=a1∧a2=a2∧a3=a3∧a4=a4∧a5=a5∧a6=a6∧a7=a7∧a8=a8∧a9=a9∧True:=⟨rfl,rfl,rfl,rfl,rfl,rfl,rfl,rfl,rfl,rfl,trivial⟩
theorem LJ{a0 a1 a2 a3 a4 a5 a6 a7 a8 a9 mS:Option Value}:a0=a0∧a1=a1∧a2=a2∧a3=a3∧a4=a4∧a5=a5∧a6=a6∧a7=a7∧a8=a8∧a9=a9∧mS=mS∧True:=⟨rfl,rfl,rfl,rfl,rfl,rfl,rfl,rfl,rfl,rfl,rfl,trivial⟩
theorem aep{a0 a1 a2 a3 a4 a5 a6 a7 a8 a9 mS qq:Option Value}:a0=a0∧a1=a1∧a2=a2∧a3=a3∧a4=a4∧a5=a5∧a6=a6∧a7=a7∧a8=a8∧a9=a9∧mS=mS∧qq=qq∧True:=⟨rfl,rfl,rfl,rfl,rfl,rfl,rfl,rfl,rfl,rfl,rfl,rfl,trivial⟩
theorem aOC{a0 a1 a2 a3 a4 a5 a6 a7 a8 a9 mS qq tV:Option Value}:a0=a0∧a1=a1∧a2=a2∧a3=a3∧a4=a4∧a5=a5∧a6=a6∧a7=a7∧a8=a8∧a9=a9∧mS=mS∧qq=qq∧tV=tV∧True:=⟨rfl,rfl,rfl,rfl,rfl,rfl,rfl,rfl,rfl,rfl,rfl,rfl,rfl,trivial⟩
theorem uY{a0 a1 a2 a3 a4 a5 a6 a7 a8 a9 mS qq tV zL:Option Value}:a0=a0∧a1=a1∧a2=a2∧a3=a3∧a4=a4∧a5=a5∧a6=a6∧a7=a7∧a8=a8∧a9=a9∧mS=mS∧qq=qq∧tV=tV∧zL=zL∧True:=⟨rfl,rfl,rfl,rfl,rfl,rfl,rfl,rfl,rfl,rfl,rfl,rfl,rfl,rfl,trivial⟩
theorem aOD{a0 a1 a2 a3 a4 a5 a6 a7 a8 a9 mS qq tV zL Ig:Option Value}:a0=a0∧a1=a1∧a2=a2∧a3=a3∧a4=a4∧a5=a5∧a6=a6∧a7=a7∧a8=a8∧a9=a9∧mS=mS∧qq=qq∧tV=tV∧zL=zL∧Ig=Ig∧True:=⟨rfl,rfl,rfl,rfl,rfl,rfl,rfl,rfl,rfl,rfl,rfl,rfl,rfl,rfl,rfl,trivial⟩
theorem aOE{a0 a1 a2 a3 a4 a5 a6 a7 a8 a9 mS qq tV zL Ig a15:Option Value}:a0=a0∧a1=a1∧a2=a2∧a3=a3∧a4=a4∧a5=a5∧a6=a6∧a7=a7∧a8=a8∧a9=a9∧mS=mS∧qq=qq∧tV=tV∧zL=zL∧Ig=Ig∧a15=a15∧True:=⟨rfl,rfl,rfl,rfl,rfl,rfl,rfl,rfl,rfl,rfl,rfl,rfl,rfl,rfl,rfl,rfl,trivial⟩
section
variable {P:Program} {B:Base} {main:Bool} {af:Jd P B main} {c:Ctx} {R:az} {H:an} {st st':St} {o:Oper} {k:List Item} {ops:Array Oper} {i d:Nat} {rest:List Nat} {t e:TypeId}
theorem cS{x y:Operand}{v:Value}{kd:IntKind}{j:Int}{b n:Nat}(hv:zI P t v j b n)(h:U af c R H ((d,.pointer (some ⟨b,n,none⟩))::st) (.inRegion ops rest::k))(ho:ops[i]? = some o:=by rfl)(hw:cE ops st o=some true:=by rfl)(hk:(c.kind == CallKind.early)=false:=by rfl)
  (au:o.op = .indexAddr t x y:=by rfl) (hx:bg st x=some v:=by rfl) (hy:bg st y=some (.int kd j):=by rfl) (hd:o.dst=some d:=by rfl) (hl:Nat.blt d c.n=true:=by rfl):U af c R H st (.inRegion ops (i::rest)::k) :=
 U.s ho hw (Ox.dm au hx hy hv (by rw [hd]; exact hl) (.put hd) h) hk
theorem cy(cs:Array Value)(ht:jC P t cs)(h:∀ b,U af c R ((b,.cells cs t)::H) ((d,.pointer (some ⟨b,0,none⟩))::st) (.inRegion ops rest::k))(ho:ops[i]? = some o:=by rfl)(hw:cE ops st o=some true:=by rfl)(hk:(c.kind == CallKind.early)=false:=by rfl)
  (au:o.op = .alloc t:=by rfl) (hd:o.dst=some d:=by rfl) (hl:Nat.blt d c.n=true:=by rfl):U af c R H st (.inRegion ops (i::rest)::k) :=
 U.s ho hw (Ox.alloc au ht (by rw [hd]; exact hl) λ b _ _=>⟨_,.put hd,h b⟩) hk
theorem eY(cells:Array Value){parts:Array (Nat × Operand)}{ps:List (Nat × Value)}{places:List (Nat × Nat)}{z:Array Value}(ht:vQ P t places z)(h:U af c R H ((d,.agg cells)::st) (.inRegion ops rest::k))(ho:ops[i]? = some o:=by rfl)(hw:cE ops st o=some true:=by rfl)(hk:(c.kind == CallKind.early)=false:=by rfl)
  (au:o.op = .build t parts:=by rfl) (hp:AL st parts.toList=some ps:=by rfl) (hf:Instr.fill (places.toArray[·]?) z ps=some cells:=by repeat first | refine nj rfl rfl rfl rfl ?_ | exact nS) (hd:o.dst=some d:=by rfl) (hl:Nat.blt d c.n=true:=by rfl):U af c R H st (.inRegion ops (i::rest)::k) :=
 U.s ho hw (Ox.build au ht hp hf (by rw [hd]; exact hl) (.put hd) h) hk
theorem gb(cells:Array Value){n len:Nat}{parts:Array (Nat × Operand)}{ps:List (Nat × Value)}{z base:Array Value}(ht:tQ P t e n z)(hb:(Array.range (len * n)).map (z[· % z.size]!)=base)(h:∀ b,U af c R ((b,.cells cells e)::H) ((d,.slice (some ⟨b,0,none⟩) len len)::st) (.inRegion ops rest::k))
  (ho:ops[i]? = some o:=by rfl) (hw:cE ops st o=some true:=by rfl) (hk:(c.kind == CallKind.early)=false:=by rfl) (au:o.op = .buildSlice t len parts:=by rfl) (hp:AL st parts.toList=some ps:=by rfl) (hlen:len * n≤16777216:=by decide) (hf:Instr.fill (λ j=>some (j * n,n)) base ps=some cells:=by repeat first | refine nj rfl rfl rfl rfl ?_ | exact nS) (hd:o.dst=some d:=by rfl) (hl:Nat.blt d c.n=true:=by rfl):U af c R H st (.inRegion ops (i::rest)::k) :=
 U.s ho hw (Ox.buildSlice au ht hp hlen hb hf (by rw [hd]; exact hl) λ b _ _=>⟨_,.put hd,h b⟩) hk
theorem lP(cs':Array Value){x y:Operand}{b off:Nat}{v:Value}{cs:Array Value}{H':an}(ht:ic P t)(hs:fp H b (.cells cs e (0,0)) (.cells cs' e (0,0)) H')(h:U af c R H' st (.inRegion ops rest::k))(ho:ops[i]? = some o:=by rfl)(hw:cE ops st o=some true:=by rfl)(hk:(c.kind == CallKind.early)=false:=by rfl)
  (au:o.op = .store t x y:=by rfl) (hx:bg st x=some (.pointer (some ⟨b,off,none⟩)):=by rfl) (hy:bg st y=some v:=by rfl) (hv:v.oneCell'=true:=by rfl) (hl:Nat.blt off cs.size=true:=by rfl) (qE:cs.setIfInBounds off v=cs':=by rfl) (hd:o.dst=none:=by rfl):U af c R H st (.inRegion ops (i::rest)::k) :=
 U.s ho hw (Ox.gE au hx hy ht hv hs hl qE hd (.refl _) h) hk
theorem dP(cs':Array Value){x y:Operand}{b off n:Nat}{vs cs:Array Value}{H':an}(ht:nA P t n)(hs:fp H b (.cells cs e (0,0)) (.cells cs' e (0,0)) H')(h:U af c R H' st (.inRegion ops rest::k))(ho:ops[i]? = some o:=by rfl)(hw:cE ops st o=some true:=by rfl)(hk:(c.kind == CallKind.early)=false:=by rfl)
  (au:o.op = .store t x y:=by rfl) (hx:bg st x=some (.pointer (some ⟨b,off,none⟩)):=by rfl) (hy:bg st y=some (.agg vs):=by rfl) (hn:vs.size=n:=by rfl) (h1:∀ u∈vs.toList,u.oneCell'=true:=by repeat first | exact bl | refine cw rfl ?_ | refine cw (ae.one (by assumption)) ?_ | refine cw (cK.one (by assumption)) ?_ | refine cw (bz.one (by assumption)) ?_ | refine cw (aKc.one (by assumption)) ?_ | refine cw (aKd.one (by assumption)) ?_ | refine cw (mq.one (by assumption)) ?_) (hl:Nat.ble (off+n) cs.size=true:=by rfl) (qE:fU cs off vs.toList=cs':=by rfl) (hd:o.dst=none:=by rfl):U af c R H st (.inRegion ops (i::rest)::k) :=
 U.s ho hw (Ox.cp au hx hy ht hn h1 hs hl qE hd (.refl _) h) hk
theorem D8{x:Operand}{u:TypeId}{kd ks k0:IntKind}{a:Int}(ht:P.underlying t=some (.int k0))(hu:P.underlying u=some (.int kd))(h:U af c R H ((d,.int kd (kd.wrap a))::st) (.inRegion ops rest::k))(ho:ops[i]? = some o:=by rfl)(hw:cE ops st o=some true:=by rfl)(hk:(c.kind == CallKind.early)=false:=by rfl)
  (au:o.op = .convert t u x:=by rfl) (hx:bg st x=some (.int ks a):=by rfl) (hd:o.dst=some d:=by rfl) (hl:Nat.blt d c.n=true:=by rfl):U af c R H st (.inRegion ops (i::rest)::k) :=
 U.s ho hw (Ox.ait au hx ht hu (by rw [hd]; exact hl) (.put hd) h) hk
end
end Go.Lg
