/- Models, operations, lists, maps, arrays, ranges over functions. Conditions: none. -/
import Derived.Test.YtihapemckcdicaaGreatDoorQVLgA
import Derived.Laws.RangeAny
namespace Go.Lg
open Go.Conc
def mJ{S O:Type}(body:S→Option (S ⊕ O)):Nat→S→Option O
 | 0,_=>none
 | n+1,s=>match body s with
  | none=>none
  | some (.inl s')=>mJ body n s'
  | some (.inr o)=>some o
open Classical in
noncomputable def bH{S O:Type}(body:S→Option (S ⊕ O))(s:S):Option O:=if h:∃ o n,mJ body n s=some o then some h.choose else none
theorem WH{S O:Type}{body:S→Option (S ⊕ O)}:∀ {n m:Nat} {s:S} {o:O},n≤m→mJ body n s=some o→mJ body m s=some o
 | 0,_,_,_,_,h=>by cases h
 | n+1,0,_,_,hm,_=>by omega
 | n+1,m+1,s,o,hm,h=>by
  simp only [mJ] at h ⊢
  cases hb:body s with
  | none=>rw [hb] at h; cases h
  | some x=>cases x with
   | inl s'=>rw [hb] at h; exact WH (by omega) h
   | inr o'=>rw [hb] at h; exact h
theorem WK{S O:Type}{body:S→Option (S ⊕ O)}{n:Nat}{s:S}{o:O}(h:mJ body n s=some o):bH body s=some o:=by
 have hex:∃ o n,mJ body n s=some o:=⟨o,n,h⟩
 unfold bH
 rw [dif_pos hex]
 obtain ⟨m,hm⟩:=hex.choose_spec
 have h1:=WH (Nat.le_max_left n m) h
 have h2:=WH (Nat.le_max_right n m) hm
 rw [h1] at h2
 exact h2.symm
theorem WI{S O:Type}{body:S→Option (S ⊕ O)}{s:S}{o:O}(h:bH body s=some o):∃ n,mJ body n s=some o:=by
 unfold bH at h
 split at h
 ·rename_i hex
  cases h
  exact hex.choose_spec
 ·cases h
theorem lR{S O:Type}{body:S→Option (S ⊕ O)}{s:S}{o:O}(h:body s=some (.inr o)):bH body s=some o :=
 WK (n:=1) (by simp [mJ,h])
theorem vF{S O:Type}{body:S→Option (S ⊕ O)}{s s':S}(h:body s=some (.inl s')):bH body s=bH body s':=by
 cases h':bH body s' with
 | some o =>
  obtain ⟨n,hn⟩:=WI h'
  exact WK (n:=n+1) (by simp [mJ,h,hn])
 | none =>
  cases h2:bH body s with
  | none=>rfl
  | some o =>
   obtain ⟨n,hn⟩:=WI h2
   cases n with
   | zero=>cases hn
   | succ n =>
    simp only [mJ,h] at hn
    rw [WK hn] at h'
    cases h'
theorem ah{α β:Type}{o:Option α}{f:α→Option β}{r:β}(h:o.bind f=some r):∃ x,o=some x∧f x=some r:=by
 cases o with
 | none=>cases h
 | some x=>exact ⟨x,rfl,h⟩
def af{α:Type}(t:Bool)(a b:Option α):Option α:=match t with | true=>a | false=>b
theorem bK{α:Type}{t:Bool}{a b:Option α}{r:α}{G:Prop}(h:af t a b=some r)(h1:t=true→a=some r→G)(h2:t=false→b=some r→G):G:=by
 cases t with
 | true=>exact h1 rfl h
 | false=>exact h2 rfl h
theorem aa{α:Type}{a b:α}(h:some a=some b):a=b:=Option.some.inj h
def idx{α:Type}(xs:List α)(i:Int):Option α:=if 0≤i then xs[i.toNat]? else none
def gR{α:Type}(xs ys:List α):Option (List α):=if xs.length+ys.length≤16777216 then some (xs++ys) else none
def lK{α:Type}(xs:List α)(lo hi:Int):Option (List α):=if 0≤lo∧lo≤hi∧hi≤xs.length then some ((xs.take hi.toNat).drop lo.toNat) else none
theorem tQ{α:Type}{xs:List α}{i:Int}{x:α}(h:idx xs i=some x):0≤i∧i < xs.length∧xs[i.toNat]? = some x:=by
 unfold idx at h
 split at h
 ·have:=(List.getElem?_eq_some_iff.1 h).1
  exact ⟨‹_›,by omega,h⟩
 ·cases h
theorem ajT{α:Type}{xs ys zs:List α}(h:gR xs ys=some zs):xs.length+ys.length≤16777216∧zs=xs++ys:=by
 unfold gR at h
 split at h
 ·cases h; exact ⟨‹_›,rfl⟩
 ·cases h
section
variable {P:Program} {B:Base} {main:Bool} {ae:Jd P B main} {c:Ctx} {R:ax} {H:aj} {st st':St} {k:List Item}
theorem At.bH{S O ρ:Type}{body:S→Option (S ⊕ O)}{cont:O→Option ρ}{s0:S}{r:ρ}{code:Code}(hM:(bH body s0).bind cont=some r)(I:S→ax→aj→St→Prop)
  (Sy:∀ s R H st,I s R H st→∀ x,body s=some x→(∀ s',x = .inl s'→∀ R' H' st',I s' R' H' st'→At ae c R' H' st' (.inLoop code::k))→(∀ o,x = .inr o→cont o=some r)→At ae c R H st (.code code :: .inLoop code::k))
  (h0:I s0 R H st):At ae c R H st (.code (.loop code)::k):=by
 obtain ⟨o,hl,hc⟩:=ah hM
 obtain ⟨n,hn⟩:=WI hl
 clear hM hl
 have key:∀ n s R H st,mJ body n s=some o→I s R H st→At ae c R H st (.code code :: .inLoop code::k):=by
  intro n
  induction n with
  | zero=>intro s R H st h; cases h
  | succ n ih =>
   intro s R H st h hI
   simp only [mJ] at h
   cases hb:body s with
   | none=>rw [hb] at h; cases h
   | some x =>
    rw [hb] at h
    refine Sy s R H st hI x hb (λ s' hx R' H' st' HO=>?_) (λ o' hx=>?_)
    ·subst hx; exact At.inLoop (ih s' R' H' st' h HO)
    ·subst hx; cases h; exact hc
 exact At.enterLoop (key n s0 R H st hn h0)
theorem At.known{t:Nat}{x b:Bool}{todo:List Item}(hx:st.lookup t=some (.bool x))(hb:x=b)(h:At ae c R H ((t,.bool b)::st) todo):At ae c R H st todo:=by
 subst hb; exact λ tmps ht=>h tmps (ht.afu hx)
theorem Any.known{S:Nat→aj}{ops:Array Oper}{n:Nat}{rem:List Nat}{t:Nat}{x b:Bool}(hx:st.lookup t=some (.bool x))(hb:x=b)(h:Any ae c S ops k n rem R H ((t,.bool b)::st)):Any ae c S ops k n rem R H st:=by
 subst hb; exact ⟨h.1,λ tmps ht=>h.2 tmps (ht.afu hx)⟩
theorem At.fA{x:Operand}{th el:Code}{t:Bool}(hx:bl st x=some (.bool t))(ht:t=true)(h:At ae c R H st (.code th::k)):At ae c R H st (.code (.cond x th el)::k):=by subst ht; exact At.cond_true hx h
theorem At.eD{x:Operand}{th el:Code}{t:Bool}(hx:bl st x=some (.bool t))(ht:t=false)(h:At ae c R H st (.code el::k)):At ae c R H st (.code (.cond x th el)::k):=by subst ht; exact At.cond_false hx h
end
abbrev cH(α:Type):=ax→α→List Value→Prop
class CM {α:Type} (C:cH α):Prop where
 mono:∀ {R R':ax} {x:α} {es:List Value},aQ R R'→C R x es→C R' x es
 one:∀ {R:ax} {x:α} {es:List Value},C R x es→∀ u∈es,u.oneCell'=true
def CI(kd:IntKind):cH Int:=λ _ x es=>es=[.int kd x]
def CS:cH ByteArray:=λ _ x es=>es=[.string x]
instance {kd:IntKind}:CM (CI kd):=⟨λ _ h=>h,λ h=>by cases h; simp [Value.oneCell']⟩
instance:CM CS:=⟨λ _ h=>h,λ h=>by cases h; simp [Value.oneCell']⟩
structure bh {α:Type} (C:cH α) (k:Nat) (R:ax) (xs:List α) (es:List Value):Prop where
 len:es.length=xs.length * k
 at_:∀ (i:Nat) (x:α),xs[i]? = some x→∃ e1:List Value,C R x e1∧e1.length=k∧∀ (j:Nat) (w:Value),e1[j]? = some w→es[i * k+j]? = some w
theorem bh.nil{α:Type}{C:cH α}{k:Nat}{R:ax}:bh C k R [] []:=⟨by simp,by simp⟩
theorem bh.mono{α:Type}{C:cH α}[CM C]{k:Nat}{R R':ax}{xs:List α}{es:List Value}(h:bh C k R xs es)(hR:aQ R R'):bh C k R' xs es :=
 ⟨h.len,λ i x hx=>by obtain ⟨e1,h1,h2,h3⟩:=h.at_ i x hx; exact ⟨e1,CM.mono hR h1,h2,h3⟩⟩
theorem bh.append{α:Type}{C:cH α}{k:Nat}{R:ax}{xs ys:List α}{es fs:List Value}(h:bh C k R xs es)(g:bh C k R ys fs):bh C k R (xs++ys) (es++fs):=by
 refine ⟨by rw [List.length_append,List.length_append,h.len,g.len,Nat.add_mul],λ i x hx=>?_⟩
 by_cases hi:i < xs.length
 ·rw [List.getElem?_append_left hi] at hx
  obtain ⟨e1,h1,h2,h3⟩:=h.at_ i x hx
  refine ⟨e1,h1,h2,λ j w hj=>?_⟩
  have:=h3 j w hj
  rw [List.getElem?_append_left (List.getElem?_eq_some_iff.1 this).1]
  exact this
 ·rw [List.getElem?_append_right (by omega)] at hx
  obtain ⟨e1,h1,h2,h3⟩:=g.at_ _ x hx
  refine ⟨e1,h1,h2,λ j w hj=>?_⟩
  have:=h3 j w hj
  have e:i * k+j=es.length+((i - xs.length) * k+j):=by
   rw [h.len]
   have:i=xs.length+(i - xs.length):=by omega
   rw [← Nat.add_assoc,← Nat.add_mul,← this]
  rw [e,List.getElem?_append_right (by omega),Nat.add_sub_cancel_left]
  exact this
theorem bh.single{α:Type}{C:cH α}{k:Nat}{R:ax}{x:α}{es:List Value}(h:C R x es)(hk:es.length=k):bh C k R [x] es:=by
 refine ⟨by simp [hk],λ i y hy=>?_⟩
 cases i with
 | zero=>cases hy; exact ⟨es,h,hk,λ j w hj=>by simpa using hj⟩
 | succ i=>simp at hy
theorem bh.one{α:Type}{C:cH α}[CM C]{k:Nat}{R:ax}{xs:List α}{es:List Value}(h:bh C k R xs es):∀ u∈es,u.oneCell'=true:=by
 intro u hu
 obtain ⟨j,hj⟩:=List.getElem?_of_mem hu
 have bL:=(List.getElem?_eq_some_iff.1 hj).1
 rw [h.len] at bL
 have hk:0 < k:=by cases k with | zero=>simp at bL | succ k=>omega
 have hi:j / k < xs.length:=Nat.div_lt_of_lt_mul (by rw [Nat.mul_comm]; exact bL)
 obtain ⟨e1,h1,h2,h3⟩:=h.at_ (j / k) _ (List.getElem?_eq_getElem hi)
 have hm:j % k < e1.length:=by rw [h2]; exact Nat.mod_lt _ hk
 have:=h3 (j % k) _ (List.getElem?_eq_getElem hm)
 rw [show j / k * k+j % k=j by rw [Nat.mul_comm]; exact Nat.div_add_mod j k,hj] at this
 cases this
 exact CM.one h1 _ (List.getElem_mem hm)
theorem bh.drop{α:Type}{C:cH α}{k n:Nat}{R:ax}{xs:List α}{es:List Value}(h:bh C k R xs es):bh C k R (xs.drop n) (es.drop (n * k)):=by
 refine ⟨by simp [h.len,Nat.sub_mul],λ i x hx=>?_⟩
 rw [List.getElem?_drop] at hx
 obtain ⟨e1,h1,h2,h3⟩:=h.at_ _ x hx
 refine ⟨e1,h1,h2,λ j w hj=>?_⟩
 rw [List.getElem?_drop,← h3 j w hj,Nat.add_mul,Nat.add_assoc]
theorem bh.take{α:Type}{C:cH α}{k n:Nat}{R:ax}{xs:List α}{es:List Value}(h:bh C k R xs es):bh C k R (xs.take n) (es.take (n * k)):=by
 refine ⟨by simp only [List.length_take,h.len]; exact Nat.mul_min_mul_right _ _ _,λ i x hx=>?_⟩
 rw [List.getElem?_take] at hx
 split at hx
 ·rename_i hi
  obtain ⟨e1,h1,h2,h3⟩:=h.at_ _ x hx
  refine ⟨e1,h1,h2,λ j w hj=>?_⟩
  have mY:j < k:=by rw [← h2]; exact (List.getElem?_eq_some_iff.1 hj).1
  rw [List.getElem?_take,if_pos,h3 j w hj]
  calc i * k+j < i * k+k:=by omega
   _=(i+1) * k:=by rw [Nat.add_mul,Nat.one_mul]
   _≤n * k:=Nat.mul_le_mul_right k hi
 ·cases hx
def ag{α:Type}(C:cH α)(k:Nat)(R:ax)(v:Value)(xs:List α):Prop :=
 ∃ A cap es,v = .slice A xs.length cap∧bh C k R xs es∧xs.length≤cap∧(xs≠[]→∃ b o arr e fz,A=some ⟨b,o,none⟩∧R b=some (.cells arr e fz)∧∀ (j:Nat) (w:Value),es[j]? = some w→arr[o+j]? = some w)
theorem ag.mono{α:Type}{C:cH α}[CM C]{k:Nat}{R R':ax}{v:Value}{xs:List α}(h:ag C k R v xs)(hR:aQ R R'):ag C k R' v xs:=by
 obtain ⟨A,cap,es,h1,h2,hc,h3⟩:=h
 refine ⟨A,cap,es,h1,h2.mono hR,hc,λ hx=>?_⟩
 obtain ⟨b,o,arr,e,fz,g1,g2,g3⟩:=h3 hx
 exact ⟨b,o,arr,e,fz,g1,hR _ _ g2,g3⟩
theorem ag.nil{α:Type}{C:cH α}{k:Nat}{R:ax}{A:Option Addr}{cap:Nat}:ag C k R (.slice A 0 cap) []:=⟨A,cap,[],rfl,.nil,Nat.zero_le _,λ h=>absurd rfl h⟩
def kz{α:Type}(C:cH α)(k:Nat):cH (List α):=λ R xs es=>∃ v,es=[v]∧ag C k R v xs
instance {α:Type} {C:cH α} [CM C] {k:Nat}:CM (kz C k):=⟨λ hR ⟨v,h1,h2⟩=>⟨v,h1,h2.mono hR⟩,λ ⟨v,h1,A,cap,es,h2,_⟩=>by subst h1; subst h2; simp [Value.oneCell']⟩
def bC{α:Type}(C:cH α)(k e:Nat)(R:ax)(v:Value)(xs:List α)(Hs:aj):Prop :=
 (∃ A,v = .slice A 0 0∧xs=[]∧Hs=[])∨∃ b cap cs es,v = .slice (some ⟨b,0,none⟩) xs.length cap∧Hs=[(b,.cells cs e (0,0))]∧cs.size=cap * k∧xs.length≤cap∧bh C k R xs es∧∀ (j:Nat) (w:Value),es[j]? = some w→cs[j]? = some w
theorem bC.mono{α:Type}{C:cH α}[CM C]{k e:Nat}{R R':ax}{v:Value}{xs:List α}{Hs:aj}(h:bC C k e R v xs Hs)(hR:aQ R R'):bC C k e R' v xs Hs:=by
 rcases h with h | ⟨b,cap,cs,es,h1,h2,h3,h4,h5,h6⟩
 ·exact .inl h
 ·exact .inr ⟨b,cap,cs,es,h1,h2,h3,h4,h5.mono hR,h6⟩
theorem bC.nil{α:Type}{C:cH α}{k e:Nat}{R:ax}{A:Option Addr}:bC C k e R (.slice A 0 0) [] []:=.inl ⟨A,rfl,rfl,rfl⟩
def lF{α:Type}(C:cH α)(k:Nat)(R:ax)(H:aj)(v:Value)(ys:List α):Prop :=
 ∃ A cap es,v = .slice A ys.length cap∧bh C k R ys es∧(ys≠[]→∃ b o,A=some ⟨b,o,none⟩∧aH R H b o es)
theorem ag.arg{α:Type}{C:cH α}{k:Nat}{R:ax}{H:aj}{v:Value}{xs:List α}(h:ag C k R v xs):lF C k R H v xs:=by
 obtain ⟨A,cap,es,h1,h2,_,h3⟩:=h
 refine ⟨A,cap,es,h1,h2,λ hx=>?_⟩
 obtain ⟨b,o,arr,e,fz,g1,g2,g3⟩:=h3 hx
 exact ⟨b,o,g1,λ j w hj=>⟨rfl,arr,e,fz,.inl g2,g3 j w hj⟩⟩
theorem lF.lit{α:Type}{C:cH α}{k e n cap b:Nat}{R:ax}{H:aj}{ys:List α}{cs:Array Value}{fz:Nat × Nat}(hm:(b,Obj.cells cs e fz)∈H)(hE:bh C k R ys cs.toList)(hn:ys.length=n):lF C k R H (.slice (some ⟨b,0,none⟩) n cap) ys:=by
 subst hn
 exact ⟨_,cap,cs.toList,rfl,hE,λ _=>⟨b,0,rfl,λ j w hj=>⟨rfl,cs,e,fz,.inr hm,by simpa using hj⟩⟩⟩
def kP(G:aj→aj):Prop:=∃ A D,∀ X,G X=A++(X++D)
theorem kP.set{G:aj→aj}(hG:kP G){b:Nat}{o o':Obj}:fj (G [(b,o)]) b o o' (G [(b,o')]):=by
 obtain ⟨A,D,h⟩:=hG
 rw [h,h]
 clear h
 induction A with
 | nil=>exact .here
 | cons p A ih=>exact .there ih
end Go.Lg
namespace Go.Lg
open Go.Conc
section
variable {P:Program} {B:Base} {main:Bool} {ae:Jd P B main} {c:Ctx} {R:ax} {H H':aj} {st st':St} {o:Oper} {C:ax→aj→St→Prop}
def yL(P:Program)(t:TypeId)(v:Value)(i:Int)(b n:Nat):Prop:=∀ kd,ai P (Instr.indexAt t v (.int kd i)) (.pointer (some ⟨b,n,none⟩))
theorem ag.elem{α:Type}{K:cH α}{k t e:Nat}{v:Value}{xs:List α}{i:Int}{x:α}(h:ag K k R v xs)(ht:mU P t e k)(hi:idx xs i=some x) :
  ∃ b n es,K R x es∧aH R [] b n es∧yL P t v i b n:=by
 obtain ⟨h1,h2,h3⟩:=tQ hi
 obtain ⟨A,cap,es,rfl,hE,_,hc⟩:=h
 obtain ⟨b,o,arr,e',fz,rfl,g2,g3⟩:=hc (by rintro rfl; simp at h3)
 obtain ⟨e1,f1,f2,f3⟩:=hE.at_ _ _ h3
 refine ⟨b,o+i.toNat * k,e1,f1,λ j w hj=>⟨rfl,arr,e',fz,.inl g2,?_⟩,λ kd=>?_⟩
 ·have:=g3 _ _ (f3 j w hj)
  simpa [Nat.add_assoc] using this
 ·have:=X7 (P:=P) (b:=b) (m:=o) (cap:=cap) (kd:=kd) ht (j:=i.toNat) (len:=xs.length) (by omega)
  rwa [Int.toNat_of_nonneg h1] at this
theorem Ox.bF{x y:Operand}{t:TypeId}{v:Value}{kd:IntKind}{i:Int}{b n:Nat}(ao:o.op = .indexAddr t x y)(hx:bl st x=some v)(hy:bl st y=some (.int kd i))(hv:yL P t v i b n)
  (hd:bT o.dst c.n) (hs:aA (bZ o.dst (.pointer (some ⟨b,n,none⟩)) st) st') (h:C R H st'):aK P B c o R H st C :=
 Ox.lb (s:=λ ρ=>Instr.indexAt t (ρ x) (ρ y)) (by rw [ao]; rfl) hd (λ ρ=>by simp only [execOp,ao]) (λ ρ bd=>by rw [bd x _ hx,bd y _ hy]; exact hv kd) hs h
theorem adH{t e len k b m:Nat}{i:Int}(ht:uO P t len e k)(hi:0≤i∧i < len):yL P t (.pointer (some ⟨b,m,none⟩)) i b (m+i.toNat * k):=λ kd=>by
 have:=aIc (P:=P) (b:=b) (m:=m) (kd:=kd) ht (j:=i.toNat) (by omega)
 rwa [Int.toNat_of_nonneg hi.1] at this
theorem Ox.uL{α:Type}{K:cH α}{k:Nat}{x:Operand}{t e:TypeId}{v:Value}{xs:List α}(ao:o.op = .call ⟨.builtin .len,#[x],#[t]⟩)(hx:bl st x=some v)(hl:ag K k R v xs)(ht:P.underlying t=some (.slice e))
  (hd:bT o.dst c.n) (hs:aA (bZ o.dst (.int .i64 (xs.length:Int)) st) st') (h:C R H st'):aK P B c o R H st C:=by
 obtain ⟨A,cap,es,rfl,_⟩:=hl
 exact Ox.len ao hx ht hd hs h
theorem Ox.NC{α:Type}{K:cH α}{k e':Nat}{x:Operand}{t e:TypeId}{v:Value}{xs:List α}{Hs:aj}(ao:o.op = .call ⟨.builtin .len,#[x],#[t]⟩)(hx:bl st x=some v)(hl:bC K k e' R v xs Hs)(ht:P.underlying t=some (.slice e))
  (hd:bT o.dst c.n) (hs:aA (bZ o.dst (.int .i64 (xs.length:Int)) st) st') (h:C R H st'):aK P B c o R H st C:=by
 rcases hl with ⟨A,rfl,rfl,_⟩ | ⟨b,cap,cs,es,rfl,_⟩
 ·exact Ox.len ao hx ht hd hs h
 ·exact Ox.len ao hx ht hd hs h
def i64(z:Int):Int:=IntKind.wrap .i64 z
theorem Nu{z:Int}(h : -9223372036854775808≤z∧z≤9223372036854775807):i64 z=z:=agM h
theorem Ox.ar{x y:Operand}{bo:BinOp}{t u:TypeId}{a b z:Int}{kd:IntKind}(ao:o.op = .binOp bo t x y u)(hx:bl st x=some (.int kd a))(hy:bl st y=some (.int kd b))(hr:QF bo a b=some z)
  (hd:bT o.dst c.n) (hs:aA (bZ o.dst (.int kd (kd.wrap z)) st) st') (h:C R H st'):aK P B c o R H st C :=
 Ox.lb (s:=λ ρ=>do eqGuard bo t x y (ρ x) (ρ y); binOp bo t (ρ x) (ρ y)) (by rw [ao]; rfl) hd (λ ρ=>by simp only [execOp,ao]) (λ ρ bd=>by
  rw [bd x _ hx,bd y _ hy]
  refine ai.bind (Ay _ _ _ _ _ _ _ _) ?_
  cases bo <;> simp only [QF,Option.some.injEq,reduceCtorEq] at hr <;> subst hr <;> simp only [binOp,ne_eq,not_true_eq_false,if_false,Op.intArith] <;> exact ai.pure _) hs h
def Af(a b:Int):Option Int:=if b=0 then none else some (a.tmod b)
def nD(a b:Int):Option Int:=if b=0 then none else some (i64 (a.tdiv b))
theorem Ox.rem{x y:Operand}{t u:TypeId}{a b z:Int}{kd:IntKind}(ao:o.op = .binOp .rem t x y u)(hx:bl st x=some (.int kd a))(hy:bl st y=some (.int kd b))(hr:Af a b=some z)
  (hd:bT o.dst c.n) (hs:aA (bZ o.dst (.int kd z) st) st') (h:C R H st'):aK P B c o R H st C :=
 Ox.lb (s:=λ ρ=>do eqGuard .rem t x y (ρ x) (ρ y); binOp .rem t (ρ x) (ρ y)) (by rw [ao]; rfl) hd (λ ρ=>by simp only [execOp,ao]) (λ ρ bd=>by
  rw [bd x _ hx,bd y _ hy]
  refine ai.bind (Ay _ _ _ _ _ _ _ _) ?_
  unfold Af at hr
  split at hr
  ·cases hr
  ·cases hr; simp only [binOp,ne_eq,not_true_eq_false,if_false,Op.intDiv, *]; exact ai.pure _) hs h
theorem Ox.quo{x y:Operand}{t u:TypeId}{a b z:Int}(ao:o.op = .binOp .quo t x y u)(hx:bl st x=some (.int .i64 a))(hy:bl st y=some (.int .i64 b))(hr:nD a b=some z)
  (hd:bT o.dst c.n) (hs:aA (bZ o.dst (.int .i64 z) st) st') (h:C R H st'):aK P B c o R H st C :=
 Ox.lb (s:=λ ρ=>do eqGuard .quo t x y (ρ x) (ρ y); binOp .quo t (ρ x) (ρ y)) (by rw [ao]; rfl) hd (λ ρ=>by simp only [execOp,ao]) (λ ρ bd=>by
  rw [bd x _ hx,bd y _ hy]
  refine ai.bind (Ay _ _ _ _ _ _ _ _) ?_
  unfold nD at hr
  split at hr
  ·cases hr
  ·cases hr; simp only [binOp,ne_eq,not_true_eq_false,if_false,Op.intDiv, *]; exact ai.pure _) hs h
def yc(kd:IntKind)(a b:Int):Option Int:=if b < 0 then none else some (kd.wrap (a * 2 ^ (min b.toNat kd.bits)))
def lB(kd:IntKind)(a b:Int):Option Int:=if b < 0 then none else some (a.fdiv (2 ^ (min b.toNat kd.bits)))
theorem Ox.shl{x y:Operand}{t u:TypeId}{a b z:Int}{kd yk:IntKind}(ao:o.op = .binOp .shl t x y u)(hx:bl st x=some (.int kd a))(hy:bl st y=some (.int yk b))(hr:yc kd a b=some z)
  (hd:bT o.dst c.n) (hs:aA (bZ o.dst (.int kd z) st) st') (h:C R H st'):aK P B c o R H st C :=
 Ox.lb (s:=λ ρ=>do eqGuard .shl t x y (ρ x) (ρ y); binOp .shl t (ρ x) (ρ y)) (by rw [ao]; rfl) hd (λ ρ=>by simp only [execOp,ao]) (λ ρ bd=>by
  rw [bd x _ hx,bd y _ hy]
  refine ai.bind (Ay _ _ _ _ _ _ _ _) ?_
  unfold yc at hr
  split at hr
  ·cases hr
  ·cases hr; simp only [binOp,Op.shift,if_false, *]; exact ai.pure _) hs h
theorem Ox.shr{x y:Operand}{t u:TypeId}{a b z:Int}{kd yk:IntKind}(ao:o.op = .binOp .shr t x y u)(hx:bl st x=some (.int kd a))(hy:bl st y=some (.int yk b))(hr:lB kd a b=some z)
  (hd:bT o.dst c.n) (hs:aA (bZ o.dst (.int kd z) st) st') (h:C R H st'):aK P B c o R H st C :=
 Ox.lb (s:=λ ρ=>do eqGuard .shr t x y (ρ x) (ρ y); binOp .shr t (ρ x) (ρ y)) (by rw [ao]; rfl) hd (λ ρ=>by simp only [execOp,ao]) (λ ρ bd=>by
  rw [bd x _ hx,bd y _ hy]
  refine ai.bind (Ay _ _ _ _ _ _ _ _) ?_
  unfold lB at hr
  split at hr
  ·cases hr
  ·cases hr; simp only [binOp,Op.shift,if_false, *]; exact ai.pure _) hs h
def fv(bo:BinOp)(kd:IntKind)(a b:Int):Option Int :=
 let a:=BitVec.ofInt kd.bits a
 let b:=BitVec.ofInt kd.bits b
 match bo with
 | .and=>some (kd.wrap (a &&& b).toNat)
 | .or=>some (kd.wrap (a ||| b).toNat)
 | .xor=>some (kd.wrap (a ^^^ b).toNat)
 | .andNot=>some (kd.wrap (a &&& ~~~b).toNat)
 | _=>none
theorem Ox.bits{x y:Operand}{bo:BinOp}{t u:TypeId}{a b z:Int}{kd:IntKind}(ao:o.op = .binOp bo t x y u)(hx:bl st x=some (.int kd a))(hy:bl st y=some (.int kd b))(hr:fv bo kd a b=some z)
  (hd:bT o.dst c.n) (hs:aA (bZ o.dst (.int kd z) st) st') (h:C R H st'):aK P B c o R H st C :=
 Ox.lb (s:=λ ρ=>do eqGuard bo t x y (ρ x) (ρ y); binOp bo t (ρ x) (ρ y)) (by rw [ao]; rfl) hd (λ ρ=>by simp only [execOp,ao]) (λ ρ bd=>by
  rw [bd x _ hx,bd y _ hy]
  refine ai.bind (Ay _ _ _ _ _ _ _ _) ?_
  cases bo <;> simp only [fv,Option.some.injEq,reduceCtorEq] at hr <;> subst hr <;> simp only [binOp,ne_eq,not_true_eq_false,if_false,Op.intBits] <;> exact ai.pure _) hs h
def aaY:BinOp→ByteArray→ByteArray→Option Bool
 | .eql,x,y=>some (x.toList == y.toList)
 | .neq,x,y=>some (!(x.toList == y.toList))
 | _,_,_=>none
theorem aIb(op:BinOp)(t:TypeId)(x y:Operand)(a b:ByteArray):ai P (eqGuard op t x y (.string a) (.string b)) ():=by
 unfold eqGuard
 cases op <;> exact ai.pure _
theorem Ox.aaZ{x y:Operand}{bo:BinOp}{t u:TypeId}{a b:ByteArray}{r:Bool}(ao:o.op = .binOp bo t x y u)(hx:bl st x=some (.string a))(hy:bl st y=some (.string b))(hr:aaY bo a b=some r)
  (hd:bT o.dst c.n) (hs:aA (bZ o.dst (.bool r) st) st') (h:C R H st'):aK P B c o R H st C :=
 Ox.lb (s:=λ ρ=>do eqGuard bo t x y (ρ x) (ρ y); binOp bo t (ρ x) (ρ y)) (by rw [ao]; rfl) hd (λ ρ=>by simp only [execOp,ao]) (λ ρ bd=>by
  rw [bd x _ hx,bd y _ hy]
  refine ai.bind (aIb _ _ _ _ _ _) ?_
  cases bo <;> simp only [aaY,Option.some.injEq,reduceCtorEq] at hr <;> subst hr <;> simp only [binOp,Op.stringOp] <;> exact ai.pure _) hs h
def HC:BinOp→Bool→Bool→Option Bool
 | .eql,x,y=>some (x == y)
 | .neq,x,y=>some (!(x == y))
 | _,_,_=>none
theorem aIa(op:BinOp)(t:TypeId)(x y:Operand)(a b:Bool):ai P (eqGuard op t x y (.bool a) (.bool b)) ():=by
 unfold eqGuard
 cases op <;> exact ai.pure _
theorem aH7{t:TypeId}(ht:P.underlying t=some .bool)(a b:Bool):ai P (Op.equal t (.bool a) (.bool b)) (a == b):=by
 unfold Op.equal Op.maxDepth
 rw [Op.equalIn]
 exact ai.bind (ai.underlying ht) (ai.pure _)
theorem Ox.YV{x y:Operand}{bo:BinOp}{t u:TypeId}{a b r:Bool}(ao:o.op = .binOp bo t x y u)(hx:bl st x=some (.bool a))(hy:bl st y=some (.bool b))(ht:P.underlying t=some .bool)(hr:HC bo a b=some r)
  (hd:bT o.dst c.n) (hs:aA (bZ o.dst (.bool r) st) st') (h:C R H st'):aK P B c o R H st C :=
 Ox.lb (s:=λ ρ=>do eqGuard bo t x y (ρ x) (ρ y); binOp bo t (ρ x) (ρ y)) (by rw [ao]; rfl) hd (λ ρ=>by simp only [execOp,ao]) (λ ρ bd=>by
  rw [bd x _ hx,bd y _ hy]
  refine ai.bind (aIa _ _ _ _ _ _) ?_
  cases bo <;> simp only [HC,Option.some.injEq,reduceCtorEq] at hr <;> subst hr <;> simp only [binOp] <;> exact ai.bind (aH7 ht a b) (ai.pure _)) hs h
theorem Ox.GI{x y:Operand}{bo:BinOp}{t u:TypeId}{a b:Array Value}{q:Bool}(ao:o.op = .binOp bo t x y u)(hx:bl st x=some (.agg a))(hy:bl st y=some (.agg b))(hg:P.eqGuardType P.depth t=false)(hq:ai P (Op.equal t (.agg a) (.agg b)) q){r:Bool}(hr:HC bo q true=some r)
  (hd:bT o.dst c.n) (hs:aA (bZ o.dst (.bool r) st) st') (h:C R H st'):aK P B c o R H st C :=
 Ox.lb (s:=λ ρ=>do eqGuard bo t x y (ρ x) (ρ y); binOp bo t (ρ x) (ρ y)) (by rw [ao]; rfl) hd (λ ρ=>by simp only [execOp,ao]) (λ ρ bd=>by
  rw [bd x _ hx,bd y _ hy]
  have hgd:ai P (eqGuard bo t x y (.agg a) (.agg b)) ():=by
   unfold eqGuard
   cases bo <;> simp only [HC,reduceCtorEq] at hr <;> exact ai.bind ai.program (ai.bind ai.program (by simp only [hg]; exact ai.pure _))
  refine ai.bind hgd ?_
  cases bo <;> simp only [HC,Option.some.injEq,reduceCtorEq] at hr <;> subst hr <;> simp only [binOp]
  ·exact ai.bind hq (by cases q <;> exact ai.pure _)
  ·exact ai.bind hq (by cases q <;> exact ai.pure _)) hs h
def qm:Int→List Int→Int
 | x,[]=>x
 | x,y::r=>qm (if y > x then y else x) r
def AP:Int→List Int→Int
 | x,[]=>x
 | x,y::r=>AP (if y < x then y else x) r
theorem af6{kd:IntKind}:∀ (l:List Int) (x:Int),ai P ((l.map (Value.int kd)).foldlM Builtin.max2 (.int kd x)) (.int kd (qm x l))
 | [],x=>ai.pure _
 | y::r,x=>by
  simp only [List.map_cons,List.foldlM_cons,qm]
  exact ai.bind (a:=.int kd (if y > x then y else x)) (ai.pure _) (af6 r _)
theorem af7{kd:IntKind}:∀ (l:List Int) (x:Int),ai P ((l.map (Value.int kd)).foldlM Builtin.min2 (.int kd x)) (.int kd (AP x l))
 | [],x=>ai.pure _
 | y::r,x=>by
  simp only [List.map_cons,List.foldlM_cons,AP]
  exact ai.bind (a:=.int kd (if y < x then y else x)) (ai.pure _) (af7 r _)
theorem Ox.max{xs:Array Operand}{ts:Array TypeId}{kd:IntKind}{a:Int}{l:List Int}(ao:o.op = .call ⟨.builtin .max,xs,ts⟩)(hx:iG st xs.toList=some (.int kd a::l.map (Value.int kd)))
  (hd:bT o.dst c.n) (hs:aA (bZ o.dst (.int kd (qm a l)) st) st') (h:C R H st'):aK P B c o R H st C :=
 Ox.val (by rw [ao]; rfl) hd (λ ρ bd=>by
  simp only [execOp,ao]
  refine ai.bind (a:=⟨.builtin .max ts o.type (xs.map λ | .const _=>true | _=>false),xs.map ρ⟩) (ai.pure _) ?_
  simp only [invoke,builtin,Builtin.max_]
  have e:(xs.map ρ).toList = .int kd a::l.map (Value.int kd):=by simpa using A9 bd _ _ hx
  rw [e]
  exact ai.bind (af6 l a) (ai.pure _)) hs h
theorem Ox.min{xs:Array Operand}{ts:Array TypeId}{kd:IntKind}{a:Int}{l:List Int}(ao:o.op = .call ⟨.builtin .min,xs,ts⟩)(hx:iG st xs.toList=some (.int kd a::l.map (Value.int kd)))
  (hd:bT o.dst c.n) (hs:aA (bZ o.dst (.int kd (AP a l)) st) st') (h:C R H st'):aK P B c o R H st C :=
 Ox.val (by rw [ao]; rfl) hd (λ ρ bd=>by
  simp only [execOp,ao]
  refine ai.bind (a:=⟨.builtin .min ts o.type (xs.map λ | .const _=>true | _=>false),xs.map ρ⟩) (ai.pure _) ?_
  simp only [invoke,builtin,Builtin.min_]
  have e:(xs.map ρ).toList = .int kd a::l.map (Value.int kd):=by simpa using A9 bd _ _ hx
  rw [e]
  exact ai.bind (af7 l a) (ai.pure _)) hs h
theorem Ox.akF{x:Operand}{t u:TypeId}{kd ks k0:IntKind}{a:Int}(ao:o.op = .convert t u x)(hx:bl st x=some (.int ks a))(ht:P.underlying t=some (.int k0))(hu:P.underlying u=some (.int kd))
  (hd:bT o.dst c.n) (hs:aA (bZ o.dst (.int kd (kd.wrap a)) st) st') (h:C R H st'):aK P B c o R H st C :=
 Ox.lb (s:=λ ρ=>convert t u (ρ x)) (by rw [ao]; rfl) hd (λ ρ=>by simp only [execOp,ao]) (λ ρ bd=>by
  rw [bd x _ hx]
  unfold convert
  refine ai.bind (ai.underlying ht) (ai.bind (ai.underlying hu) ?_)
  exact ai.pure _) hs h
theorem HD{α:Type}{xs ys:List α}{lo hi:Int}(h:lK xs lo hi=some ys):0≤lo∧lo≤hi∧hi≤xs.length∧ys=(xs.take hi.toNat).drop lo.toNat:=by
 unfold lK at h
 split at h
 ·cases h; rename_i h; exact ⟨h.1,h.2.1,h.2.2,rfl⟩
 ·cases h
def JH(st:St):Option Operand→Option Int
 | none=>some 0
 | some x=>match bl st x with | some (.int _ i)=>some i | _=>none
def Il(st:St)(n:Nat):Option Operand→Option Int
 | none=>some n
 | some x=>match bl st x with | some (.int _ i)=>some i | _=>none
theorem OU{kd:IntKind}{i:Int}{y:Nat}{cd:BoundsCode}(h:0≤i∧i≤y):ai P (Instr.sliceBound (.int kd i) y cd) i.toNat:=by
 unfold Instr.sliceBound
 refine ai.bind (a:=(kd,i)) (ai.pure _) ?_
 simp only [h,and_self,if_true]
 exact ai.pure _
theorem OW{ρ:Operand→Value}(bd:Knows st ρ){len cap:Nat}{lo hi:Option Operand}{l h:Int}(hl:JH st lo=some l)(hh:Il st len hi=some h)(hb:0≤l∧l≤h∧h≤len)(hc:len≤cap) :
  ai P (Instr.sliceBounds true len cap (lo.map ρ) (hi.map ρ) none) (l.toNat,h.toNat,cap):=by
 have h1:(lo=none∧l=0)∨∃ x kd,lo=some x∧ρ x = .int kd l:=by
  cases lo with
  | none=>simp only [JH,Option.some.injEq] at hl; exact .inl ⟨rfl,hl.symm⟩
  | some x =>
   simp only [JH] at hl
   cases hx:bl st x with
   | none=>simp [hx] at hl
   | some v =>
    cases v <;> simp [hx] at hl
    subst hl
    exact .inr ⟨x,_,rfl,bd x _ hx⟩
 have h2:(hi=none∧h=len)∨∃ x kd,hi=some x∧ρ x = .int kd h:=by
  cases hi with
  | none=>simp only [Il,Option.some.injEq] at hh; exact .inl ⟨rfl,hh.symm⟩
  | some x =>
   simp only [Il] at hh
   cases hx:bl st x with
   | none=>simp [hx] at hh
   | some v =>
    cases v <;> simp [hx] at hh
    subst hh
    exact .inr ⟨x,_,rfl,bd x _ hx⟩
 unfold Instr.sliceBounds
 rcases h1 with ⟨rfl,rfl⟩ | ⟨x,kx,rfl,hx⟩ <;> rcases h2 with ⟨rfl,rfl⟩ | ⟨y,ky,rfl,hy⟩ <;> simp only [Option.map_none,Option.map_some, *]
 ·exact ai.bind (a:=cap) (ai.pure _) (ai.bind (a:=(len:Int).toNat) (by rw [Int.toNat_natCast]; exact ai.pure _) (ai.bind (a:=(0:Int).toNat) (ai.pure _) (ai.pure _)))
 ·exact ai.bind (a:=cap) (ai.pure _) (ai.bind (a:=h.toNat) (OU ⟨by omega,by omega⟩) (ai.bind (a:=(0:Int).toNat) (ai.pure _) (ai.pure _)))
 ·exact ai.bind (a:=cap) (ai.pure _) (ai.bind (a:=(len:Int).toNat) (by rw [Int.toNat_natCast]; exact ai.pure _) (ai.bind (a:=l.toNat) (OU ⟨by omega,by omega⟩) (ai.pure _)))
 ·exact ai.bind (a:=cap) (ai.pure _) (ai.bind (a:=h.toNat) (OU ⟨by omega,by omega⟩) (ai.bind (a:=l.toNat) (OU ⟨by omega,by omega⟩) (ai.pure _)))
end
end Go.Lg
namespace Go.Lg
open Go.Conc
theorem C5:∀ (vs:List Value) (cs:Array Value) (o j:Nat),o+vs.length≤cs.size→(fN cs o vs)[j]? = if o≤j∧j < o+vs.length then vs[j - o]? else cs[j]?
 | [],cs,o,j,_=>by
  simp only [fN,List.length_nil,Nat.add_zero]
  rw [if_neg (by omega)]
 | v::r,cs,o,j,h=>by
  simp only [List.length_cons] at h
  simp only [fN]
  rw [C5 r _ (o+1) j (by simp; omega)]
  by_cases h1:o+1≤j∧j < o+1+r.length
  ·rw [if_pos h1,if_pos (by simp only [List.length_cons]; omega)]
   have:j - o=(j - (o+1))+1:=by omega
   rw [this]; simp
  ·rw [if_neg h1]
   by_cases h2:o=j
   ·subst h2
    rw [if_pos (by simp only [List.length_cons]; omega)]
    rw [Array.getElem?_setIfInBounds_self_of_lt (by omega)]
    simp
   ·rw [if_neg (by simp only [List.length_cons]; omega),Array.getElem?_setIfInBounds_ne h2]
structure sR (P:Program) (t e k:Nat):Prop where
 sl:P.underlying t=some (.slice e)
 size:ai P (sizeOf e) k
 info:∃ i,P.info? e=some i∧i.bytes≤65536
 zero:∃ z,ai P (zeroValue e) z∧z.cells.size=k
section
variable {P:Program} {B:Base} {main:Bool} {ae:Jd P B main} {c:Ctx} {R:ax} {H H':aj} {st st':St} {o:Oper}
theorem aF.weaken{α:Type}{s:Sem α}{K K':α→ax→aj→Prop}(h:aF P B R H s K)(hk:∀ a R' H',K a R' H'→∃ cI dW,(∀ w,Fits B R' H' w→fK B R' H' w cI dW w)∧K' a cI dW):aF P B R H s K':=by
 intro w hw
 obtain ⟨a,w',R',H',h1,h2,h3,h4⟩:=h w hw
 obtain ⟨cI,dW,g1,g2⟩:=hk a R' H' h4
 exact ⟨a,w',cI,dW,h1,h2,h3.trans (g1 w' h3.fits),g2⟩
theorem aF.firstCells{α:Type}{K:cH α}{k:Nat}{u:Value}{ys:List α}{Q:Array Value→ax→aj→Prop}(hu:lF K k R H u ys)(hQ:∀ es:List Value,bh K k R ys es→Q es.toArray R H):aF P B R H (Builtin.firstCells k ys.length u) Q:=by
 obtain ⟨A,cap,es,rfl,hE,hc⟩:=hu
 cases ys with
 | nil =>
  have e0:es=[]:=by have:=hE.len; simpa using this
  subst e0
  cases A with
  | none=>exact aF.pure (hQ [] hE)
  | some a =>
   simp only [Builtin.firstCells,List.length_nil,Nat.zero_mul,loadCells]
   exact aF.pure (hQ [] hE)
 | cons y ys =>
  obtain ⟨b,o,rfl,pX⟩:=hc (by simp)
  simp only [Builtin.firstCells,loadCells]
  rw [← hE.len]
  exact aF.loadCellsFrom es 0 #[] (by simpa using pX) (by simpa using hQ es hE)
theorem bC.arg{α:Type}{K:cH α}{k e:Nat}{G:aj→aj}(hG:kP G){v:Value}{xs:List α}{Hs:aj}(h:bC K k e R v xs Hs):lF K k R (G Hs) v xs:=by
 rcases h with ⟨A,rfl,rfl,_⟩ | ⟨b,cap,cs,es,rfl,rfl,h3,h4,h5,h6⟩
 ·exact ⟨A,0,[],rfl,.nil,λ h=>absurd rfl h⟩
 ·refine ⟨_,cap,es,rfl,h5,λ _=>⟨b,0,rfl,λ j w hj=>⟨rfl,cs,e,(0,0),.inr ?_,by simpa using h6 j w hj⟩⟩⟩
  obtain ⟨A,D,y7⟩:=hG
  rw [y7]; simp
theorem aFr{n m:Nat}(h:m < n)(hn:n≤16777216):Builtin.nextslicecap n m≤67108864:=by
 unfold Builtin.nextslicecap
 split
 ·omega
 ·split
  ·omega
  ·have:∀ (r c:Nat),c≤16777216→Builtin.growBy n r c≤67108864:=by
    intro r
    induction r with
    | zero=>intro c hc; simp only [Builtin.growBy]; omega
    | succ r ih =>
     intro c hc
     simp only [Builtin.growBy]
     split
     ·omega
     ·rename_i eV
      by_cases h2:c+(c+768) / 4≤16777216
      ·exact ih _ h2
      ·
       cases r with
       | zero=>simp only [Builtin.growBy]; omega
       | succ r=>simp only [Builtin.growBy]; rw [if_pos (by omega)]; omega
   exact this 4 m (by omega)
theorem aF.append{α:Type}{K:cH α}[CM K]{k t e xT T:Nat}{G:aj→aj}(hG:kP G){v u:Value}{xs ys:List α}{Hs:aj}{dx:TypeDesc}(ht:sR P t e k)(Wm:P.underlying xT=some dx)(SV:∀ kd,dx ≠ .int kd)
  (hO:bC K k e R v xs Hs) (hu:lF K k R (G Hs) u ys) (hl:xs.length+ys.length≤16777216) {Q:Value→ax→aj→Prop} (hk:∀ v' cz,bC K k e R v' (xs++ys) cz→Q v' R (G cz)) :
  aF P B R (G Hs) (Builtin.append_ #[t,xT] T #[v,u]) Q:=by
 obtain ⟨A2,aQW,es2,Jb⟩:=id hu
 have hv:∃ base cap,v = .slice base xs.length cap:=by
  rcases hO with ⟨A,rfl,rfl,_⟩ | ⟨b,cap,cs,es,rfl,_⟩
  ·exact ⟨A,0,rfl⟩
  ·exact ⟨_,cap,rfl⟩
 obtain ⟨base,cap,rfl⟩:=hv
 obtain ⟨i,hi,aoI⟩:=ht.info
 obtain ⟨z,hz,hzs⟩:=ht.zero
 have hlen:ai P (Builtin.lenOf u) ys.length:=by rw [Jb.1]; exact ai.pure _
 have run:aF P B R (G Hs) (do
   let CR:=xs.length+ys.length
   if CR≤cap then do
    let new ← Builtin.firstCells k ys.length u
    if let some a:=base then storeCells (a.add (xs.length * k)) new.toList
    Pure.pure (Value.slice base CR cap)
   else do
    if (CR:Int) > IntKind.i64.max∧(false=true∨(← typeInfo e).bytes=0) then runtimePanic (.error "growslice: len out of range")
    if Builtin.nextslicecap CR cap * (← typeInfo e).bytes > 2 ^ 48 then (if false=true then runtimePanic (.error "growslice: len out of range") else do
     if !(← Builtin.mayShare k xs.length ys.length base u) then mark .noRoom
     unsupported (.resourceLimit "append: a slice or a string whose bytes no memory bears"))
    let z8 ← Go.choose (Question.appendCap CR cap e)
    askRoom (z8 * (← typeInfo e).bytes)
    let old ← Builtin.firstCells k xs.length (.slice base xs.length cap)
    let new ← Builtin.firstCells k ys.length u
    let rest:=Builtin.zeroCells (← zeroValue e).cells (z8 - CR)
    Pure.pure (Value.slice (some (← newRow e (old++new++rest))) CR z8)) Q:=by
  dsimp only
  by_cases hc:xs.length+ys.length≤cap
  ·rw [if_pos hc]
   refine aF.bind (aF.firstCells hu λ es hE=>?_)
   rcases hO with ⟨A,e1,rfl,rfl⟩ | ⟨b,aQV,cs,Bg,e1,rfl,h3,h4,h5,h6⟩
   ·injection e1 with e1 e2 e3
    subst e1; subst e3
    have hy:ys=[]:=by simpa using hc
    subst hy
    have e0:es=[]:=by have:=hE.len; simpa using this
    subst e0
    have key:Q (.slice base ([]:List α).length 0) R (G []):=hk _ [] (.inl ⟨base,rfl,by simp,rfl⟩)
    cases base with
    | none=>exact aF.bind (aF.pure (aF.pure key))
    | some a=>exact aF.bind (aF.pure (aF.pure key))
   ·injection e1 with e1 _ e3
    subst e1; subst e3
    dsimp only
    rw [show (⟨b,0,none⟩:Addr).add (xs.length * k)=⟨b,0+xs.length * k,none⟩ from ry _ _ _,Nat.zero_add]
    refine aF.given λ dR=>aF.bind (aF.OF es cs (xs.length * k) 0 (G [(b,.cells cs e (0,0))]) (G [(b,.cells (fN cs (xs.length * k) es) e (0,0))]) hE.one ?_ (by simpa using kP.set hG) dR (aF.pure ?_))
    ·rw [h3,hE.len,Nat.add_zero,← Nat.add_mul]; exact Nat.mul_le_mul_right k hc
    ·have xa:xs.length * k+es.length≤cs.size:=by rw [h3,hE.len,← Nat.add_mul]; exact Nat.mul_le_mul_right k hc
     refine hk _ _ (.inr ⟨b,cap,fN cs (xs.length * k) es,Bg++es,by rw [List.length_append],rfl,by rw [Kj]; exact h3,by rw [List.length_append]; exact hc,h5.append hE,λ j w hj=>?_⟩)
     rw [C5 es cs _ _ xa]
     by_cases To:j < Bg.length
     ·rw [List.getElem?_append_left To] at hj
      rw [if_neg (by rw [← h5.len]; omega)]
      exact h6 j w hj
     ·rw [List.getElem?_append_right (by omega)] at hj
      have:=(List.getElem?_eq_some_iff.1 hj).1
      rw [if_pos (by rw [← h5.len]; omega),← h5.len]
      exact hj
  ·rw [if_neg hc]
   have hnb:Builtin.nextslicecap (xs.length+ys.length) cap * i.bytes≤2 ^ 48:=by
    have h1:=aFr (n:=xs.length+ys.length) (m:=cap) (by omega) hl
    calc _≤67108864 * 65536:=Nat.mul_le_mul h1 aoI
     _≤2 ^ 48:=by decide
   have hni:¬ (((xs.length+ys.length:Nat):Int) > IntKind.i64.max∧(false=true∨i.bytes=0)):=by
    intro h
    have:IntKind.i64.max=9223372036854775807:=by decide
    omega
   refine ai.eT (ai.typeInfo hi) ?_
   rw [if_neg hni]
   refine ai.eT (ai.typeInfo hi) ?_
   rw [if_neg (by omega)]
   refine (aF.bind (aF.choose λ tape=>ai.eT (ai.typeInfo hi) (aF.bind ?_)))
   have aoH:∀ (n:Nat) (Q':Unit→ax→aj→Prop),Q' () R (G Hs)→aF P B R (G Hs) (askRoom n) Q':=by
    intro n Q' hq
    unfold askRoom
    split
    ·exact aF.aFj hq
    ·exact aF.pure hq
   refine aoH _ _ ?_
   simp only [Question.forced,Bool.false_eq_true,if_false,Question.cut]
   generalize w7:xs.length+ys.length+tape % (2 ^ 63 - (xs.length+ys.length))=z8
   refine aF.bind (aF.firstCells (bC.arg hG hO) λ Bg hEx=>aF.bind (aF.firstCells hu λ Mu hEy=>ai.eT hz ?_))
   simp only [newRow]
   refine aF.bind (aF.bind (aF.weaken (aF.new (K:=λ r R' H'=>R'=R∧H'=(r,.cells (Bg.toArray++Mu.toArray++Builtin.zeroCells z.cells (z8 - (xs.length+ys.length))) e (0,0))::G Hs) λ r _ _=>⟨rfl,rfl⟩) λ r R' H' hrh=>?_))
   obtain ⟨rfl,rfl⟩:=hrh
   refine ⟨R',G [(r,.cells (Bg.toArray++Mu.toArray++Builtin.zeroCells z.cells (z8 - (xs.length+ys.length))) e (0,0))],λ w hw=>?_,aF.pure (aF.pure (hk _ _ (.inr ⟨r,z8,_,Bg++Mu,by rw [List.length_append],rfl,?_,by rw [List.length_append]; omega,hEx.append hEy,λ j w hj=>?_⟩)))⟩
   ·obtain ⟨A,D,y7⟩:=hG
    rw [y7,y7] at *
    have h1:=X3 (H':=A++(Hs++((r,.cells (Bg.toArray++Mu.toArray++Builtin.zeroCells z.cells (z8 - (xs.length+ys.length))) e (0,0))::D))) (by simpa using List.perm_middle (l₁:=A++Hs)) hw
    refine h1.trans (ON ?_ h1.fits)
    exact List.Sublist.append_left (List.sublist_append_right _ _) _
   ·simp only [Array.size_append,List.size_toArray,hEx.len,hEy.len,Builtin.zeroCells,Array.size_map,Array.size_range,hzs]
    rw [← Nat.add_mul,← Nat.add_mul]
    congr 1; omega
   ·have:=(List.getElem?_eq_some_iff.1 hj).1
    rw [Array.getElem?_append_left (by simpa using this)]
    simpa using hj
 unfold Builtin.append_
 refine ai.eT (ai.underlying ht.sl) (ai.eT ht.size (ai.eT (ai.underlying Wm) (ai.eT (a:=false) (by cases dx <;> first | exact ai.pure _ | exact absurd rfl (SV _)) ?_)))
 exact ai.eT hlen run
theorem Ox.append{α:Type}{K:cH α}[CM K]{k t e xT:Nat}(G:aj→aj){x y:Operand}{v u:Value}{xs ys zs:List α}{Hs:aj}{dx:TypeDesc}{C:ax→aj→St→Prop}(ao:o.op = .call ⟨.builtin .append,#[x,y],#[t,xT]⟩)(hx:bl st x=some v)(hy:bl st y=some u)
  (ht:sR P t e k) (Wm:P.underlying xT=some dx) (SV:∀ kd,dx ≠ .int kd) (hG:kP G) (hO:bC K k e R v xs Hs) (hu:lF K k R (G Hs) u ys) (hl:gR xs ys=some zs) (hd:bT o.dst c.n)
  (hC:∀ v' cz,bC K k e R v' zs cz→∃ st',aA (bZ o.dst v' st) st'∧C R (G cz) st'):aK P B c o R (G Hs) st C:=by
 obtain ⟨tz,rfl⟩:=ajT hl
 refine ⟨by rw [ao]; rfl,hd,λ ρ bd=>?_⟩
 simp only [execOp,ao]
 refine ai.eT (a:=⟨.builtin .append #[t,xT] o.type (#[x,y].map λ | .const _=>true | _=>false),#[x,y].map ρ⟩) (ai.pure _) ?_
 simp only [invoke,builtin]
 have e:(#[x,y].map ρ)=#[v,u]:=by simp [bd x _ hx,bd y _ hy]
 rw [e]
 refine aF.bind (aF.append hG ht Wm SV hO hu tz λ v' cz MD=>aF.pure ?_)
 obtain ⟨st',hs,h⟩:=hC v' cz MD
 exact ⟨v',.inl rfl,st',hs,h⟩
theorem At.pU{α:Type}{K:cH α}[CM K]{k e:Nat}{todo:List Item}(G:aj→aj)(hG:kP G){v:Value}{xs:List α}{Hs H2:aj}(h2:G []=H2)(hO:bC K k e R v xs Hs)(h:∀ R',aQ R R'→ag K k R' v xs→At ae c R' H2 st todo):At ae c R (G Hs) st todo:=by
 subst h2
 rcases hO with ⟨A,rfl,rfl,rfl⟩ | ⟨b,cap,cs,es,rfl,rfl,h3,h4,h5,h6⟩
 ·exact h R (aQ.refl R) .nil
 ·obtain ⟨A,D,y7⟩:=hG
  rw [y7] at h ⊢
  refine At.perm (H':=(b,.cells cs e (0,0))::(A++([]++D))) (by simpa using List.perm_middle.symm) (At.freeze λ R' hR hb=>h R' hR ?_)
  exact ⟨_,cap,es,rfl,h5.mono hR,h4,λ _=>⟨b,0,cs,e,(0,0),rfl,hb,λ j w hj=>by simpa using h6 j w hj⟩⟩
theorem At.pT{α:Type}{K:cH α}[CM K]{k e b n:Nat}{todo:List Item}(G:aj→aj)(hG:kP G){H2:aj}(h2:G []=H2){ys:List α}{cs:Array Value}(hE:bh K k R ys cs.toList)(hn:ys.length=n)(h:∀ R',aQ R R'→ag K k R' (.slice (some ⟨b,0,none⟩) n n) ys→At ae c R' H2 st todo):At ae c R (G [(b,.cells cs e (0,0))]) st todo:=by
 subst hn h2
 obtain ⟨A,D,y7⟩:=hG
 rw [y7] at h ⊢
 refine At.perm (H':=(b,.cells cs e (0,0))::(A++([]++D))) (by simpa using List.perm_middle.symm) (At.freeze λ R' hR hb=>h R' hR ?_)
 exact ⟨_,ys.length,cs.toList,rfl,hE.mono hR,Nat.le_refl _,λ _=>⟨b,0,cs,e,(0,0),rfl,hb,λ j w hj=>by simpa using hj⟩⟩
theorem bC.lit{α:Type}{K:cH α}{k e b n:Nat}{ys:List α}{cs:Array Value}(hE:bh K k R ys cs.toList)(hn:ys.length=n):bC K k e R (.slice (some ⟨b,0,none⟩) n n) ys [(b,.cells cs e (0,0))]:=by
 subst hn
 exact .inr ⟨b,_,cs,cs.toList,rfl,rfl,by simpa using hE.len,Nat.le_refl _,hE,λ j w hj=>by simpa using hj⟩
end
end Go.Lg
namespace Go.Lg
open Go.Conc
theorem aA.one{dst:Option Tmp}{d:Tmp}{v:Value}{st:St}(h:dst=some d):aA (bZ dst v st) [(d,v)]:=by
 subst h
 intro t u hu
 simp only [List.lookup_cons,List.lookup_nil] at hu
 simp only [bZ,List.lookup_cons]
 split at hu
 ·exact hu
 ·cases hu
theorem fj.skip{Ks H H':aj}{b:Nat}{o o':Obj}(h:fj H b o o' H'):fj (Ks++H) b o o' (Ks++H'):=by
 induction Ks with
 | nil=>exact h
 | cons p Ks ih=>exact .there ih
theorem aH.box{R:ax}{H:aj}{b:Nat}{e:TypeId}{fz:Nat × Nat}{L:List Value}(hm:(b,Obj.cells L.toArray e fz)∈H):aH R H b 0 L:=λ j v hj=>⟨rfl,_,e,fz,.inr hm,by simpa using hj⟩
theorem kP.id{D:aj}:kP (λ X=>X++D):=⟨[],D,λ _=>rfl⟩
theorem kP.cons{p:Nat × Obj}{G:aj→aj}(h:kP G):kP (λ X=>p::G X):=by
 obtain ⟨A,D,h⟩:=h
 exact ⟨p::A,D,λ X=>by show p::G X=_; rw [h]; rfl⟩
theorem kP.app{L:aj}{G:aj→aj}(h:kP G):kP (λ X=>L++G X):=by
 obtain ⟨A,D,h⟩:=h
 exact ⟨L++A,D,λ X=>by show L++G X=_; rw [h,List.append_assoc]⟩
theorem qB{place:Nat→Option (Nat × Nat)}{cells:Array Value}:Instr.fill place cells []=some cells:=rfl
theorem aGp(vc:List Value):∀ (cells:Array Value) (off j:Nat),(vc.zipIdx j).foldl (λ cs (c,i)=>cs.setIfInBounds (off+i) c) cells=fN cells (off+j) vc:=by
 induction vc with
 | nil=>intro cells off j; rfl
 | cons v r ih=>intro cells off j; simp only [List.zipIdx_cons,List.foldl_cons,fN]; rw [ih]; rfl
theorem aGq(vc cells:Array Value)(off:Nat):vc.zipIdx.foldl (λ cs (c,i)=>cs.setIfInBounds (off+i) c) cells=fN cells off vc.toList:=by
 have h:=aGp vc.toList cells off 0
 rw [Nat.add_zero] at h
 rw [← h,← Array.foldl_toList]
 simp
theorem oT{place:Nat→Option (Nat × Nat)}{cells cells' out vc:Array Value}{i off size:Nat}{v:Value}{rest:List (Nat × Value)}(hp:place i=some (off,size))(hc:v.cells=vc)
  (hs:(vc.size == size && Nat.ble (off+vc.size) cells.size)=true) (mF:fN cells off vc.toList=cells') (h:Instr.fill place cells' rest=some out):Instr.fill place cells ((i,v)::rest)=some out:=by
 subst hc
 rw [Bool.and_eq_true] at hs
 have h1:v.cells.size=size:=by simpa using hs.1
 have h2:off+v.cells.size≤cells.size:=by simpa [Nat.ble_eq] using hs.2
 simp only [Instr.fill,hp]
 rw [if_neg (by simp [h1]; omega),aGq,mF]
 exact h
theorem bc:∀ u∈([]:List Value),u.oneCell'=true:=λ _ h=>by cases h
theorem bS{v:Value}{l:List Value}(h:v.oneCell'=true)(t:∀ u∈l,u.oneCell'=true):∀ u∈v::l,u.oneCell'=true:=λ u hu=>by
 rcases List.mem_cons.1 hu with rfl | hu
 ·exact h
 ·exact t u hu
theorem bu{l m:List Value}(h:∀ u∈l,u.oneCell'=true)(t:∀ u∈m,u.oneCell'=true):∀ u∈l++m,u.oneCell'=true:=λ u hu=>(List.mem_append.1 hu).elim (h u) (t u)
theorem cU{α:Type}{f:α→Value}{xs:List α}(h:∀ x,(f x).oneCell'=true):∀ u∈xs.map f,u.oneCell'=true:=λ u hu=>by
 obtain ⟨x,_,rfl⟩:=List.mem_map.1 hu
 exact h x
theorem aH.part{R:ax}{H:aj}{b o j n:Nat}{L vs:List Value}(h:aH R H b o L)(hv:(L.drop j).take n=vs):aH R H b (o+j) vs:=by
 intro i v hi
 subst hv
 rw [List.getElem?_take] at hi
 split at hi
 ·rw [List.getElem?_drop] at hi
  have:=h _ _ hi
  simpa [Nat.add_assoc] using this
 ·cases hi
theorem aH.arr{α:Type}{R:ax}{H:aj}{b o k:Nat}{f:α→Value}{pre post:List Value}{xs:List α}{i:Int}{x:α}(h:aH R H b o (pre++(xs.map f++post)))(hi:idx xs i=some x)(hk:pre.length=k):Cell R H ⟨b,o+k+i.toNat * 1,none⟩ (f x):=by
 obtain ⟨_,_,h3⟩:=tQ hi
 have bL:=(List.getElem?_eq_some_iff.1 h3).1
 have:=h (k+i.toNat) (f x) (by
  rw [List.getElem?_append_right (by omega),← hk,Nat.add_sub_cancel_left,List.getElem?_append_left (by simpa using bL)]
  simp [h3])
 simpa [Nat.add_assoc] using this
theorem aH.sub{R:ax}{H H':aj}{b o:Nat}{L:List Value}(h:aH R H b o L)(hs:∀ p∈H,p∈H'):aH R H' b o L:=λ j v hj=>by
 obtain ⟨h1,cs,e,fz,h2,h3⟩:=h j v hj
 exact ⟨h1,cs,e,fz,h2.imp id (hs _),h3⟩
theorem aH.le{R R':ax}{H:aj}{b o:Nat}{L:List Value}(h:aH R H b o L)(hs:aQ R R'):aH R' H b o L:=λ j v hj=>by
 obtain ⟨h1,cs,e,fz,h2,h3⟩:=h j v hj
 exact ⟨h1,cs,e,fz,h2.imp (hs _ _) id,h3⟩
theorem QI{α:Type}{f:α→Value}{pre post:List Value}{xs:List α}{i:Int}{x y:α}{k:Nat}(hi:idx xs i=some y)(hk:pre.length=k):((pre++(xs.map f++post)).toArray).setIfInBounds (k+i.toNat * 1) (f x)=(pre++((xs.set i.toNat x).map f++post)).toArray:=by
 obtain ⟨_,_,h3⟩:=tQ hi
 have bL:=(List.getElem?_eq_some_iff.1 h3).1
 subst hk
 simp only [Nat.mul_one,List.setIfInBounds_toArray,List.map_set]
 congr 1
 rw [List.set_append_right _ _ (by omega),Nat.add_sub_cancel_left,List.set_append_left _ _ (by simpa using bL)]
theorem QG{α:Type}{f:α→Value}{pre post:List Value}{xs:List α}{i:Int}{y:α}{k:Nat}(hi:idx xs i=some y)(hk:pre.length=k):Nat.blt (k+i.toNat * 1) ((pre++(xs.map f++post)).toArray).size=true:=by
 obtain ⟨_,_,h3⟩:=tQ hi
 have bL:=(List.getElem?_eq_some_iff.1 h3).1
 rw [Nat.blt_eq]
 simp
 omega
theorem eY{L:List Value}{n:Nat}(h:L.length=n):(L.drop 0).take n=L:=by subst h; simp
theorem aHO{pre mid post:List Value}{k n:Nat}(hk:pre.length=k)(hn:mid.length=n):((pre++(mid++post)).drop k).take n=mid:=by subst hk; subst hn; simp
theorem ou{P:Program}{α:Type}{t e len k b m:Nat}{i:Int}{xs:List α}{x:α}(ht:uO P t len e k)(hl:xs.length=len)(hi:idx xs i=some x):yL P t (.pointer (some ⟨b,m,none⟩)) i b (m+i.toNat * k):=by
 obtain ⟨h1,h2,_⟩:=tQ hi
 exact adH ht ⟨h1,by omega⟩
theorem ag.one{α:Type}{C:cH α}{k:Nat}{R:ax}{v:Value}{xs:List α}(h:ag C k R v xs):v.oneCell'=true:=by
 obtain ⟨A,cap,es,rfl,_⟩:=h; rfl
theorem ag.cells{α:Type}{C:cH α}{k:Nat}{R:ax}{v:Value}{xs:List α}(h:ag C k R v xs):v.cells=#[v]:=by
 obtain ⟨A,cap,es,rfl,_⟩:=h; rfl
theorem bC.cells{α:Type}{C:cH α}{k e:Nat}{R:ax}{v:Value}{xs:List α}{Hs:aj}(h:bC C k e R v xs Hs):v.cells=#[v]:=by
 rcases h with ⟨A,rfl,_⟩ | ⟨b,cap,cs,es,rfl,_⟩ <;> rfl
theorem bC.one{α:Type}{C:cH α}{k e:Nat}{R:ax}{v:Value}{xs:List α}{Hs:aj}(h:bC C k e R v xs Hs):v.oneCell'=true:=by
 rcases h with ⟨A,rfl,_⟩ | ⟨b,cap,cs,es,rfl,_⟩ <;> rfl
theorem bh.cons{α:Type}{C:cH α}{k:Nat}{R:ax}{x:α}{xs:List α}{e1 es:List Value}(h:C R x e1)(hk:e1.length=k)(g:bh C k R xs es):bh C k R (x::xs) (e1++es):=(bh.single h hk).append g
theorem bh.le{α:Type}{C:cH α}{k:Nat}{R:ax}{xs:List α}{es fs:List Value}(h:bh C k R xs es)(e:es=fs):bh C k R xs fs:=by subst e; exact h
section
variable {P:Program} {B:Base} {main:Bool} {ae:Jd P B main} {c:Ctx} {R:ax} {H H':aj} {st st':St} {o:Oper} {k:List Item}
inductive oP (P:Program) (R:ax) (H:aj) (st:St):List ResultVar→List Value→Prop
 | nil:oP P R H st [] []
 | tmp {t:Tmp} {v:Value} {r:List ResultVar} {vs:List Value}:st.lookup t=some v→oP P R H st r vs→oP P R H st (.tmp t::r) (v::vs)
 | one {a:Tmp} {t:TypeId} {b o:Nat} {v:Value} {r:List ResultVar} {vs:List Value}:st.lookup a=some (.pointer (some ⟨b,o,none⟩))→gG P t→Cell R H ⟨b,o,none⟩ v→oP P R H st r vs→oP P R H st (.cell a t::r) (v::vs)
 | agg {a:Tmp} {t:TypeId} {b o n:Nat} {us:List Value} {r:List ResultVar} {vs:List Value}:st.lookup a=some (.pointer (some ⟨b,o,none⟩))→mR P t n→us.length=n→aH R H b o us→oP P R H st r vs→oP P R H st (.cell a t::r) (.agg us.toArray::vs)
theorem aHc{tmps:Array Value}{n:Nat}(ht:cS n st tmps):∀ {l:List ResultVar} {vs:List Value},oP P R H st l vs→∀ {K:List Value→ax→aj→Prop},K vs R H →
  aF P B R H (l.mapM (m:=Sem) λ
   | .tmp t=>pure (tmps.getD t undef)
   | .cell a t=>do loadVar t (← asAddr (tmps.getD a undef))) K:=by
 intro l vs h
 induction h with
 | nil=>intro K hk; exact aF.pure hk
 | @tmp t v r vs hl _ ih =>
  intro K hk
  rw [List.mapM_cons]
  have:tmps.getD t undef=v:=by simp [Array.getD_eq_getD_getElem?,ht.2 t v hl]
  refine ai.eT (a:=v) (by show ai P (pure (tmps.getD t undef)) v; rw [this]; exact ai.pure _) (aF.bind (ih (K:=λ us R' H'=>K (v::us) R' H') hk |>.mono λ us R' H' h=>aF.pure h))
 | @one a t b o v r vs hl Nd hc _ ih =>
  intro K hk
  rw [List.mapM_cons]
  have:tmps.getD a undef = .pointer (some ⟨b,o,none⟩):=by simp [Array.getD_eq_getD_getElem?,ht.2 a _ hl]
  simp only [this]
  refine aF.bind (ai.eT (a:=⟨b,o,none⟩) (ai.pure _) ?_)
  unfold loadVar
  refine ai.eT Nd.1 (aF.load hc (aF.bind (ih (K:=λ us R' H'=>K (v::us) R' H') hk |>.mono λ us R' H' h=>aF.pure h)))
 | @agg a t b o n us r vs hl Nd hn hc _ ih =>
  intro K hk
  rw [List.mapM_cons]
  have:tmps.getD a undef = .pointer (some ⟨b,o,none⟩):=by simp [Array.getD_eq_getD_getElem?,ht.2 a _ hl]
  simp only [this]
  refine aF.bind (ai.eT (a:=⟨b,o,none⟩) (ai.pure _) ?_)
  unfold loadVar
  refine ai.eT Nd.1 ?_
  simp only [if_true]
  subst hn
  refine ai.eT Nd.2 (aF.bind (aF.loadCellsFrom us 0 #[] (by simpa using hc) (aF.pure ?_)))
  simp only [List.append_toArray,List.nil_append]
  exact aF.bind (ih (K:=λ vs R' H'=>K (.agg us.toArray::vs) R' H') hk |>.mono λ us R' H' h=>aF.pure h)
theorem Oz{fn:Func}{tmps:Array Value}{n:Nat}{vs:List Value}(ht:cS n st tmps)(h:oP P R H st fn.results.toList vs):aF P B R H (results fn tmps) λ v R' H'=>v=gX vs∧R'=R∧H'=H:=by
 unfold results
 rw [← Array.toArray_toList (xs:=fn.results),List.mapM_toArray]
 refine aF.bind (aF.map (aHc ht h ?_))
 cases vs with
 | nil=>exact aF.pure ⟨rfl,rfl,rfl⟩
 | cons v r=>cases r with
  | nil=>exact aF.pure ⟨rfl,rfl,rfl⟩
  | cons _ _=>exact aF.pure ⟨rfl,rfl,rfl⟩
theorem At.C6{fr:Frame}{cs:List Frame}{f:FuncId}{n:Nat}{fn:Func}{vs:List Value}(hf:P.funcs[f]? = some fn)(hr:oP P R H st fn.results.toList vs)(hj:ae.J R H (aV (fr.finish (gX vs)) cs)) :
  At ae ⟨f,.normal,none,n,[],fr::cs⟩ R H st (.code .ret::k):=λ tmps ht=>by
 refine Jd.ctl (g':=aV { (aU ⟨f,.normal,none,n,[],fr::cs⟩ tmps (.code .ret::k)) with mode:=.returning } (fr::cs)) rfl (λ w=>by simp [stepG,stepG.exec,aV,aU])
  (ae.step rfl λ w hw=>?_)
 obtain ⟨v,w',R',H',h1,h2,h3,rfl,rfl,rfl⟩:=Oz (P:=P) ht hr w hw
 refine ⟨aV (fr.finish (gX vs)) cs,w',seen P f ((results fn tmps).events P w #[]),R',H',?_,λ e he=>h2 e (mem_seen he),h3,hj⟩
 simp [stepG,unwind,doReturn,aV,aU,hf,h1,GStep.after]
theorem At.wQ{fr:Frame}{cs:List Frame}{f:FuncId}{n:Nat}{fn:Func}{vs:List Value}(hf:P.funcs[f]? = some fn)(hr:oP P R H st fn.results.toList vs)(hj:ae.J R H (aV (fr.finish (gX vs)) cs)) :
  At ae ⟨f,.normal,none,n,[],fr::cs⟩ R H st []:=λ tmps ht=>by
 refine Jd.ctl (g':=aV { (aU ⟨f,.normal,none,n,[],fr::cs⟩ tmps []) with mode:=.returning } (fr::cs)) rfl (λ w=>by simp [stepG,stepG.exec,aV,aU])
  (ae.step rfl λ w hw=>?_)
 obtain ⟨v,w',R',H',h1,h2,h3,rfl,rfl,rfl⟩:=Oz (P:=P) ht hr w hw
 refine ⟨aV (fr.finish (gX vs)) cs,w',seen P f ((results fn tmps).events P w #[]),R',H',?_,λ e he=>h2 e (mem_seen he),h3,hj⟩
 simp [stepG,unwind,doReturn,aV,aU,hf,h1,GStep.after]
end
section
variable {P:Program} {B:Base} {main:Bool}
abbrev nc(α:Type):=ax→α→Value→Prop
def oK(ae:Jd P B main)(R:ax)(H:aj){α β:Type}(A:nc α)(D:nc β)(v:Value)(f:α→Option β):Prop :=
 ∃ gJ first captured,v = .func (.func gJ) first captured∧bp P gJ∧∀ R' H',aQ R R'→(∀ p∈H,p∈H')→∀ x r va,A R' x va→f x=some r→az ae gJ (first++#[va]++captured) R' H' λ v cI dW=>aQ R' cI∧dW=H'∧D cI r v
def VI(kd:IntKind):nc Int:=λ _ x v=>v = .int kd x
def VB:nc Bool:=λ _ x v=>v = .bool x
def jx{α:Type}(C:cH α):nc α:=λ R x v=>∃ es,v = .agg (List.toArray es)∧C R x es
theorem oK.up{ae:Jd P B main}{R R':ax}{H H':aj}{α β:Type}{A:nc α}{D:nc β}{v:Value}{f:α→Option β}(h:oK ae R H A D v f)(hR:aQ R R')(hH:∀ p∈H,p∈H'):oK ae R' H' A D v f:=by
 obtain ⟨gJ,first,captured,h1,h2,h3⟩:=h
 exact ⟨gJ,first,captured,h1,h2,λ cI dW HQ hH'=>h3 cI dW (hR.trans HQ) (λ p hp=>hH' p (hH p hp))⟩
end
end Go.Lg
namespace Go.Lg
open Go.Conc
theorem uz{h l1 l2:aj}(p:List.Sublist l1 l2):List.Sublist (h++l1) (h++l2):=List.Sublist.append (List.Sublist.refl _) p
theorem bB{h l1 l2:aj}(p:List.Sublist l1 l2):List.Sublist l1 (h++l2):=by
 induction h with
 | nil=>exact p
 | cons a h ih=>exact ih.cons a
def nb{α:Type}(f:α→Value)(n:Nat):cH (List α):=λ _ xs es=>xs.length=n∧es=[]++(xs.map f++[])
theorem cR{vs:List Value}{cs:Array Value}(h:vs.length=cs.size):fN cs 0 vs=vs.toArray:=by
 have hs:(fN cs 0 vs).size=cs.size:=Kj _ _ _
 apply Array.ext_getElem?
 intro j
 rw [C5 vs cs 0 j (by omega)]
 by_cases hj:j < vs.length
 ·rw [if_pos (by omega)]; simp
 ·rw [if_neg (by omega)]
  rw [Array.getElem?_eq_none (by omega)]
  simp [Nat.not_lt.1 hj]
section
variable {P:Program} {B:Base} {main:Bool} {ae:Jd P B main} {c:Ctx} {R:ax} {H:aj} {st:St} {k:List Item} {o:Oper} {C:ax→aj→St→Prop}
theorem At.aDb{S Q ρ:Type}{body:S→Option (S ⊕ Q)}{s0:S}{code:Code}{g:Q→Option ρ}{r:ρ}(hM:(Go.Lg.bH body s0).bind g=some r)(I:S→ax→aj→St→Prop)(h0:I s0 R H st)(hb:∀ s R H st,I s R H st→∀ x,body s=some x→(∀ s',x=Sum.inl s'→∀ R' H' st',I s' R' H' st'→At ae c R' H' st' (.inLoop code::k))→(∀ p,x=(Sum.inr p)→g p=some r)→At ae c R H st (.code code :: .inLoop code::k)):At ae c R H st (.code (.loop code)::k):=At.bH hM I (λ s R H st hI x hx again out=>hb s R H st hI x hx again (λ _ hp=>out _ hp)) h0
theorem At.fZ{S P0 ρ:Type}{body:S→Option (S ⊕ P0)}{s0:S}{code:Code}{f0:P0→Option ρ}{r:ρ}{k0:List Item}(hM:(Go.Lg.bH body s0).bind f0=some r)(I:S→ax→aj→St→Prop)(E0:P0→ax→aj→St→Prop)(Ws:Nat)(_:exitTo Ws k=some k0)(h0:I s0 R H st)(rK:∀ p R H st,E0 p R H st→f0 p=some r→At ae c R H st k0)(hb:∀ s R H st,I s R H st→∀ x,body s=some x→(∀ s',x=Sum.inl s'→∀ R' H' st',I s' R' H' st'→At ae c R' H' st' (.inLoop code::k))→(∀ p,x=(Sum.inr p)→∀ R' H' st',E0 p R' H' st'→At ae c R' H' st' k0)→At ae c R H st (.code code :: .inLoop code::k)):At ae c R H st (.code (.loop code)::k):=At.bH hM I (λ s R H st hI x hx again out=>hb s R H st hI x hx again (λ p hp R' H' st' hE=>rK p R' H' st' hE (out _ hp))) h0
theorem At.gp{S P0 Q ρ:Type}{body:S→Option (S ⊕ (P0 ⊕ Q))}{s0:S}{code:Code}{f0:P0→Option ρ}{g:Q→Option ρ}{r:ρ}{k0:List Item}(hM:(Go.Lg.bH body s0).bind (Sum.elim f0 g)=some r)(I:S→ax→aj→St→Prop)(E0:P0→ax→aj→St→Prop)(Ws:Nat)(_:exitTo Ws k=some k0)(h0:I s0 R H st)(rK:∀ p R H st,E0 p R H st→f0 p=some r→At ae c R H st k0)(hb:∀ s R H st,I s R H st→∀ x,body s=some x→(∀ s',x=Sum.inl s'→∀ R' H' st',I s' R' H' st'→At ae c R' H' st' (.inLoop code::k))→(∀ p,x=(Sum.inr (Sum.inl p))→∀ R' H' st',E0 p R' H' st'→At ae c R' H' st' k0)→(∀ p,x=(Sum.inr (Sum.inr p))→g p=some r)→At ae c R H st (.code code :: .inLoop code::k)):At ae c R H st (.code (.loop code)::k):=At.bH hM I (λ s R H st hI x hx again out=>hb s R H st hI x hx again (λ p hp R' H' st' hE=>rK p R' H' st' hE (out _ hp)) (λ _ hp=>out _ hp)) h0
theorem At.fT{P0 ρ:Type}{A:Option P0}{it:Item}{f0:P0→Option ρ}{r:ρ}(hM:A.bind f0=some r)(E0:P0→ax→aj→St→Prop)(rK:∀ p R H st,E0 p R H st→f0 p=some r→At ae c R H st k)(hb:∀ x,A=some x→(∀ p,x=p→∀ R' H' st',E0 p R' H' st'→At ae c R' H' st' k)→At ae c R H st (it::k)):At ae c R H st (it::k):=by
 obtain ⟨x,h1,h2⟩:=ah hM
 exact hb x h1 (λ p hp R' H' st' hE=>rK p R' H' st' hE (by subst hp; exact h2))
theorem At.aB5{P0 Q ρ:Type}{A:Option (P0 ⊕ Q)}{it:Item}{f0:P0→Option ρ}{g:Q→Option ρ}{r:ρ}(hM:A.bind (Sum.elim f0 g)=some r)(E0:P0→ax→aj→St→Prop)(rK:∀ p R H st,E0 p R H st→f0 p=some r→At ae c R H st k)(hb:∀ x,A=some x→(∀ p,x=(Sum.inl p)→∀ R' H' st',E0 p R' H' st'→At ae c R' H' st' k)→(∀ p,x=(Sum.inr p)→g p=some r)→At ae c R H st (it::k)):At ae c R H st (it::k):=by
 obtain ⟨x,h1,h2⟩:=ah hM
 exact hb x h1 (λ p hp R' H' st' hE=>rK p R' H' st' hE (by subst hp; exact h2)) (λ p hp=>by subst hp; exact h2)
theorem Ox.s9{α β:Type}{A:nc α}{D:nc β}{f:α→Option β}{x y:Operand}{ts:Array TypeId}{v va:Value}{a:α}{r:β}{H0:aj}(h:oK ae R H0 A D v f)
  (ao:o.op = .call ⟨.value x,#[y],ts⟩) (hx:bl st x=some v) (hy:bl st y=some va) (hA:A R a va) (hf:f a=some r) (hd:bT o.dst c.n) (hH:∀ p∈H0,p∈H)
  (hC:∀ w R',aQ R R'→D R' r w→∃ st',aA (bZ o.dst w st) st'∧C R' H st'):oO ae c o R H st C:=by
 obtain ⟨gJ,first,captured,rfl,he,hk⟩:=h
 refine Ox.dE (vs:=[va]) ao rfl hx (by simp [iG,hy]) he rfl hd ((hk R H (aQ.refl _) hH a r va hA hf).mono λ w R' H' h=>?_)
 obtain ⟨h1,rfl,h3⟩:=h
 exact hC w R' h1 h3
end
end Go.Lg
namespace Go.Lg
open Go.Conc
def dr{α:Type}(C:cH α)(k:Nat)(R:ax)(H:aj)(v:Value)(xs:List α):Prop :=
 ∃ A cap es,v = .slice A xs.length cap∧bh C k R xs es∧xs.length≤cap∧(xs≠[]→∃ b o,A=some ⟨b,o,none⟩∧aH R H b o es)
theorem dr.le{α:Type}{C:cH α}[CM C]{k:Nat}{R R':ax}{H:aj}{v:Value}{xs:List α}(h:dr C k R H v xs)(hR:aQ R R'):dr C k R' H v xs:=by
 obtain ⟨A,cap,es,h1,h2,h3,h4⟩:=h
 refine ⟨A,cap,es,h1,h2.mono hR,h3,λ hx=>?_⟩
 obtain ⟨b,o,g1,g2⟩:=h4 hx
 exact ⟨b,o,g1,g2.le hR⟩
theorem dr.sub{α:Type}{C:cH α}{k:Nat}{R:ax}{H H':aj}{v:Value}{xs:List α}(h:dr C k R H v xs)(hs:∀ p∈H,p∈H'):dr C k R H' v xs:=by
 obtain ⟨A,cap,es,h1,h2,h3,h4⟩:=h
 refine ⟨A,cap,es,h1,h2,h3,λ hx=>?_⟩
 obtain ⟨b,o,g1,g2⟩:=h4 hx
 exact ⟨b,o,g1,g2.sub hs⟩
theorem ag.rd{α:Type}{C:cH α}{k:Nat}{R:ax}{H:aj}{v:Value}{xs:List α}(h:ag C k R v xs):dr C k R H v xs:=by
 obtain ⟨A,cap,es,h1,h2,hc,h3⟩:=h
 refine ⟨A,cap,es,h1,h2,hc,λ hx=>?_⟩
 obtain ⟨b,o,arr,e,fz,g1,g2,g3⟩:=h3 hx
 exact ⟨b,o,g1,λ j w hj=>⟨rfl,arr,e,fz,.inl g2,g3 j w hj⟩⟩
theorem bC.rd{α:Type}{C:cH α}{k e:Nat}{R:ax}{H:aj}{v:Value}{xs:List α}{Hs:aj}(h:bC C k e R v xs Hs)(hs:∀ p∈Hs,p∈H):dr C k R H v xs:=by
 rcases h with ⟨A,rfl,rfl,rfl⟩ | ⟨b,cap,cs,es,rfl,rfl,h3,h4,h5,h6⟩
 ·exact ⟨A,0,[],rfl,.nil,Nat.le_refl _,λ h=>absurd rfl h⟩
 ·exact ⟨_,cap,es,rfl,h5,h4,λ _=>⟨b,0,rfl,λ j w hj=>⟨rfl,cs,e,(0,0),.inr (hs _ (by simp)),by simpa using h6 j w hj⟩⟩⟩
theorem dr.lit{α:Type}{C:cH α}{k e n b:Nat}{R:ax}{H:aj}{ys:List α}{cs:Array Value}{fz:Nat × Nat}(hm:(b,Obj.cells cs e fz)∈H)(hE:bh C k R ys cs.toList)(hn:ys.length=n):dr C k R H (.slice (some ⟨b,0,none⟩) n n) ys:=by
 subst hn
 exact ⟨_,ys.length,cs.toList,rfl,hE,Nat.le_refl _,λ _=>⟨b,0,rfl,λ j w hj=>⟨rfl,cs,e,fz,.inr hm,by simpa using hj⟩⟩⟩
theorem dr.arg{α:Type}{C:cH α}{k:Nat}{R:ax}{H:aj}{v:Value}{xs:List α}(h:dr C k R H v xs):lF C k R H v xs:=by
 obtain ⟨A,cap,es,h1,h2,_,h3⟩:=h
 exact ⟨A,cap,es,h1,h2,h3⟩
theorem dr.elem{P:Program}{α:Type}{K:cH α}{k t e:Nat}{R:ax}{H:aj}{v:Value}{xs:List α}{i:Int}{x:α}(h:dr K k R H v xs)(ht:mU P t e k)(hi:idx xs i=some x) :
  ∃ b n es,K R x es∧aH R H b n es∧yL P t v i b n:=by
 obtain ⟨h1,h2,h3⟩:=tQ hi
 obtain ⟨A,cap,es,rfl,hE,_,hc⟩:=h
 obtain ⟨b,o,rfl,g2⟩:=hc (by rintro rfl; simp at h3)
 obtain ⟨e1,f1,f2,f3⟩:=hE.at_ _ _ h3
 refine ⟨b,o+i.toNat * k,e1,f1,λ j w hj=>?_,λ kd=>?_⟩
 ·have:=g2 _ _ (f3 j w hj)
  simpa [Nat.add_assoc] using this
 ·have:=X7 (P:=P) (b:=b) (m:=o) (cap:=cap) (kd:=kd) ht (j:=i.toNat) (len:=xs.length) (by omega)
  rwa [Int.toNat_of_nonneg h1] at this
theorem rj(a b:Nat × Obj)(l:aj):List.Perm (a::b::l) (b::a::l):=List.Perm.swap _ _ _
section
variable {P:Program} {B:Base} {main:Bool} {ae:Jd P B main} {c:Ctx} {R:ax} {H H':aj} {st st':St} {o:Oper} {C:ax→aj→St→Prop} {k:List Item}
theorem Ox.WG{α:Type}{K:cH α}{k:Nat}{x:Operand}{t e:TypeId}{v:Value}{xs:List α}{H0:aj}(ao:o.op = .call ⟨.builtin .len,#[x],#[t]⟩)(hx:bl st x=some v)(hl:dr K k R H0 v xs)(ht:P.underlying t=some (.slice e))
  (hd:bT o.dst c.n) (hs:aA (bZ o.dst (.int .i64 (xs.length:Int)) st) st') (h:C R H st'):aK P B c o R H st C:=by
 obtain ⟨A,cap,es,rfl,_⟩:=hl
 exact Ox.len ao hx ht hd hs h
theorem At.cut{it:Item}(E:ax→aj→St→Prop)(h1:∀ R' H' st',E R' H' st'→At ae c R' H' st' k)(h2:(∀ R' H' st',E R' H' st'→At ae c R' H' st' k)→At ae c R H st (it::k)):At ae c R H st (it::k):=h2 h1
theorem Any.aHX{S:Nat→aj}{ops:Array Oper}{n:Nat}{rem ra rb:List Nat}{i j:Nat}{a b:Oper}(ha:ops[i]? = some a)(hb:ops[j]? = some b)(mG:rem.filter (nE ops rem)=[i,j])(Je:cN ops st a=some true)(Jf:cN ops st b=some true)(dR:rem.Nodup)(BJ:rem.erase i=ra)(TO:rem.erase j=rb)
  (h1:oO ae c a R H st λ R' H' st'=>aQ R R'∧(∀ p∈S i,p∈H→p∈H')∧Any ae c S ops k n ra R' H' st')
  (h2:oO ae c b R H st λ R' H' st'=>aQ R R'∧(∀ p∈S j,p∈H→p∈H')∧Any ae c S ops k n rb R' H' st'):Any ae c S ops k (n+1) rem R H st:=by
 subst BJ TO
 refine ⟨dR,λ tmps ht=>.inr ⟨(λ e=>by rw [e] at mG; cases mG),λ _ x hx Wn=>?_⟩⟩
 have:x∈rem.filter (nE ops rem):=List.mem_filter.2 ⟨hx,Wn⟩
 rw [mG] at this
 simp only [List.mem_cons,List.not_mem_nil,or_false] at this
 rcases this with rfl | rfl
 ·exact h1.FP ha (kl ht Je) ht
 ·exact h2.FP hb (kl ht Jf) ht
theorem Any.OJ{S:Nat→aj}{ops:Array Oper}{n:Nat}{rem ra rb rc:List Nat}{i j l:Nat}{a b d:Oper}(ha:ops[i]? = some a)(hb:ops[j]? = some b)(hd:ops[l]? = some d)(mG:rem.filter (nE ops rem)=[i,j,l])(Je:cN ops st a=some true)(Jf:cN ops st b=some true)(hwd:cN ops st d=some true)(dR:rem.Nodup)(BJ:rem.erase i=ra)(TO:rem.erase j=rb)(hrc:rem.erase l=rc)
  (h1:oO ae c a R H st λ R' H' st'=>aQ R R'∧(∀ p∈S i,p∈H→p∈H')∧Any ae c S ops k n ra R' H' st')
  (h2:oO ae c b R H st λ R' H' st'=>aQ R R'∧(∀ p∈S j,p∈H→p∈H')∧Any ae c S ops k n rb R' H' st')
  (h3:oO ae c d R H st λ R' H' st'=>aQ R R'∧(∀ p∈S l,p∈H→p∈H')∧Any ae c S ops k n rc R' H' st'):Any ae c S ops k (n+1) rem R H st:=by
 subst BJ TO hrc
 refine ⟨dR,λ tmps ht=>.inr ⟨(λ e=>by rw [e] at mG; cases mG),λ _ x hx Wn=>?_⟩⟩
 have:x∈rem.filter (nE ops rem):=List.mem_filter.2 ⟨hx,Wn⟩
 rw [mG] at this
 simp only [List.mem_cons,List.not_mem_nil,or_false] at this
 rcases this with rfl | rfl | rfl
 ·exact h1.FP ha (kl ht Je) ht
 ·exact h2.FP hb (kl ht Jf) ht
 ·exact h3.FP hd (kl ht hwd) ht
end
end Go.Lg
namespace Go.Lg
open Go.Conc
section
variable {P:Program} {d:Nat} {xs ys:Array Value}
inductive GX (P:Program) (d:Nat) (xs ys:Array Value):List Field→Bool→Prop
 | nil:GX P d xs ys [] true
 | cons {f:Field} {rest:List Field} {a b:Value} {r r':Bool}:(f.name == "_")=false→ai P (part f.type xs f.offset) a→ai P (part f.type ys f.offset) b→ai P (Op.equalIn d f.type a b) r→GX P d xs ys rest r'→GX P d xs ys (f::rest) (r && r')
def qZ(r:Bool):Option Bool × Unit:=(if r then none else some false,())
theorem aH9{fs:List Field}{r:Bool}(h:GX P d xs ys fs r) :
  ai P (forIn fs ((none:Option Bool),()) λ f (_:Option Bool × Unit) =>
      if f.name ≠ "_" then do
       let a ← part f.type xs f.offset
       let b ← part f.type ys f.offset
       let q ← Op.equalIn d f.type a b
       if (!q)=true then pure (ForInStep.done (some false,())) else pure (ForInStep.yield (none,()))
      else pure (ForInStep.yield (none,()))) (qZ r):=by
 induction h with
 | nil=>rw [List.forIn_nil]; exact ai.pure _
 | @cons f rest a b r r' hn ha hb hq _ ih =>
  have xb:f.name ≠ "_":=by simpa using hn
  rw [List.forIn_cons]
  simp only [xb,ne_eq,not_false_iff,if_true,bind_assoc]
  refine ai.bind ha (ai.bind hb (ai.bind hq ?_))
  cases r with
  | false=>simp only [Bool.not_false,if_true,pure_bind,Bool.false_and]; exact ai.pure _
  | true =>
   simp only [Bool.not_true,Bool.false_eq_true,if_false,pure_bind,Bool.true_and]
   simpa only [ne_eq] using ih
theorem af3{t:TypeId}{fields:Array Field}{r:Bool}(hu:P.underlying t=some (.struct fields))(cQ:P.stoodInHeld t=false)(h:GX P d xs ys fields.toList r):ai P (Op.equalIn (d+1) t (.agg xs) (.agg ys)) r:=by
 rw [Op.equalIn]
 refine ai.bind (ai.underlying hu) ?_
 dsimp only
 refine ai.bind ai.program ?_
 simp only [cQ,Bool.false_eq_true,if_false]
 rw [← Array.forIn_toList]
 refine ai.bind (aH9 h) ?_
 cases r <;> exact ai.pure _
theorem OY{t:TypeId}{kd:IntKind}{a b:Int}(hu:P.underlying t=some (.int kd)):ai P (Op.equalIn (d+1) t (.int kd a) (.int kd b)) (a == b):=by
 rw [Op.equalIn]
 refine ai.bind (ai.underlying hu) ?_
 simp only [if_true]
 exact ai.pure _
theorem OX{t:TypeId}{a b:Bool}(hu:P.underlying t=some .bool):ai P (Op.equalIn (d+1) t (.bool a) (.bool b)) (a == b):=by
 rw [Op.equalIn]
 exact ai.bind (ai.underlying hu) (ai.pure _)
inductive GV (P:Program) (d:Nat) (elem:TypeId) (n:Nat) (xs ys:Array Value):List Nat→Bool→Prop
 | nil:GV P d elem n xs ys [] true
 | cons {i:Nat} {rest:List Nat} {a b:Value} {r r':Bool}:ai P (part elem xs (i * n)) a→ai P (part elem ys (i * n)) b→ai P (Op.equalIn d elem a b) r→GV P d elem n xs ys rest r'→GV P d elem n xs ys (i::rest) (r && r')
theorem aH8{elem:TypeId}{n:Nat}{is:List Nat}{r:Bool}(h:GV P d elem n xs ys is r) :
  ai P (forIn is ((none:Option Bool),()) λ i (_:Option Bool × Unit)=>do
      let a ← part elem xs (i * n)
      let b ← part elem ys (i * n)
      let q ← Op.equalIn d elem a b
      if (!q)=true then pure (ForInStep.done (some false,())) else pure (ForInStep.yield (none,()))) (qZ r):=by
 induction h with
 | nil=>rw [List.forIn_nil]; exact ai.pure _
 | @cons i rest a b r r' ha hb hq _ ih =>
  rw [List.forIn_cons]
  simp only [bind_assoc]
  refine ai.bind ha (ai.bind hb (ai.bind hq ?_))
  cases r with
  | false=>simp only [Bool.not_false,if_true,pure_bind,Bool.false_and]; exact ai.pure _
  | true =>
   simp only [Bool.not_true,Bool.false_eq_true,if_false,pure_bind,Bool.true_and]
   exact ih
theorem aH6{n len:Nat}{t elem:TypeId}{r:Bool}(hu:P.underlying t=some (.array len elem))(hs:ai P (sizeOf elem) n)(h:GV P d elem n xs ys (List.range len) r):ai P (Op.equalIn (d+1) t (.agg xs) (.agg ys)) r:=by
 rw [Op.equalIn]
 refine ai.bind (ai.underlying hu) ?_
 dsimp only
 refine ai.bind hs ?_
 rw [Std.Legacy.Range.forIn_eq_forIn_range']
 simp only [Std.Legacy.Range.size,Nat.sub_zero,Nat.add_sub_cancel,Nat.div_one]
 rw [← List.range_eq_range']
 refine ai.bind (aH8 h) ?_
 cases r <;> exact ai.pure _
end
end Go.Lg
namespace Go.Lg
open Go.Conc
def gN(s:ByteArray):List Int:=s.data.toList.map λ b=>(b.toNat:Int)
def uy(s:ByteArray)(i:Int):Option Int:=idx (gN s) i
section
variable {P:Program} {B:Base} {main:Bool} {ae:Jd P B main} {c:Ctx} {R:ax} {H H':aj} {st st':St} {o:Oper} {C:ax→aj→St→Prop} {k:List Item}
theorem Ox.Nw{x y:Operand}{t:TypeId}{s:ByteArray}{kd:IntKind}{i z:Int}(ao:o.op = .index t x y)(hx:bl st x=some (.string s))(hy:bl st y=some (.int kd i))(ht:P.underlying t=some .string)(hz:uy s i=some z)
  (hd:bT o.dst c.n) (hs:aA (bZ o.dst (.int .u8 z) st) st') (h:C R H st'):aK P B c o R H st C :=
 Ox.lb (s:=λ ρ=>Instr.index t (ρ x) (ρ y)) (by rw [ao]; rfl) hd (λ ρ=>by simp only [execOp,ao]) (λ ρ bd=>by
  rw [bd x _ hx,bd y _ hy]
  obtain ⟨h1,h2,h3⟩:=tQ hz
  unfold gN at h3
  rw [List.getElem?_map] at h3
  obtain ⟨b,hb,rfl⟩:=Option.map_eq_some_iff.1 h3
  unfold Instr.index
  refine ai.bind (a:=(kd,i)) (ai.pure _) (ai.bind (ai.underlying ht) ?_)
  have e:(if 0≤i then s[i.toNat]? else none)=some b:=by
   rw [if_pos h1]
   have fV:s.data[i.toNat]? = some b:=by simpa using hb
   rw [← fV]
   rfl
  simp only [e]
  exact ai.pure _) hs h
def Zc(P:Program)(t:TypeId)(z:Array Value):Prop:=iF P t z∧∃ n e m,P.underlying t=some (.array n e)∧ai P (sizeOf e) m
theorem Ox.LX{t:TypeId}{z:Array Value}(ao:o.op = .build t #[])(ht:Zc P t z)
  (hd:bT o.dst c.n) (hs:aA (bZ o.dst (.agg z) st) st') (h:C R H st'):aK P B c o R H st C :=
 Ox.lb (s:=λ _=>Instr.build t #[]) (by rw [ao]; rfl) hd (λ ρ=>by simp [execOp,ao]) (λ ρ bd=>by
  obtain ⟨⟨z0,hz,rfl⟩,n,e,m,h1,h2⟩:=ht
  unfold Instr.build
  exact ai.bind hz (ai.bind (ai.underlying h1) (ai.bind h2 (ai.pure _)))) hs h
def DX(P:Program)(t _:Nat)(v:Value)(len l h:Int)(v':Value):Prop :=
 ∀ (ρ:Operand→Value) (st:St) (x:Operand) (lo hi:Option Operand),Knows st ρ→ρ x=v→JH st lo=some l→Il st len.toNat hi=some h→ai P (Instr.sliceAt t (ρ x) (lo.map ρ) (hi.map ρ) none) v'
theorem dr.cut{α:Type}{K:cH α}{k t e:Nat}{xs ys:List α}{v:Value}{l h:Int}{H0:aj}(hS:dr K k R H0 v xs)(ht:mU P t e k)(hc:lK xs l h=some ys):∃ v',dr K k R H0 v' ys∧DX P t k v (xs.length:Int) l h v':=by
 obtain ⟨h1,h2,h3,rfl⟩:=HD hc
 obtain ⟨A,cap,es,rfl,hE,w7,hm⟩:=hS
 refine ⟨(.slice (if cap=l.toNat then A else A.map (·.add (l.toNat * k))) (h.toNat - l.toNat) (cap - l.toNat)),?_,?_⟩
 ·have zo:((xs.take h.toNat).drop l.toNat).length=h.toNat - l.toNat:=by
   simp only [List.length_drop,List.length_take]
   omega
  refine ⟨(if cap=l.toNat then A else A.map (·.add (l.toNat * k))),cap - l.toNat,(es.take (h.toNat * k)).drop (l.toNat * k),by rw [zo],hE.take.drop,by rw [zo]; omega,λ cT=>?_⟩
  have bL:l.toNat < h.toNat:=by
   apply Classical.byContradiction
   intro hn
   apply cT
   apply List.eq_nil_of_length_eq_zero
   simp only [List.length_drop,List.length_take]
   omega
  obtain ⟨b,o',rfl,g2⟩:=hm (by rintro rfl; simp at h3; omega)
  refine ⟨b,o'+l.toNat * k,?_,λ j w hj=>?_⟩
  ·rw [if_neg (by omega)]; simp [ry]
  ·rw [List.getElem?_drop,List.getElem?_take] at hj
   split at hj
   ·have:=g2 _ _ hj
    simpa [Nat.add_assoc] using this
   ·cases hj
 ·intro ρ st x lo hi bd hx hl hh
  rw [Int.toNat_natCast] at hh
  rw [hx]
  unfold Instr.sliceAt
  refine ai.bind (ai.underlying ht.1) ?_
  unfold Instr.slice
  refine ai.bind (ai.underlying ht.1) (ai.bind (OW bd hl hh ⟨h1,h2,h3⟩ w7) (ai.bind ht.2 (ai.pure _)))
theorem ag.cut{α:Type}{K:cH α}{k t e:Nat}{xs ys:List α}{v:Value}{l h:Int}(hS:ag K k R v xs)(ht:mU P t e k)(hc:lK xs l h=some ys):∃ v',ag K k R v' ys∧DX P t k v (xs.length:Int) l h v':=by
 obtain ⟨h1,h2,h3,rfl⟩:=HD hc
 obtain ⟨A,cap,es,rfl,hE,w7,hm⟩:=hS
 refine ⟨(.slice (if cap=l.toNat then A else A.map (·.add (l.toNat * k))) (h.toNat - l.toNat) (cap - l.toNat)),?_,?_⟩
 ·have zo:((xs.take h.toNat).drop l.toNat).length=h.toNat - l.toNat:=by
   simp only [List.length_drop,List.length_take]
   omega
  refine ⟨(if cap=l.toNat then A else A.map (·.add (l.toNat * k))),cap - l.toNat,(es.take (h.toNat * k)).drop (l.toNat * k),by rw [zo],hE.take.drop,by rw [zo]; omega,λ cT=>?_⟩
  have bL:l.toNat < h.toNat:=by
   apply Classical.byContradiction
   intro hn
   apply cT
   apply List.eq_nil_of_length_eq_zero
   simp only [List.length_drop,List.length_take]
   omega
  obtain ⟨b,o',arr,e',fz,rfl,g2,g3⟩:=hm (by rintro rfl; simp at h3; omega)
  refine ⟨b,o'+l.toNat * k,arr,e',fz,?_,g2,λ j w hj=>?_⟩
  ·rw [if_neg (by omega)]; simp [ry]
  ·rw [List.getElem?_drop,List.getElem?_take] at hj
   split at hj
   ·have:=g3 _ _ hj
    simpa [Nat.add_assoc] using this
   ·cases hj
 ·intro ρ st x lo hi bd hx hl hh
  rw [Int.toNat_natCast] at hh
  rw [hx]
  unfold Instr.sliceAt
  refine ai.bind (ai.underlying ht.1) ?_
  unfold Instr.slice
  refine ai.bind (ai.underlying ht.1) (ai.bind (OW bd hl hh ⟨h1,h2,h3⟩ w7) (ai.bind ht.2 (ai.pure _)))
theorem Ox.HE{x:Operand}{t k:Nat}{lo hi:Option Operand}{v v':Value}{len l h:Int}(ao:o.op = .slice t x lo hi none)(hx:bl st x=some v)(hl:JH st lo=some l)(hh:Il st len.toNat hi=some h)(hc:DX P t k v len l h v')(hd:bT o.dst c.n)
  (hs:aA (bZ o.dst v' st) st') (hC:C R H st'):aK P B c o R H st C :=
 Ox.lb (s:=λ ρ=>Instr.sliceAt t (ρ x) (lo.map ρ) (hi.map ρ) none) (by rw [ao]; rfl) hd (λ ρ=>by simp only [execOp,ao]; rfl) (λ ρ bd=>hc ρ st x lo hi bd (bd x _ hx) hl hh) hs hC
theorem bC.gw{α:Type}{K:cH α}{k t e:Nat}{v:Value}{xs:List α}{Hs:aj}{i:Int}{x:α}(h:bC K k e R v xs Hs)(ht:mU P t e k)(hi:idx xs i=some x) :
  ∃ b cs es,K R x es∧Hs=[(b,.cells cs e (0,0))]∧aH R Hs b (i.toNat * k) es∧(∀ (j:Nat) (w:Value),es[j]? = some w→cs[i.toNat * k+j]? = some w)∧yL P t v i b (i.toNat * k)∧es.length=k∧i.toNat * k+k≤cs.size ∧
   ∀ x' tc,K R x' tc→tc.length=k→bC K k e R v (xs.set i.toNat x') [(b,.cells (fN cs (i.toNat * k) tc) e (0,0))]:=by
 obtain ⟨h1,h2,h3⟩:=tQ hi
 rcases h with ⟨A,rfl,rfl,rfl⟩ | ⟨b,cap,cs,es,rfl,rfl,g3,g4,g5,g6⟩
 ·simp at h3
 obtain ⟨e1,f1,f2,f3⟩:=g5.at_ _ _ h3
 have bL:i.toNat < xs.length:=(List.getElem?_eq_some_iff.1 h3).1
 have fH:i.toNat * k+k≤xs.length * k:=by
  calc i.toNat * k+k=(i.toNat+1) * k:=by rw [Nat.add_mul,Nat.one_mul]
   _≤xs.length * k:=Nat.mul_le_mul_right k bL
 have pX:xs.length * k≤cs.size:=by rw [g3]; exact Nat.mul_le_mul_right k g4
 refine ⟨b,cs,e1,f1,rfl,λ j w hj=>⟨rfl,cs,e,(0,0),.inr (by simp),g6 _ _ (f3 j w hj)⟩,λ j w hj=>g6 _ _ (f3 j w hj),λ kd=>?_,f2,by omega,λ x' tc zy hl'=>?_⟩
 ·have:=X7 (P:=P) (b:=b) (m:=0) (cap:=cap) (kd:=kd) ht (j:=i.toNat) (len:=xs.length) bL
  rw [Int.toNat_of_nonneg h1] at this
  simpa using this
 ·refine .inr ⟨b,cap,_,(es.take (i.toNat * k))++(tc++es.drop (i.toNat * k+k)),by rw [List.length_set],rfl,by rw [Kj]; exact g3,by rw [List.length_set]; exact g4,?_,?_⟩
  ·have lp:=g5.len
   refine ⟨?_,λ j y hy=>?_⟩
   ·simp only [List.length_append,List.length_take,List.length_drop,List.length_set,hl',lp]
    omega
   ·rw [List.getElem?_set] at hy
    split at hy
    ·rename_i gi
     subst gi
     cases hy
     refine ⟨tc,zy,hl',λ a w hw=>?_⟩
     have ha:=(List.getElem?_eq_some_iff.1 hw).1
     rw [List.getElem?_append_right (by simp only [List.length_take]; omega)]
     simp only [List.length_take,lp]
     rw [show i.toNat * k+a - min (i.toNat * k) (xs.length * k)=a by omega,List.getElem?_append_left ha]
     exact hw
    ·rename_i gi
     obtain ⟨e2,q1,q2,q3⟩:=g5.at_ _ _ hy
     refine ⟨e2,q1,q2,λ a w hw=>?_⟩
     have ha:=(List.getElem?_eq_some_iff.1 hw).1
     rw [q2] at ha
     have hold:=q3 a w hw
     rcases Nat.lt_or_ge j i.toNat with acX | tu
     ·have:j * k+k≤i.toNat * k:=by
       calc j * k+k=(j+1) * k:=by rw [Nat.add_mul,Nat.one_mul]
        _≤i.toNat * k:=Nat.mul_le_mul_right k acX
      rw [List.getElem?_append_left (by simp only [List.length_take,lp]; omega),List.getElem?_take,if_pos (by omega)]
      exact hold
     ·have:i.toNat * k+k≤j * k:=by
       calc i.toNat * k+k=(i.toNat+1) * k:=by rw [Nat.add_mul,Nat.one_mul]
        _≤j * k:=Nat.mul_le_mul_right k (by omega)
      rw [List.getElem?_append_right (by simp only [List.length_take]; omega),List.getElem?_append_right (by simp only [List.length_take,lp,hl']; omega),List.getElem?_drop]
      simp only [List.length_take,lp,hl']
      rw [show i.toNat * k+k+(j * k+a - min (i.toNat * k) (xs.length * k) - k)=j * k+a by omega]
      exact hold
  ·intro j w hj
   have lp:=g5.len
   rw [C5 tc cs (i.toNat * k) j (by rw [hl']; omega)]
   rw [List.getElem?_append] at hj
   simp only [List.length_take,lp] at hj
   split at hj
   ·rename_i acX
    rw [List.getElem?_take] at hj
    split at hj
    ·rw [if_neg (by omega)]
     exact g6 _ _ hj
    ·cases hj
   ·rw [List.getElem?_append] at hj
    split at hj
    ·rename_i h5 h6
     rw [if_pos (by omega),← hj]
     congr 1
     omega
    ·rename_i h5 h6
     rw [hl'] at h6
     rw [if_neg (by rw [hl']; omega)]
     rw [List.getElem?_drop,hl'] at hj
     have:=g6 _ _ hj
     rwa [show i.toNat * k+k+(j - min (i.toNat * k) (xs.length * k) - k)=j by omega] at this
theorem Xx:∀ (vs ws:List Value) (cs:Array Value) (o:Nat),fN cs o (vs++ws)=fN (fN cs o vs) (o+vs.length) ws
 | [],ws,cs,o=>by simp [fN]
 | v::vs,ws,cs,o=>by
  simp only [List.cons_append,fN,List.length_cons]
  rw [Xx vs ws]
  congr 1
  omega
theorem Xy:∀ (vs:List Value) (cs:Array Value) (o:Nat),(∀ j w,vs[j]? = some w→cs[o+j]? = some w)→fN cs o vs=cs
 | [],cs,o,_=>rfl
 | v::vs,cs,o,h=>by
  have h0:cs[o]? = some v:=h 0 v rfl
  have bL:=(Array.getElem?_eq_some_iff.1 h0).1
  have e:cs.setIfInBounds o v=cs:=by
   apply Array.ext_getElem?
   intro j
   by_cases hj:o=j
   ·subst hj; rw [Array.getElem?_setIfInBounds_self_of_lt bL,h0]
   ·rw [Array.getElem?_setIfInBounds_ne hj]
  simp only [fN,e]
  exact Xy vs cs (o+1) λ j w hj=>by
   have:=h (j+1) w (by simpa using hj)
   rwa [show o+(j+1)=o+1+j by omega] at this
theorem Ox.gD{α:Type}{K:cH α}{k e t b j n:Nat}{x y:Operand}{G:aj→aj}{v w:Value}{xs:List α}{i:Int}{x':α}{cs:Array Value}{pre mid post vs:List Value}(hG:kP G)
  (ao:o.op = .store t x y) (hx:bl st x=some (.pointer (some ⟨b,i.toNat * k+j,none⟩))) (hy:bl st y=some w) (hw:w.cells.toList=vs) (ht:ai P (sizeOf t) n) (hn:vs.length=n) (h1:∀ u∈vs,u.oneCell'=true)
  (hc:∀ (j:Nat) (w:Value),(pre++(mid++post))[j]? = some w→cs[i.toNat * k+j]? = some w) (hj:pre.length=j) (hm:mid.length=n) (hk:(pre++(mid++post)).length=k) (fH:i.toNat * k+k≤cs.size)
  (hO:∀ x' tc,K R x' tc→tc.length=k→bC K k e R v (xs.set i.toNat x') [(b,.cells (fN cs (i.toNat * k) tc) e (0,0))]) (hK:K R x' (pre++(vs++post)))
  (hd:o.dst=none) (IE:aA st st') (h:∀ cz,bC K k e R v (xs.set i.toNat x') cz→C R (G cz) st'):aK P B c o R (G [(b,.cells cs e (0,0))]) st C:=by
 have mF:fN cs (i.toNat * k+j) vs=fN cs (i.toNat * k) (pre++(vs++post)):=by
  rw [Xx,Xy pre cs _ (λ a u ha=>hc a u (by rw [List.getElem?_append_left (List.getElem?_eq_some_iff.1 ha).1]; exact ha)),Xx,hj,hn]
  rw [Xy post]
  intro a u ha
  have h2:=hc (j+n+a) u (by
   rw [List.getElem?_append_right (by omega),List.getElem?_append_right (by omega)]
   rw [show j+n+a - pre.length - mid.length=a by omega]
   exact ha)
  have bL:=(Array.getElem?_eq_some_iff.1 h2).1
  rw [C5 vs cs (i.toNat * k+j) _ (by rw [hn]; have:=hk; simp only [List.length_append] at this; omega),if_neg (by omega)]
  rwa [show i.toNat * k+(j+n+a)=i.toNat * k+j+n+a by omega] at h2
 have hlen:(pre++(vs++post)).length=k:=by
  simp only [List.length_append] at hk ⊢
  omega
 have MD:=hO x' _ hK hlen
 rw [← mF] at MD
 refine Ox.NV (s:=λ ρ=>Instr.storeAt t (ρ x) (ρ y)) (by rw [ao]; rfl) hd (λ ρ=>by simp only [execOp,ao]) IE (λ ρ bd=>?_)
 rw [bd x _ hx,bd y _ hy]
 simp only [Instr.storeAt,Instr.sureAddr]
 refine ai.eT (ai.pure _) ?_
 have awg:w.cells.size=n:=by rw [← hn,← hw]; simp
 refine aF.storeVar (cs:=cs) (e:=e) ht awg (by rw [hw]; exact h1) (by simp only [List.length_append] at hk; omega) ?_ (h _ MD)
 rw [hw]
 exact hG.set
def Ek{α:Type}(xs ys:List α):List α:=ys.take xs.length++xs.drop ys.length
end
end Go.Lg
namespace Go.Lg
open Go.Conc
section
variable {P:Program} {B:Base} {main:Bool} {ae:Jd P B main} {c:Ctx} {R:ax} {H:aj} {st:St} {k:List Item}
theorem aF.getLoop{l:Nat}{r:Loop}{K:Loop→ax→aj→Prop}(h:(l,Obj.loop r)∈H)(hk:K r R H):aF P B R H (Instr.getLoop l) K:=by
 unfold Instr.getLoop
 exact aF.bind (aF.getObj rfl (.inr h) (aF.pure hk))
theorem fj.at_{b:Nat}{o o':Obj}{T:aj}:∀ {Hs:aj},fj (Hs++(b,o)::T) b o o' (Hs++(b,o')::T)
 | []=>.here
 | _::_=>.there fj.at_
def Hd(ae:Jd P B main)(v:Value)(args:Array Value)(R:ax)(H:aj)(Post:Value→ax→aj→Prop):Prop :=
 ∃ l r,v = .func (.yield l) #[] #[]∧(l,Obj.loop r)∈H∧r.params.size=args.size ∧
  ∀ fr cs,(∀ w R' H',Post w R' H'→ae.J R' H' (aV (fr.finish w) cs)) →
   ae.J R H (aV (Frame.round l r.fn ((r.params.zip args).foldl (λ tmps (t,a)=>tmps.setIfInBounds t a) r.tmps) r.assign r.body .normal) (fr::cs))
theorem Hd.mono{v:Value}{args:Array Value}{Post G9:Value→ax→aj→Prop}(h:Hd ae v args R H Post)(hp:∀ w R' H',Post w R' H'→G9 w R' H'):Hd ae v args R H G9:=by
 obtain ⟨l,r,h1,h2,h3,h4⟩:=h
 exact ⟨l,r,h1,h2,h3,λ fr cs hk=>h4 fr cs λ w R' H' hw=>hk w R' H' (hp _ _ _ hw)⟩
theorem ajU{fr:Frame}{cs:List Frame}{s:Sem Next}{w w':World}{l:Nat}{f:FuncId}{tmps:Array Value}{assign body:Code}(hk:fr.kind ≠ .early)(hr:s.run P w = .ok (.round l f tmps assign body) w') :
  stepG.apply P true fr cs none s w = .go (aV (Frame.round l f tmps assign body .normal) (fr::cs)) w' (seen P fr.fn (s.events P w #[])):=by
 have dM:(fr.kind == CallKind.early)=false:=by simpa using hk
 simp [stepG.apply,hr,aV,dM,GStep.after]
theorem At.afK{ops:Array Oper}{i:Nat}{rest:List Nat}{o:Oper}{ca:Call}{x:Operand}{v:Value}{vs:List Value}(ho:ops[i]? = some o)(hw:cN ops st o=some true)(hk:(c.kind == CallKind.early)=false)
  (ao:o.op = .call ca) (hc:ca.callee = .value x) (hx:bl st x=some v) (ha:iG st ca.args.toList=some vs) (kZ:bT o.dst c.n)
  (h:Hd ae v vs.toArray R H λ w R' H'=>∃ st',aA (bZ o.dst w st) st'∧At ae c R' H' st' (.inRegion ops rest::k)) :
  At ae c R H st (.inRegion ops (i::rest)::k):=by
 intro tmps ht
 obtain ⟨l,r,rfl,hl,fH,hj⟩:=h
 have ik:=ht.knows c (.inRegion ops (i::rest)::k)
 have hd:mI o.op=false:=by rw [ao]; rfl
 have hs:aF P B R H (execOp (aU c tmps (.inRegion ops (i::rest)::k)).eval o) λ nx R' H'=>nx = .round l r.fn ((r.params.zip vs.toArray).foldl (λ tmps (t,a)=>tmps.setIfInBounds t a) r.tmps) r.assign r.body∧R'=R∧H'=H:=by
  simp only [execOp,ao,resolve,hc,ik x _ hx,Deferred.ofValue]
  have e:ca.args.map (aU c tmps (.inRegion ops (i::rest)::k)).eval=vs.toArray:=by apply Array.ext'; simpa using A9 ik _ _ ha
  refine ai.eT (a:=⟨.fn (.yield l) #[],#[]++vs.toArray⟩) (by rw [e]; exact ai.pure _) ?_
  simp only [invoke,Instr.yield]
  refine aF.bind (aF.getLoop hl ?_)
  simp only [Array.empty_append,fH,ne_eq,not_true_eq_false,if_false]
  exact aF.pure ⟨rfl,rfl,rfl⟩
 refine ae.step rfl λ w pZ=>?_
 obtain ⟨nx,w',R',H',h1,h2,h3,rfl,rfl,rfl⟩:=hs w pZ
 refine ⟨_,w',seen P c.fn ((execOp (aU c tmps (.inRegion ops (i::rest)::k)).eval o).events P w #[]),R',H',?_,λ e he=>h2 e (mem_seen he),h3,hj (aU c tmps (.inRegion ops (i::rest)::k)) c.cs λ u cI dW hp=>?_⟩
 ·rw [px ho (kl ht hw) hd]
  exact ajU (by simpa [aU] using hk) h1
 ·obtain ⟨st',hs',jF⟩:=hp
  rw [pR ho]
  exact jF _ ((ht.put u kZ).sub hs')
structure lH (ae:Jd P B main) (R:ax) {α S:Type} (A:nc α) (v:Value) (y:α→S→Option (S × Bool)) (Inv:S→ax→aj→Prop):Prop where
 fn:∃ l,v = .func (.yield l) #[] #[]
 mono:∀ {s:S} {R1 R2:ax} {Hy:aj},aQ R R1→aQ R1 R2→Inv s R1 Hy→Inv s R2 Hy
 call:∀ (Hf:aj) {R':ax} {Hy:aj} {s:S} {x:α} {va:Value} {z:S × Bool},aQ R R'→Inv s R' Hy→A R' x va→y x s=some z →
  Hd ae v #[va] R' (Hf++Hy) λ w cI dW=>aQ R' cI∧w = .bool z.2∧∃ yK,Inv z.1 cI yK∧dW=Hf++yK
theorem lH.up{R':ax}{α S:Type}{A:nc α}{v:Value}{y:α→S→Option (S × Bool)}{Inv:S→ax→aj→Prop}(h:lH ae R A v y Inv)(hR:aQ R R'):lH ae R' A v y Inv :=
 ⟨h.fn,λ h1 h2=>h.mono (hR.trans h1) h2,λ Hf=>λ h1=>h.call Hf (hR.trans h1)⟩
theorem lH.cells{α S:Type}{A:nc α}{v:Value}{y:α→S→Option (S × Bool)}{Inv:S→ax→aj→Prop}(h:lH ae R A v y Inv):v.cells=#[v]:=by
 obtain ⟨l,rfl⟩:=h.fn; rfl
def gk{α S O:Type}(body:α→S→Option (S ⊕ O))(x:α):S ⊕ O→Option ((S ⊕ O) × Bool)
 | .inl s=>(body x s).map λ z=>(z,z.isLeft)
 | .inr _=>none
def Shape(I:ax→aj→aj→Prop):Prop:=∀ R T H,I R T H→∃ Hs,H=Hs++T∧∀ R' T',aQ R R'→I R' T' (Hs++T')
theorem aHa{l:Nat}{jump:Option Code}{r:Loop}{Hs T:aj}:aF P B R (Hs++(l,.loop r)::T) (Instr.endRound l jump) λ v R' H'=>v = .bool jump.isNone∧R'=R∧H'=Hs++(l,.loop { r with state:=if jump.isNone then .ready else .done,pending:=jump })::T:=by
 unfold Instr.endRound
 exact aF.bind (aF.getLoop (by simp) (aF.bind (aF.setObj rfl rfl fj.at_ (aF.pure ⟨rfl,rfl,rfl⟩))))
theorem aG9{l:Nat}{r:Loop}{Hs T:aj}(hb:(r.state == .busy)=false):aF P B R (Hs++(l,.loop r)::T) (Instr.endLoop l) λ v R' H'=>v=r.pending∧R'=R∧H'=Hs++(l,.loop { r with state:=.exhausted })::T:=by
 unfold Instr.endLoop
 refine aF.bind (aF.getLoop (r:=r) (by simp) ?_)
 simp only [hb]
 exact aF.bind (aF.setObj rfl rfl fj.at_ (aF.pure ⟨rfl,rfl,rfl⟩))
theorem aG8{l:Nat}{r:Loop}{H':aj}(hs:fj H l (.loop r) (.loop { r with state:=.busy }) H')(hr:r.state = .ready):aF P B R H (do Instr.beginRound l; pure Next.skip) λ v cI dW=>v = .skip∧cI=R∧dW=H':=by
 unfold Instr.beginRound
 refine aF.bind (aF.bind (aF.getLoop hs.mem (aF.bind (aF.setObj rfl rfl hs ?_))))
 simp only [hr]
 exact aF.pure (aF.pure ⟨rfl,rfl,rfl⟩)
theorem At.beginRound{l:Nat}{r:Loop}{H':aj}(j4:c.ro=some l)(hk:(c.kind == CallKind.early)=false)(hs:fj H l (.loop r) (.loop { r with state:=.busy }) H')(hr:r.state = .ready)(h:At ae c R H' st k):At ae c R H st (.beginRound::k):=λ tmps ht=>by
 refine ae.step rfl λ w hw=>?_
 obtain ⟨v,w',R',dW,h1,h2,h3,rfl,rfl,rfl⟩:=aG8 (P:=P) hs hr w hw
 refine ⟨aV (aU c tmps k) c.cs,w',seen P c.fn ((do Instr.beginRound l; pure Next.skip:Sem Next).events P w #[]),R',dW,?_,λ e he=>h2 e (mem_seen he),h3,h tmps ht⟩
 have e:=QE (P:=P) (fr:=aU c tmps (.beginRound::k)) (cs:=c.cs) (by simpa [aU] using hk) h1
 simpa [stepG,stepG.exec,aV,aU,j4,Frame.finish] using e
def Leaves(todo:List Item)(jump:Option Code):Prop :=
 (todo=[]∧jump=none)∨(∃ k',todo = .code .ret::k'∧jump=some .ret)∨(∃ id k',todo = .code (.exit id)::k'∧exitTo id k'=none∧jump=some (.exit id))
theorem adW{l f:Nat}{n:Nat}{cs:List Frame}{fr:Frame}{tmps:Array Value}{todo:List Item}{jump:Option Code}{r:Loop}{Hs T:aj}(hl:Leaves todo jump)
  (h:ae.J R (Hs++(l,.loop { r with state:=if jump.isNone then .ready else .done,pending:=jump })::T) (aV (fr.finish (.bool jump.isNone)) cs)) :
  ae.J R (Hs++(l,.loop r)::T) (aV (aU ⟨f,.normal,some l,n,[],fr::cs⟩ tmps todo) (fr::cs)):=by
 refine ae.step rfl λ w hw=>?_
 obtain ⟨v,w',R',H',h1,h2,h3,rfl,rfl,rfl⟩:=aHa (P:=P) (jump:=jump) w hw
 refine ⟨aV (fr.finish (.bool jump.isNone)) cs,w',seen P f ((Instr.endRound l jump).events P w #[]),R',_,?_,λ e he=>h2 e (mem_seen he),h3,h⟩
 rcases hl with ⟨rfl,rfl⟩ | ⟨k',rfl,rfl⟩ | ⟨id,k',rfl,dM,rfl⟩
 ·simp at h1; simp [stepG,stepG.exec,aU,h1,doReturn,GStep.after,aV]
 ·simp at h1; simp [stepG,stepG.exec,aU,h1,doReturn,GStep.after,aV]
 ·simp at h1; simp [stepG,stepG.exec,aU,h1,dM,doReturn,GStep.after,aV]
def tU(fn:FuncId)(tmps:Array Value)(t:Tmp)(assign body:Code)(d:Nat):Loop:={ state:=.ready,pending:=none,fn,tmps,params:=#[t],assign,body,defers:=d }
theorem Xw{p:Nat × Obj}{Hf Hs D:aj}:List.Perm (Hs++p::(Hf++D)) (Hf++(Hs++p::D)):=by
 have h1:List.Perm (Hs++p::(Hf++D)) (p::(Hs++(Hf++D))):=List.perm_middle
 have h2:List.Perm (Hf++(Hs++p::D)) (p::(Hf++(Hs++D))):=by
  rw [← List.append_assoc,← List.append_assoc]
  exact List.perm_middle
 refine h1.trans (List.Perm.trans (List.Perm.cons _ ?_) h2.symm)
 rw [← List.append_assoc,← List.append_assoc]
 exact List.perm_append_comm.append_right D
section
variable {α S O:Type} {A:nc α} {body:α→S→Option (S ⊕ O)} {t:Tmp} {assign jy:Code}
 (I:S→ax→aj→aj→Prop) (E:O→ax→aj→aj→Prop) (jc:O→Code)
def RInv(R:ax)(l:Nat)(r:Loop)(D:aj):S ⊕ O→ax→aj→Prop
 | .inl s,R',Hy=>aQ R R'∧I s R' ((l,.loop r)::D) Hy
 | .inr o,R',Hy=>aQ R R'∧E o R' ((l,.loop { r with state:=.done,pending:=some (jc o) })::D) Hy
def Zv(ae:Jd P B main)(c:Ctx)(R:ax)(H:aj)(st:St)(A:nc α)(body:α→S→Option (S ⊕ O))(t:Tmp)(assign jy:Code):Prop :=
 ∀ (va:Value) (x:α) (s:S) (z:S ⊕ O) (R':ax) (T H':aj) (l:Nat) (ld:Loop) (cs:List Frame),aQ R R'→List.Sublist H T→A R' x va→I s R' ((l,.loop ld)::T) H'→ld.state = .ready→body x s=some z →
  (∀ s' cI dW nI,z = .inl s'→aQ R' cI→I s' cI ((l,.loop { ld with state:=.busy })::T) dW→At ae ⟨c.fn,.normal,some l,c.n,[],cs⟩ cI dW nI []) →
  (∀ o cI dW nI zC,z = .inr o→aQ R' cI→E o cI ((l,.loop { ld with state:=.busy })::T) dW→Leaves (.code (jc o)::zC) (some (jc o))→At ae ⟨c.fn,.normal,some l,c.n,[],cs⟩ cI dW nI (.code (jc o)::zC)) →
  At ae ⟨c.fn,.normal,some l,c.n,[],cs⟩ R' H' ((t,va)::st) [.code assign,.beginRound,.code jy]
variable {I E jc}
theorem aoG{D:aj}{l:Nat}{d:Nat}{tmps:Array Value}(ti:∀ s,Shape (I s))(Bn:∀ o,Shape (E o))(ht:cS c.n st tmps)(hd:Nat.blt t c.n=true)(hH:List.Sublist H D)
  (hb:Zv I E jc ae c R H st A body t assign jy) :
  lH ae R A (.func (.yield l) #[] #[]) (gk body) (RInv I E jc R l (tU c.fn tmps t assign jy d) D) where
 fn:=⟨l,rfl⟩
 mono:=by
  intro s R1 R2 Hy h1 h2 hI
  cases s with
  | inl s =>
   obtain ⟨hr,hI⟩:=hI
   obtain ⟨Hs,rfl,h⟩:=ti s _ _ _ hI
   exact ⟨hr.trans h2,h _ _ h2⟩
  | inr o =>
   obtain ⟨hr,hI⟩:=hI
   obtain ⟨Hs,rfl,h⟩:=Bn o _ _ _ hI
   exact ⟨hr.trans h2,h _ _ h2⟩
 call:=by
  intro Hf R' Hy s x va z hR hI hA hy
  cases s with
  | inr o=>cases hy
  | inl s =>
   simp only [gk,Option.map_eq_some_iff] at hy
   obtain ⟨z',hz,rfl⟩:=hy
   obtain ⟨hr,hI⟩:=hI
   obtain ⟨Hs,rfl,bn⟩:=ti s _ _ _ hI
   refine ⟨l,tU c.fn tmps t assign jy d,rfl,by simp,rfl,λ fr cs hk=>?_⟩
   refine J.perm (H':=Hs++(l,.loop (tU c.fn tmps t assign jy d))::(Hf++D)) Xw ?_
   have TP:cS c.n ((t,va)::st) (((tU c.fn tmps t assign jy d).params.zip #[va]).foldl (λ tmps (t,a)=>tmps.setIfInBounds t a) (tU c.fn tmps t assign jy d).tmps):=by
    have:=ht.put (dst:=some t) va hd
    simpa [tU,bZ,fB] using this
   refine hb va x s z' R' (Hf++D) _ l (tU c.fn tmps t assign jy d) (fr::cs) hR (hH.trans (List.sublist_append_right _ _)) hA (bn R' _ (aQ.refl _)) rfl hz (λ s' cI dW nI Wo rG aoc=>?_) (λ o cI dW nI zC Wo rG aob hl=>?_) _ TP
   ·subst Wo
    obtain ⟨cz,rfl,BK⟩:=ti s' _ _ _ aoc
    intro aZ _
    refine adW (jump:=none) (.inl ⟨rfl,rfl⟩) ?_
    refine J.perm Xw.symm ?_
    exact hk _ _ _ ⟨rG,rfl,_,⟨hR.trans rG,BK cI _ (aQ.refl _)⟩,rfl⟩
   ·subst Wo
    obtain ⟨cz,rfl,BK⟩:=Bn o _ _ _ aob
    intro aZ _
    refine adW (jump:=some (jc o)) hl ?_
    refine J.perm Xw.symm ?_
    exact hk _ _ _ ⟨rG,rfl,_,⟨hR.trans rG,BK cI _ (aQ.refl _)⟩,rfl⟩
theorem aHb{fn:FuncId}{tmps:Array Value}{ps:Array Tmp}{assign jy:Code}:aF P B R H (Instr.enterLoop fn tmps ps assign jy none) λ q R' H'=>R'=R∧∃ r,q.2=[⟨.collected r,#[]⟩]∧H'=(q.1,.loop ⟨.ready,none,fn,tmps,ps,assign,jy,r⟩)::(r,.deferred (some []))::H:=by
 unfold Instr.enterLoop
 refine aF.bind (aF.new λ r _ _=>aF.bind (aF.pure ?_))
 refine aF.bind (aF.new λ l _ _=>aF.pure ?_)
 exact ⟨rfl,r,rfl,rfl⟩
theorem At.ams{x:Operand}{gJ:FuncId}{first cap:Array Value}(hx:bl st x=some (.func (.func gJ) first cap))(he:bp P gJ)(hk:(c.kind == CallKind.early)=false){K:Nat × List Deferred→ax→aj→Prop}
  (MP:∀ tmps,aF P B R H (Instr.enterLoop c.fn tmps #[t] assign jy c.ro) λ q R' H'=>R'=R∧∃ d Hm,H'=(q.1,.loop (tU c.fn tmps t assign jy d))::Hm∧K q R Hm)
  (h:∀ l mark d Hm tmps,cS c.n st tmps→K (l,mark) R Hm→ae.J R ((l,.loop (tU c.fn tmps t assign jy d))::Hm) (aV (Frame.enter P gJ (first++#[.func (.yield l) #[] #[]]++cap) .normal) (aU ⟨c.fn,c.kind,c.ro,c.n,mark++c.defers,c.cs⟩ tmps (.inRangeFunc l::k)::c.cs))) :
  At ae c R H st (.code (.rangeFunc x #[t] assign jy)::k):=by
 intro tmps ht
 refine ae.step rfl λ w hw=>?_
 obtain ⟨⟨l,mark⟩,w',R',H',h1,h2,h3,rfl,d,Hm,rfl,hK⟩:=MP tmps w hw
 have ik:=ht.knows ⟨c.fn,c.kind,c.ro,c.n,mark++c.defers,c.cs⟩ (.inRangeFunc l::k)
 have hv:ai P (do let d ← resolve (aU ⟨c.fn,c.kind,c.ro,c.n,mark++c.defers,c.cs⟩ tmps (.inRangeFunc l::k)).eval { callee:=.value x,args:=#[.const (.func (.yield l) #[] #[])],argTypes:=#[] } 0; invoke d.target d.args) (.enter gJ (first++#[.func (.yield l) #[] #[]]++cap)):=by
  obtain ⟨fn,e1,e2,e3⟩:=he.ex
  simp only [resolve,ik x _ hx,Deferred.ofValue]
  refine ai.bind (a:=⟨.fn (.func gJ) cap,first++#[.func (.yield l) #[] #[]]⟩) (by simpa [Frame.eval] using ai.pure _) ?_
  simp only [invoke]
  exact Dg e1 e2 e3
 have hj:=h l mark d Hm tmps ht hK
 refine ⟨_,w',seen P c.fn ((Instr.enterLoop c.fn tmps #[t] assign jy c.ro).events P w #[]),R',_,?_,λ e Ig=>h2 e (mem_seen Ig),h3,hj⟩
 have Jc:=hv w'
 simp only [aU] at Jc
 have dM:(c.kind == CallKind.early)=false:=hk
 simp [stepG,stepG.exec,stepG.apply,aV,aU,h1,Jc.1,Jc.2,GStep.after,dM,seen]
theorem At.abh{l:Nat}{r:Loop}{Hs T:aj}{pend:Option Code}(hb:(r.state == .busy)=false)(hp:r.pending=pend)(h:At ae c R (Hs++T) st ((pend.map Item.code).toList++k)):At ae c R (Hs++(l,.loop r)::T) st (.endRangeFunc l::k):=λ tmps ht=>by
 subst hp
 refine ae.step rfl λ w hw=>?_
 obtain ⟨v,w',R',H',h1,h2,h3,rfl,rfl,rfl⟩:=aG9 (P:=P) hb w hw
 refine ⟨aV (aU c tmps ((r.pending.map Item.code).toList++k)) c.cs,w',seen P c.fn ((Instr.endLoop l).events P w #[]),R',_,?_,λ e he=>h2 e (mem_seen he),h3,J.drop ?_ (h tmps ht)⟩
 ·simp [stepG,stepG.exec,aV,aU,h1,GStep.after]
 ·exact (List.sublist_cons_self _ _).append_left _
theorem anT{tmps:Array Value}{l:Nat}{w:Value}:(aU c tmps (.inRangeFunc l::k)).finish w=aU c tmps (.endRangeFunc l::k):=rfl
theorem At.afm{ρ:Type}{r7:(α→(S ⊕ O)→Option ((S ⊕ O) × Bool))→(S ⊕ O)→Option (S ⊕ O)}{cont:S ⊕ O→Option ρ}{s0:S}{rr:ρ}{x:Operand}{gJ:FuncId}{first cap:Array Value}{H1:aj}
  (hM:(r7 (gk body) (.inl s0)).bind cont=some rr) (hx:bl st x=some (.func (.func gJ) first cap)) (he:bp P gJ) (hk:(c.kind == CallKind.early)=false) (j4:c.ro=none) (hd:Nat.blt t c.n=true)
  (I:S→ax→aj→aj→Prop) (E:O→ax→aj→aj→Prop) (jc:O→Code) (ti:∀ s,Shape (I s)) (Bn:∀ o,Shape (E o))
  (IA:∀ v Inv Hy z,lH ae R A v (gk body) Inv→Inv (.inl s0) R Hy→r7 (gk body) (.inl s0)=some z→az ae gJ (first++#[v]++cap) R Hy λ _ R' H'=>aQ R R'∧Inv z R' H')
  (h0:I s0 R H H1)
  (ha:∀ r s R' H',aQ R R'→I s R' ((r,.deferred (some []))::H) H'→cont (.inl s)=some rr→At ae ⟨c.fn,c.kind,none,c.n,⟨.collected r,#[]⟩::c.defers,c.cs⟩ R' H' st k)
  (hz:∀ r o R' H',aQ R R'→E o R' ((r,.deferred (some []))::H) H'→cont (.inr o)=some rr→At ae ⟨c.fn,c.kind,none,c.n,⟨.collected r,#[]⟩::c.defers,c.cs⟩ R' H' st (.code (jc o)::k))
  (hb:Zv I E jc ae c R H st A body t assign jy) :
  At ae c R H1 st (.code (.rangeFunc x #[t] assign jy)::k):=by
 obtain ⟨z,hm,hc⟩:=ah hM
 refine At.ams hx he hk (K:=λ q R' Hm=>∃ r,q.2=[⟨.collected r,#[]⟩]∧Hm=(r,.deferred (some []))::H1) (λ tmps=>?_) ?_
 ·rw [j4]
  exact aHb.mono λ q R' H' ⟨h1,r,h2,h3⟩=>⟨h1,r,_,h3,r,h2,rfl⟩
 rintro l mark d Hm tmps ht ⟨r,Tu,rfl⟩
 have Tu:mark=[⟨.collected r,#[]⟩]:=Tu
 subst Tu
 obtain ⟨Hs,rfl,bn⟩:=ti s0 _ _ _ h0
 have aqK:lH ae R A (.func (.yield l) #[] #[]) (gk body) (RInv I E jc R l (tU c.fn tmps t assign jy d) ((r,.deferred (some []))::H)):=aoG ti Bn ht hd (List.sublist_cons_self _ _) hb
 refine J.perm (H':=Hs++(l,.loop (tU c.fn tmps t assign jy d))::(r,.deferred (some []))::H) ?_ ?_
 ·exact List.perm_middle.trans (List.Perm.cons _ List.perm_middle)
 refine IA _ _ _ z aqK ⟨aQ.refl R,bn R _ (aQ.refl R)⟩ hm _ _ λ v R' H' hv=>?_
 rw [anT]
 obtain ⟨hR,hI⟩:=hv
 cases z with
 | inl s =>
  obtain ⟨_,hI⟩:=hI
  obtain ⟨cz,rfl,BK⟩:=ti s _ _ _ hI
  rw [j4]
  exact At.abh (c:=⟨c.fn,c.kind,none,c.n,⟨.collected r,#[]⟩::c.defers,c.cs⟩) rfl rfl (ha r s R' _ hR (BK R' _ (aQ.refl R')) hc) tmps ht
 | inr o =>
  obtain ⟨_,hI⟩:=hI
  obtain ⟨cz,rfl,BK⟩:=Bn o _ _ _ hI
  rw [j4]
  exact At.abh (c:=⟨c.fn,c.kind,none,c.n,⟨.collected r,#[]⟩::c.defers,c.cs⟩) rfl rfl (hz r o R' _ hR (BK R' _ (aQ.refl R')) hc) tmps ht
theorem At.XA{ρ:Type}{body:α→S→Option (S ⊕ Empty)}(r7:(α→(S ⊕ Empty)→Option ((S ⊕ Empty) × Bool))→(S ⊕ Empty)→Option (S ⊕ Empty)){f:S→Option ρ}{g:Empty→Option ρ}{s0:S}{rr:ρ}{x:Operand}{gJ:FuncId}{first cap:Array Value}{H1:aj}
  (hM:(r7 (gk body) (.inl s0)).bind (Sum.elim f g)=some rr) (hx:bl st x=some (.func (.func gJ) first cap)) (he:bp P gJ) (hk:(c.kind == CallKind.early)=false) (j4:c.ro=none) (hd:Nat.blt t c.n=true)
  (I:S→ax→aj→aj→Prop) (ti:∀ s,Shape (I s))
  (IA:∀ v Inv Hy z,lH ae R A v (gk body) Inv→Inv (.inl s0) R Hy→r7 (gk body) (.inl s0)=some z→az ae gJ (first++#[v]++cap) R Hy λ _ R' H'=>aQ R R'∧Inv z R' H')
  (h0:I s0 R H H1)
  (ha:∀ r s R' H',aQ R R'→I s R' ((r,.deferred (some []))::H) H'→f s=some rr→At ae ⟨c.fn,c.kind,none,c.n,⟨.collected r,#[]⟩::c.defers,c.cs⟩ R' H' st k)
  (hb:∀ (va:Value) (x:α) (s:S) (R':ax) (T H':aj) (l:Nat) (ld:Loop) (cs:List Frame),aQ R R'→List.Sublist H T→A R' x va→I s R' ((l,.loop ld)::T) H'→ld.state = .ready→∀ z,body x s=some z →
   (∀ s',z = .inl s'→∀ cI dW nI,aQ R' cI→I s' cI ((l,.loop { ld with state:=.busy })::T) dW→At ae ⟨c.fn,.normal,some l,c.n,[],cs⟩ cI dW nI []) →
   At ae ⟨c.fn,.normal,some l,c.n,[],cs⟩ R' H' ((t,va)::st) [.code assign,.beginRound,.code jy]) :
  At ae c R H1 st (.code (.rangeFunc x #[t] assign jy)::k) :=
 At.afm (r7:=r7) hM hx he hk j4 hd I (λ o=>o.elim) (λ o=>o.elim) ti (λ o=>o.elim) IA h0 ha (λ _ o=>o.elim)
  (λ va x s z R' T H' l ld cs h1 h2 h3 h4 h5 h6 h7 _=>hb va x s R' T H' l ld cs h1 h2 h3 h4 h5 z h6 λ s' hz cI dW nI=>h7 s' cI dW nI hz)
theorem At.XB{ρ:Type}(r7:(α→(S ⊕ O)→Option ((S ⊕ O) × Bool))→(S ⊕ O)→Option (S ⊕ O)){f:S→Option ρ}{g:O→Option ρ}{s0:S}{rr:ρ}{x:Operand}{gJ:FuncId}{first cap:Array Value}{H1:aj}(jc:Code)
  (hM:(r7 (gk body) (.inl s0)).bind (Sum.elim f g)=some rr) (hx:bl st x=some (.func (.func gJ) first cap)) (he:bp P gJ) (hk:(c.kind == CallKind.early)=false) (j4:c.ro=none) (hd:Nat.blt t c.n=true)
  (I:S→ax→aj→aj→Prop) (E:O→ax→aj→aj→Prop) (ti:∀ s,Shape (I s)) (Bn:∀ s,Shape (E s))
  (IA:∀ v Inv Hy z,lH ae R A v (gk body) Inv→Inv (.inl s0) R Hy→r7 (gk body) (.inl s0)=some z→az ae gJ (first++#[v]++cap) R Hy λ _ R' H'=>aQ R R'∧Inv z R' H')
  (h0:I s0 R H H1)
  (ha:∀ r s R' H',aQ R R'→I s R' ((r,.deferred (some []))::H) H'→f s=some rr→At ae ⟨c.fn,c.kind,none,c.n,⟨.collected r,#[]⟩::c.defers,c.cs⟩ R' H' st k)
  (hz:∀ r o R' H',aQ R R'→E o R' ((r,.deferred (some []))::H) H'→g o=some rr→At ae ⟨c.fn,c.kind,none,c.n,⟨.collected r,#[]⟩::c.defers,c.cs⟩ R' H' st (.code jc::k))
  (hb:∀ (va:Value) (x:α) (s:S) (R':ax) (T H':aj) (l:Nat) (ld:Loop) (cs:List Frame),aQ R R'→List.Sublist H T→A R' x va→I s R' ((l,.loop ld)::T) H'→ld.state = .ready→∀ z,body x s=some z →
   (∀ s',z = .inl s'→∀ cI dW nI,aQ R' cI→I s' cI ((l,.loop { ld with state:=.busy })::T) dW→At ae ⟨c.fn,.normal,some l,c.n,[],cs⟩ cI dW nI []) →
   (∀ o,z = .inr o→∀ cI dW nI zC,aQ R' cI→E o cI ((l,.loop { ld with state:=.busy })::T) dW→Leaves (.code jc::zC) (some jc)→At ae ⟨c.fn,.normal,some l,c.n,[],cs⟩ cI dW nI (.code jc::zC)) →
   At ae ⟨c.fn,.normal,some l,c.n,[],cs⟩ R' H' ((t,va)::st) [.code assign,.beginRound,.code jy]) :
  At ae c R H1 st (.code (.rangeFunc x #[t] assign jy)::k) :=
 At.afm (r7:=r7) hM hx he hk j4 hd I E (λ _=>jc) ti Bn IA h0 ha hz
  (λ va x s z R' T H' l ld cs h1 h2 h3 h4 h5 h6 h7 h8=>hb va x s R' T H' l ld cs h1 h2 h3 h4 h5 z h6 (λ s' hz cI dW nI=>h7 s' cI dW nI hz) (λ o hz cI dW nI zC=>h8 o cI dW nI zC hz))
theorem aHd{r:Nat}{H':aj}(hs:fj H r (.deferred (some [])) (.deferred none) H'):aF P B R H (Instr.takeDeferred r) λ v cI dW=>v=[]∧cI=R∧dW=H':=by
 unfold Instr.takeDeferred
 exact aF.bind (aF.getObj rfl (.inr hs.mem) (aF.bind (aF.setObj rfl rfl hs (aF.pure ⟨rfl,rfl,rfl⟩))))
theorem aGM{fr:Frame}{cs:List Frame}{f:FuncId}{n r:Nat}{H':aj}{tmps:Array Value}{todo:List Item}(hs:fj H r (.deferred (some [])) (.deferred none) H')
  (h:ae.J R H' (aV { (aU ⟨f,.normal,none,n,[],fr::cs⟩ tmps todo) with mode:=.returning } (fr::cs))) :
  ae.J R H (aV { (aU ⟨f,.normal,none,n,[⟨.collected r,#[]⟩],fr::cs⟩ tmps todo) with mode:=.returning } (fr::cs)):=by
 refine ae.step rfl λ w hw=>?_
 obtain ⟨v,w',R',H',h1,h2,h3,rfl,rfl,rfl⟩:=aHd (P:=P) hs w hw
 refine ⟨_,w',seen P f ((Instr.takeDeferred r).events P w #[]),R',_,?_,λ e he=>h2 e (mem_seen he),h3,h⟩
 simp [stepG,unwind,aV,aU,h1,GStep.after]
theorem aGL{fr:Frame}{cs:List Frame}{f:FuncId}{n:Nat}{fn:Func}{vs:List Value}{tmps:Array Value}{todo:List Item}(hf:P.funcs[f]? = some fn)(ht:cS n st tmps)(hr:oP P R H st fn.results.toList vs)(hj:ae.J R H (aV (fr.finish (gX vs)) cs)) :
  ae.J R H (aV { (aU ⟨f,.normal,none,n,[],fr::cs⟩ tmps todo) with mode:=.returning } (fr::cs)):=by
 refine ae.step rfl λ w hw=>?_
 obtain ⟨v,w',R',H',h1,h2,h3,rfl,rfl,rfl⟩:=Oz (P:=P) ht hr w hw
 refine ⟨aV (fr.finish (gX vs)) cs,w',seen P f ((results fn tmps).events P w #[]),R',H',?_,λ e he=>h2 e (mem_seen he),h3,hj⟩
 simp [stepG,unwind,doReturn,aV,aU,hf,h1,GStep.after]
theorem At.xZ{fr:Frame}{cs:List Frame}{f:FuncId}{n r:Nat}{H':aj}{fn:Func}{vs:List Value}(hs:fj H r (.deferred (some [])) (.deferred none) H')(hf:P.funcs[f]? = some fn)(hr:oP P R H' st fn.results.toList vs)(hj:ae.J R H' (aV (fr.finish (gX vs)) cs)) :
  At ae ⟨f,.normal,none,n,[⟨.collected r,#[]⟩],fr::cs⟩ R H st (.code .ret::k):=λ tmps ht=>by
 refine Jd.ctl (g':=aV { (aU ⟨f,.normal,none,n,[⟨.collected r,#[]⟩],fr::cs⟩ tmps (.code .ret::k)) with mode:=.returning } (fr::cs)) rfl (λ w=>by simp [stepG,stepG.exec,aV,aU]) ?_
 exact aGM hs (aGL hf ht hr hj)
end
theorem az.hole{f:FuncId}{args:Array Value}{G:aj→aj}{Hs:aj}(hG:kP G){Q:Value→ax→aj→Prop}(h:az ae f args R (Hs++G []) λ v R' H'=>∃ cz,Q v R' cz∧H'=cz++G []) :
  az ae f args R (G Hs) λ v R' H'=>∃ cz,Q v R' cz∧H'=G cz:=by
 obtain ⟨A,D,hG⟩:=hG
 have key:∀ X:aj,List.Perm (X++G []) (G X):=λ X=>by
  rw [hG,hG,List.nil_append,← List.append_assoc,← List.append_assoc]
  exact List.perm_append_comm.append_right D
 intro fr cs hk
 refine J.perm (key Hs) (h fr cs λ v R' H' hv=>?_)
 obtain ⟨cz,hq,rfl⟩:=hv
 exact J.perm (key cz).symm (hk v R' _ ⟨cz,hq,rfl⟩)
theorem Ox.uY{x y:Operand}{t u e:TypeId}{o:Oper}{C:ax→aj→St→Prop}{A:Option Addr}{n cap:Nat}{b:Bool}{st':St}(ao:o.op = .binOp .eql t x y u)(hx:bl st x=some (.slice A n cap))(hy:bl st y=some (.slice none 0 0))(ht:P.underlying t=some (.slice e))(hb:A.isNone=b)
  (hd:bT o.dst c.n) (hs:aA (bZ o.dst (.bool b) st) st') (h:C R H st'):aK P B c o R H st C :=
 Ox.lb (s:=λ ρ=>do eqGuard .eql t x y (ρ x) (ρ y); binOp .eql t (ρ x) (ρ y)) (by rw [ao]; rfl) hd (λ ρ=>by simp only [execOp,ao]) (λ ρ bd=>by
  rw [bd x _ hx,bd y _ hy]
  refine ai.bind (a:=()) (ai.pure _) ?_
  simp only [binOp]
  refine ai.bind (a:=b) ?_ (ai.pure _)
  unfold Op.equal Op.maxDepth Op.equalIn
  refine ai.bind (ai.underlying ht) ?_
  cases A with
  | none=>subst hb; exact ai.pure _
  | some a=>subst hb; exact ai.pure _) hs h
theorem dr.Ka{α:Type}{K:cH α}{k:Nat}{v:Value}{xs:List α}(h:dr K k R H v xs):(∃ cap,v = .slice none 0 cap∧xs=[])∨∃ a n cap,v = .slice (some a) n cap:=by
 obtain ⟨A,cap,es,rfl,h2,h3,h4⟩:=h
 cases A with
 | some a=>exact .inr ⟨a,_,cap,rfl⟩
 | none =>
  cases xs with
  | nil=>exact .inl ⟨cap,rfl,rfl⟩
  | cons x xs =>
   obtain ⟨b,o,g,_⟩:=h4 (by simp)
   cases g
theorem Ox.Cg{x y:Operand}{t e len:Nat}{cs:Array Value}{v:Value}{kd:IntKind}{i:Int}{o:Oper}{C:ax→aj→St→Prop}{st':St}(ao:o.op = .index t x y)(hx:bl st x=some (.agg cs))(hy:bl st y=some (.int kd i))(ht:uO P t len e 1)(he:ai P (isAgg e) false)(hi:0≤i∧i < len)(hv:cs[i.toNat * 1]? = some v)
  (hd:bT o.dst c.n) (hs:aA (bZ o.dst v st) st') (h:C R H st'):aK P B c o R H st C :=
 Ox.lb (s:=λ ρ=>Instr.index t (ρ x) (ρ y)) (by rw [ao]; rfl) hd (λ ρ=>by simp only [execOp,ao]) (λ ρ bd=>by
  rw [bd x _ hx,bd y _ hy]
  unfold Instr.index
  refine ai.bind (a:=(kd,i)) (ai.pure _) (ai.bind (ai.underlying ht.1) ?_)
  simp only [hi,and_self,if_true]
  refine ai.bind ht.2 ?_
  unfold part
  refine ai.bind he ?_
  simp only [hv]
  exact ai.pure _) hs h
theorem At.pS{todo:List Item}{b:Nat}{cs:Array Value}{e:TypeId}{fz:Nat × Nat}(G:aj→aj)(hG:kP G){H2:aj}(h2:G []=H2)(h:∀ R',aQ R R'→aH R' [] b 0 cs.toList→At ae c R' H2 st todo):At ae c R (G [(b,.cells cs e fz)]) st todo:=by
 obtain ⟨A,D,hG⟩:=hG
 refine At.perm (H':=(b,.cells cs e fz)::(A++D)) ?_ (At.freeze λ R' hR hb=>?_)
 ·rw [hG]; exact List.perm_middle.symm
 ·have e2:A++D=H2:=by rw [← h2,hG]; rfl
  rw [e2]
  exact h R' hR (aH.known (n:=cs.toList.length) hb (by rw [List.drop_zero,List.take_length]))
def A5(ae:Jd P B main)(R:ax){α S:Type}(A:nc α)(v:Value)(q:(α→S→Option (S × Bool))→S→Option S):Prop :=
 ∃ gJ first cap,v = .func (.func gJ) first cap∧bp P gJ∧∀ R',aQ R R'→∀ (w:Value) (y:α→S→Option (S × Bool)) (Inv:S→ax→aj→Prop) (Hy:aj) (s z:S),lH ae R' A w y Inv→Inv s R' Hy→q y s=some z →
  az ae gJ (first++#[w]++cap) R' Hy λ _ cI H'=>aQ R' cI∧Inv z cI H'
theorem A5.mono{R':ax}{α S:Type}{A:nc α}{v:Value}{q:(α→S→Option (S × Bool))→S→Option S}(h:A5 ae R A v q)(hR:aQ R R'):A5 ae R' A v q:=by
 obtain ⟨gJ,first,cap,h1,h2,h3⟩:=h
 exact ⟨gJ,first,cap,h1,h2,λ cI HQ=>h3 cI (hR.trans HQ)⟩
theorem lH.frame{α S:Type}{A:nc α}{v:Value}{y:α→S→Option (S × Bool)}{Inv:S→ax→aj→Prop}(h:lH ae R A v y Inv)(Hf:aj):lH ae R A v y λ s R' H'=>∃ Hy,Inv s R' Hy∧H'=Hf++Hy where
 fn:=h.fn
 mono:=λ h1 h2 ⟨Hy,hi,e⟩=>⟨Hy,h.mono h1 h2 hi,e⟩
 call:=by
  intro H2 R' Hy s x va z hR hI hA hy
  obtain ⟨Hy,hI,rfl⟩:=hI
  have:=h.call (H2++Hf) hR hI hA hy
  rw [List.append_assoc] at this
  refine this.mono λ w cI dW ⟨h1,h2,yK,h3,h4⟩=>⟨h1,h2,Hf++yK,⟨yK,h3,rfl⟩,by rw [h4,List.append_assoc]⟩
theorem Ox.nilCheck{x:Operand}{a:Addr}{o:Oper}{C:ax→aj→St→Prop}{st':St}(ao:o.op = .nilCheck x)(hx:bl st x=some (.pointer (some a)))(hd:bT o.dst c.n)
  (hs:aA (bZ o.dst (.pointer (some a)) st) st') (h:C R H st'):aK P B c o R H st C :=
 Ox.val (by rw [ao]; rfl) hd (λ ρ bd=>by simp only [execOp,ao,bd x _ hx]; exact ai.pure _) hs h
def many(a:aj):List (Nat × aj)→Nat→aj
 | [],_=>a
 | (q,l)::r,j=>if j=q then l else many a r j
section
variable {a N:aj} {ex:List (Nat × aj)} {rem D:List Nat} {i q:Nat} {l H':aj}
theorem bD(ha:∀ p∈N,p∈a):∀ j∈rem,j≠i→j ∉ D→∀ p∈N,p∈many a [] j:=λ _ _ _ _ p hp=>ha p hp
theorem aL(hd:(D.contains q || q == i || !rem.contains q)=true)(h:∀ j∈rem,j≠i→j ∉ D→∀ p∈N,p∈many a ex j):∀ j∈rem,j≠i→j ∉ D→∀ p∈N,p∈many a ((q,l)::ex) j:=by
 intro j hj gi qH p hp
 unfold many
 split
 ·subst_vars
  simp only [Bool.or_eq_true,Bool.not_eq_true',List.contains_iff_mem,beq_iff_eq] at hd
  rcases hd with (x | x) | x
  ·exact absurd x qH
  ·exact absurd x gi
  ·have:rem.contains j=true:=List.contains_iff_mem.2 hj
   rw [this] at x; cases x
 ·exact h j hj gi qH p hp
theorem aeB(hl:∀ p∈N,p∈l)(h:∀ j∈rem,j≠i→j ∉ D→∀ p∈N,p∈many a ex j):∀ j∈rem,j≠i→j ∉ D→∀ p∈N,p∈many a ((q,l)::ex) j:=by
 intro j hj gi qH p hp
 unfold many
 split
 ·exact hl p hp
 ·exact h j hj gi qH p hp
theorem di(he:many a ex i=l)(h:∀ p∈l,p∈H'):∀ p∈many a ex i,p∈H→p∈H':=by
 rw [he]; exact λ p hp _=>h p hp
end
end
end Go.Lg
namespace Go.Lg
open Go.Conc
def fM(p:Int):Value:=.int .i64 p
theorem Nv{p p':Int}(h:fM p=fM p'):p=p':=by
 simpa [fM] using h
def sz(m:Int→Int)(p z:Int):Int→Int:=λ a=>if a=p then z else m a
structure yI (es:List MapEntry) (m:Int→Int) (clock:Nat):Prop where
 Mh:∀ e∈es,∃ p,e.key=fM p∧e.val = .int .i64 (m p)
 zero:∀ p,(∀ e∈es,e.key≠fM p)→m p=0
 keys:∀ (i j:Nat) (a b:MapEntry),es[i]? = some a→es[j]? = some b→a.key=b.key→i=j
 old:∀ e∈es,e.born < clock
 aal:∀ (i j:Nat) (a b:MapEntry),es[i]? = some a→es[j]? = some b→a.born=b.born→i=j
def AZ(v:Value)(m:Int→Int)(Hs:aj):Prop:=∃ b es clock,v = .map (some b)∧Hs=[(b,.map es clock)]∧yI es.toList m clock
structure LG (P:Program) (t kt et:TypeId):Prop where
 ty:P.underlying t=some (.map kt et)
 key:P.underlying kt=some (.int .i64)
 lJ:∀ (e:Bool) (a:Int),ai P (Instr.checkKey e 10000 kt (fM a)) ()
 zero:ai P (zeroValue et) (.int .i64 0)
section
variable {P:Program} {B:Base} {main:Bool} {ae:Jd P B main} {c:Ctx} {R:ax} {H:aj} {st st':St} {o:Oper} {C:ax→aj→St→Prop}
def ahO(es:List MapEntry)(p:Int)(r:Option (Nat × Value)):Prop :=
 (r=none∧∀ e∈es,e.key≠fM p)∨∃ (i:Nat) (e:MapEntry),es[i]? = some e∧e.key=fM p∧r=some (i,e.val)
theorem acn(p:Int):∀ (es:List MapEntry) (i:Nat),(∀ e∈es,∃ p,e.key=fM p)→∃ r,Instr.findNow (.int .i64) (fM p) es i=some r∧((r=none∧∀ e∈es,e.key≠fM p)∨∃ (j:Nat) (e:MapEntry),es[j]? = some e∧e.key=fM p∧r=some (i+j,e.val))
 | [],i,h=>⟨none,rfl,.inl ⟨rfl,λ e he=>(by cases he)⟩⟩
 | e::es,i,h=>by
  obtain ⟨p',hk⟩:=h e (by simp)
  by_cases heq:p=p'
  ·subst heq
   refine ⟨some (i,e.val),?_,.inr ⟨0,e,rfl,hk,rfl⟩⟩
   unfold Instr.findNow
   rw [hk]
   simp [fM,Instr.sameNow]
  ·obtain ⟨r,hr,hc⟩:=acn p es (i+1) (λ e he=>h e (by simp [he]))
   refine ⟨r,?_,?_⟩
   ·unfold Instr.findNow
    rw [hk]
    simp only [fM] at hr ⊢
    have hb:(p == p')=false:=by simpa using heq
    simp [Instr.sameNow,hb,hr]
   ·rcases hc with ⟨rfl,hc⟩ | ⟨j,e',h1,h2,rfl⟩
    ·refine .inl ⟨rfl,λ x hx=>?_⟩
     rcases List.mem_cons.1 hx with rfl | hx
     ·intro e2
      exact heq (Nv (hk.symm.trans e2)).symm
     ·exact hc x hx
    ·exact .inr ⟨j+1,e',by simpa using h1,h2,by simp; omega⟩
theorem af4{t kt et:TypeId}(ht:LG P t kt et)(p:Int){es:List MapEntry}{m:Int→Int}{cl:Nat}(h:yI es m cl):∃ r,ai P (Instr.findKey kt (fM p) es) r∧ahO es p r:=by
 obtain ⟨r,hr,hc⟩:=acn p es 0 (λ e he=>let ⟨p,hk,_⟩:=h.Mh e he; ⟨p,hk⟩)
 refine ⟨r,?_,?_⟩
 ·unfold Instr.findKey
  refine ai.bind (ai.underlying ht.key) ?_
  rw [hr]
  exact ai.pure _
 ·rcases hc with hc | ⟨j,e',h1,h2,h3⟩
  ·exact .inl hc
  ·exact .inr ⟨j,e',h1,h2,by simpa using h3⟩
theorem Ox.aFf{t:TypeId}(ao:o.op = .makeMap t none)(hd:bT o.dst c.n)
  (hC:∀ v Hs,AZ v (λ _=>0) Hs→∃ st',aA (bZ o.dst v st) st'∧C R (Hs++H) st'):aK P B c o R H st C :=
 Ox.mem (s:=λ ρ=>Instr.makeMap t none) (by rw [ao]; rfl) hd (λ ρ=>by simp only [execOp,ao]; rfl) (λ ρ bd=>by
  unfold Instr.makeMap
  refine aF.bind (aF.new λ b _ _=>aF.pure ?_)
  exact hC (.map (some b)) [(b,.map #[] 0)] ⟨b,#[],0,rfl,rfl,⟨λ e he=>(by cases he),λ _ _=>rfl,λ i j a b ha=>(by simp at ha),λ e he=>(by cases he),λ i j a b ha=>(by simp at ha)⟩⟩)
theorem Ox.ad0{x y:Operand}{t kt et:TypeId}{v:Value}{m:Int→Int}{p:Int}{Hs:aj}(ao:o.op = .lookup t x y false)(hx:bl st x=some v)(hy:bl st y=some (fM p))(ht:LG P t kt et)(hm:AZ v m Hs)(hH:∀ q∈Hs,q∈H)
  (hd:bT o.dst c.n) (hs:aA (bZ o.dst (.int .i64 (m p)) st) st') (h:C R H st'):aK P B c o R H st C :=
 Ox.mem (s:=λ ρ=>Instr.lookup t (ρ x) (ρ y) false) (by rw [ao]; rfl) hd (λ ρ=>by simp only [execOp,ao]) (λ ρ bd=>by
  rw [bd x _ hx,bd y _ hy]
  unfold Instr.lookup
  refine ai.eT (ai.underlying ht.ty) ?_
  obtain ⟨b,es,cl,rfl,rfl,he⟩:=hm
  refine aF.bind (aF.getObj rfl (.inr (hH (b,.map es cl) (by simp))) ?_)
  refine aF.bind (aF.pure ?_)
  obtain ⟨r,hr,hf⟩:=af4 ht p he
  refine ai.eT (ht.lJ _ p) (ai.eT hr ?_)
  rcases hf with ⟨rfl,hn⟩ | ⟨i,e,h1,h2,rfl⟩
  ·refine ai.eT ht.zero (aF.bind (aF.pure (aF.pure ?_)))
   rw [he.zero p hn] at hs
   exact ⟨st',hs,h⟩
  ·obtain ⟨p',hk,hv⟩:=he.Mh e (List.mem_of_getElem? h1)
   obtain rfl:=Nv (hk.symm.trans h2)
   rw [hv]
   exact aF.bind (aF.pure (aF.pure ⟨st',hs,h⟩)))
theorem aG7(p:Int):Instr.sameBits 10000 (fM p) (fM p)=true:=by
 simp [Instr.sameBits,fM]
theorem yI.push{es:Array MapEntry}{m:Int→Int}{cl:Nat}{p z:Int}(h:yI es.toList m cl)(hn:∀ e∈es.toList,e.key≠fM p) :
  yI (es.push { key:=fM p,val:=.int .i64 z,born:=cl }).toList (sz m p z) (cl+1):=by
 rw [Array.toList_push]
 refine ⟨λ e he=>?_,λ p' cT=>?_,λ i j a b ha hb bE=>?_,λ e he=>?_,λ i j a b ha hb bE=>?_⟩
 ·rcases List.mem_append.1 he with he | he
  ·obtain ⟨p',h1,h2⟩:=h.Mh e he
   refine ⟨p',h1,?_⟩
   unfold sz
   rw [if_neg (λ e2=>hn e he (by rw [h1,e2])),h2]
  ·rcases List.mem_singleton.1 he with rfl
   exact ⟨p,rfl,by simp [sz]⟩
 ·have h1:=h.zero p' λ e he=>cT e (List.mem_append.2 (.inl he))
  unfold sz
  rw [if_neg,h1]
  rintro rfl
  exact cT { key:=fM p',val:=.int .i64 z,born:=cl } (List.mem_append.2 (.inr (by simp))) rfl
 ·rw [List.getElem?_append] at ha hb
  split at ha <;> split at hb
  ·exact h.keys i j a b ha hb bE
  ·have:b={ key:=fM p,val:=.int .i64 z,born:=cl }:=by
    have:=List.mem_of_getElem? hb; simpa using this
   subst this
   exact absurd bE (hn a (List.mem_of_getElem? ha))
  ·have:a={ key:=fM p,val:=.int .i64 z,born:=cl }:=by
    have:=List.mem_of_getElem? ha; simpa using this
   subst this
   exact absurd bE.symm (hn b (List.mem_of_getElem? hb))
  ·have h1:=(List.getElem?_eq_some_iff.1 ha).1
   have h2:=(List.getElem?_eq_some_iff.1 hb).1
   simp only [List.length_singleton,Array.length_toList] at *
   omega
 ·rcases List.mem_append.1 he with he | he
  ·have:=h.old e he; omega
  ·rcases List.mem_singleton.1 he with rfl
   exact Nat.lt_succ_self _
 ·rw [List.getElem?_append] at ha hb
  split at ha <;> split at hb
  ·exact h.aal i j a b ha hb bE
  ·have:b={ key:=fM p,val:=.int .i64 z,born:=cl }:=by
    have:=List.mem_of_getElem? hb; simpa using this
   subst this
   have:=h.old a (List.mem_of_getElem? ha)
   simp only at bE
   omega
  ·have:a={ key:=fM p,val:=.int .i64 z,born:=cl }:=by
    have:=List.mem_of_getElem? ha; simpa using this
   subst this
   have:=h.old b (List.mem_of_getElem? hb)
   simp only at bE
   omega
  ·have h1:=(List.getElem?_eq_some_iff.1 ha).1
   have h2:=(List.getElem?_eq_some_iff.1 hb).1
   simp only [List.length_singleton,Array.length_toList] at *
   omega
theorem HM{α:Type}{a:Array α}{j:Nat}{x:α}(h:a.toList[j]? = some x):a[j]? = some x:=by rwa [Array.getElem?_toList] at h
theorem yI.sx{es:Array MapEntry}{m:Int→Int}{cl i:Nat}{p z:Int}{e:MapEntry}(he:yI es.toList m cl)(hi:es[i]? = some e)(hk:e.key=fM p) :
  yI (es.modify i λ e=>{ e with key:=fM p,val:=.int .i64 z }).toList (sz m p z) cl:=by
 have tv:∀ j a,(es.modify i λ e=>{ e with key:=fM p,val:=.int .i64 z })[j]? = some a→∃ a0,es[j]? = some a0∧a.key=a0.key∧a.born=a0.born∧a.val=if i=j then .int .i64 z else a0.val:=by
  intro j a ha
  rw [Array.getElem?_modify] at ha
  by_cases hj:i=j
  ·subst hj
   rw [hi] at ha
   simp only [if_true,Option.map_some,Option.some.injEq] at ha
   subst ha
   exact ⟨e,hi,hk.symm,rfl,by simp⟩
  ·simp only [hj,if_false] at ha
   exact ⟨a,ha,rfl,rfl,by simp [hj]⟩
 have mE:∀ a∈(es.modify i λ e=>{ e with key:=fM p,val:=.int .i64 z }).toList,∃ j,(es.modify i λ e=>{ e with key:=fM p,val:=.int .i64 z })[j]? = some a:=λ a ha=>by
  obtain ⟨j,hj⟩:=List.mem_iff_getElem?.1 ha
  exact ⟨j,HM hj⟩
 refine ⟨λ a ha=>?_,λ p' cT=>?_,λ j k a b' ha hb bE=>?_,λ a ha=>?_,λ j k a b' ha hb bE=>?_⟩
 ·obtain ⟨j,hj⟩:=mE a ha
  obtain ⟨a0,h1,h2,h3,h4⟩:=tv j a hj
  obtain ⟨p',dM,Jc⟩:=he.Mh a0 (by rw [← Array.mem_def]; exact Array.mem_of_getElem? h1)
  refine ⟨p',h2.trans dM,?_⟩
  rw [h4]
  by_cases fC:i=j
  ·subst fC
   rw [hi] at h1; cases h1
   obtain rfl:=Nv (hk.symm.trans dM)
   simp [sz]
  ·rw [if_neg fC,Jc]
   unfold sz
   rw [if_neg]
   rintro rfl
   exact fC (he.keys i j e a0 (by simpa using hi) (by simpa using h1) (hk.trans dM.symm))
 ·unfold sz
  by_cases TG:p'=p
  ·subst TG
   exfalso
   obtain ⟨bL,tu⟩:=Array.getElem?_eq_some_iff.1 hi
   refine cT { e with key:=fM p',val:=.int .i64 z } ?_ rfl
   rw [← Array.mem_def]
   exact Array.mem_of_getElem? (i:=i) (by rw [Array.getElem?_modify]; simp [hi])
  ·rw [if_neg TG]
   refine he.zero p' λ a ha=>?_
   obtain ⟨j,hj⟩:=List.mem_iff_getElem?.1 ha
   have zl:es[j]? = some a:=by simpa using hj
   by_cases fC:i=j
   ·subst fC
    rw [hi] at zl; cases zl
    intro e2
    exact TG (Nv (hk.symm.trans e2)).symm
   ·exact cT a (by rw [← Array.mem_def]; exact Array.mem_of_getElem? (i:=j) (by rw [Array.getElem?_modify]; simp [fC,zl]))
 ·obtain ⟨a0,h1,h2,_⟩:=tv j a (HM ha)
  obtain ⟨b0,k1,k2,_⟩:=tv k b' (HM hb)
  exact he.keys j k a0 b0 (by simpa using h1) (by simpa using k1) (h2.symm.trans (bE.trans k2))
 ·obtain ⟨j,hj⟩:=mE a ha
  obtain ⟨a0,h1,h2,h3,h4⟩:=tv j a hj
  rw [h3]
  exact he.old a0 (by rw [← Array.mem_def]; exact Array.mem_of_getElem? h1)
 ·obtain ⟨a0,h1,_,h3,_⟩:=tv j a (HM ha)
  obtain ⟨b0,k1,_,k3,_⟩:=tv k b' (HM hb)
  exact he.aal j k a0 b0 (by simpa using h1) (by simpa using k1) (h3.symm.trans (bE.trans k3))
theorem Ox.aFh{x y u:Operand}{t kt et:TypeId}{v:Value}{m:Int→Int}{p z:Int}{Hs:aj}(G:aj→aj)(ao:o.op = .mapUpdate t x y u)(hx:bl st x=some v)(hy:bl st y=some (fM p))(hz:bl st u=some (.int .i64 z))(ht:LG P t kt et)(hG:kP G)(hm:AZ v m Hs)
  (hd:o.dst=none) (cQ:aA st st') (hC:∀ cz,AZ v (sz m p z) cz→C R (G cz) st'):aK P B c o R (G Hs) st C :=
 Ox.NV (s:=λ ρ=>Instr.mapUpdate t (ρ x) (ρ y) (ρ u)) (by rw [ao]; rfl) hd (λ ρ=>by simp only [execOp,ao]) cQ (λ ρ bd=>by
  rw [bd x _ hx,bd y _ hy,bd u _ hz]
  unfold Instr.mapUpdate
  refine ai.eT (ai.underlying ht.ty) ?_
  obtain ⟨b,es,cl,rfl,rfl,he⟩:=hm
  refine aF.bind (aF.getObj rfl (.inr (hG.set (o':=.map es cl)).mem) ?_)
  obtain ⟨r,hr,hf⟩:=af4 ht p he
  refine ai.eT (ht.lJ _ p) (ai.eT hr ?_)
  rcases hf with ⟨rfl,hn⟩ | ⟨i,e,h1,h2,rfl⟩
  ·exact aF.setObj rfl rfl hG.set (hC _ ⟨b,_,_,rfl,rfl,he.push hn⟩)
  ·have Et:es[i]? = some e:=by simpa using h1
   have cQ:ai P (Instr.keyThatStays (((es[i]?).map (·.key)).getD (fM p)) (fM p)) (fM p):=by
    rw [Et]
    simp only [Option.map_some,Option.getD_some,h2,Instr.keyThatStays,aG7,if_true]
    exact ai.pure _
   exact ai.eT cQ (aF.setObj rfl rfl hG.set (hC _ ⟨b,_,_,rfl,rfl,he.sx Et h2⟩)))
end
end Go.Lg
namespace Go.Lg
open Go.Conc
def iY{α:Type}(m:Nat)(xs:List α)(i:Int):Option (List α):=if 0≤i∧i.toNat * m+m≤xs.length then some ((xs.drop (i.toNat * m)).take m) else none
def pv{α:Type}(m:Nat)(xs:List α)(i k:Int)(x:α):List α:=xs.set (i.toNat * m+k.toNat) x
def Gd{α:Type}(m:Nat)(xs:List α)(i:Int)(r:List α):List α:=xs.take (i.toNat * m)++(r++xs.drop (i.toNat * m+m))
section
variable {α:Type} {m n:Nat} {xs r g:List α} {i k:Int} {x y:α}
theorem x9(h:iY m xs i=some r):0≤i∧i.toNat * m+m≤xs.length∧r=(xs.drop (i.toNat * m)).take m:=by
 unfold iY at h
 split at h
 ·rename_i hc; cases h; exact ⟨hc.1,hc.2,rfl⟩
 ·cases h
theorem oz(h:iY m xs i=some r):r.length=m:=by
 obtain ⟨_,h2,rfl⟩:=x9 h
 simp only [List.length_take,List.length_drop]
 omega
theorem Ge(h:xs.length=n):(pv m xs i k x).length=n:=by simpa [pv] using h
theorem aHe(h:iY m xs i=some r)(hx:xs.length=n)(hg:g.length=m):(Gd m xs i g).length=n:=by
 obtain ⟨_,h2,_⟩:=x9 h
 simp only [Gd,List.length_append,List.length_take,List.length_drop]
 omega
theorem vC{P:Program}{t e len K b o:Nat}(ht:uO P t len e K)(hl:xs.length=len * m)(hm:0 < m)(h:iY m xs i=some r):yL P t (.pointer (some ⟨b,o,none⟩)) i b (o+i.toNat * K):=by
 obtain ⟨h1,h2,_⟩:=x9 h
 refine adH ht ⟨h1,?_⟩
 rw [hl] at h2
 have h3:(i.toNat+1) * m≤len * m:=by rw [Nat.add_mul]; omega
 have:=Nat.le_of_mul_le_mul_right h3 hm
 omega
theorem aG3{pre post:List Value}{f:α→Value}{p:Nat}(h:iY m xs i=some r)(hp:pre.length=p):∃ a c,pre++(xs.map f++post)=a++(r.map f++c)∧a.length=p+i.toNat * m:=by
 obtain ⟨_,h2,rfl⟩:=x9 h
 refine ⟨pre++(xs.take (i.toNat * m)).map f,(xs.drop (i.toNat * m+m)).map f++post,?_,by simp [hp]; omega⟩
 have e:xs=xs.take (i.toNat * m)++((xs.drop (i.toNat * m)).take m++xs.drop (i.toNat * m+m)):=by
  rw [← List.drop_drop,List.take_append_drop,List.take_append_drop]
 conv=>lhs; rw [e]
 simp
theorem aH.row{R:ax}{H:aj}{b o p:Nat}{f:α→Value}{pre post:List Value}(hc:aH R H b o (pre++(xs.map f++post)))(h:iY m xs i=some r)(hp:pre.length=p):aH R H b (o+p+i.toNat * m) ([]++(r.map f++[])):=by
 obtain ⟨a,c,e,ha⟩:=aG3 (post:=post) (f:=f) h hp
 rw [e] at hc
 have:=hc.part (j:=a.length) (n:=(r.map f).length) (aHO rfl rfl)
 rw [ha] at this
 simpa [Nat.add_assoc] using this
theorem QH{pre post:List Value}{f:α→Value}{p:Nat}(h:iY m xs i=some r)(hk:idx r k=some y)(hp:pre.length=p):Nat.blt (p+i.toNat * m+k.toNat * 1) ((pre++(xs.map f++post)).toArray).size=true:=by
 obtain ⟨_,h2,_⟩:=x9 h
 obtain ⟨_,h4,h5⟩:=tQ hk
 have:=oz h
 have:=(List.getElem?_eq_some_iff.1 h5).1
 rw [Nat.blt_eq]
 simp
 omega
theorem QK{pre post:List Value}{f:α→Value}{p:Nat}(h:iY m xs i=some r)(hk:idx r k=some y)(hp:pre.length=p):((pre++(xs.map f++post)).toArray).setIfInBounds (p+i.toNat * m+k.toNat * 1) (f x)=(pre++((pv m xs i k x).map f++post)).toArray:=by
 obtain ⟨_,h2,_⟩:=x9 h
 obtain ⟨_,h4,h5⟩:=tQ hk
 have:=oz h
 have:=(List.getElem?_eq_some_iff.1 h5).1
 subst hp
 unfold pv
 simp only [Nat.mul_one,List.setIfInBounds_toArray,List.map_set]
 congr 1
 rw [List.set_append_right _ _ (by omega),show pre.length+i.toNat * m+k.toNat - pre.length=i.toNat * m+k.toNat by omega,List.set_append_left _ _ (by simp; omega)]
theorem aG1{pre post:List Value}{f:α→Value}{p:Nat}(h:iY m xs i=some r)(hp:pre.length=p):Nat.ble (p+i.toNat * m+m) ((pre++(xs.map f++post)).toArray).size=true:=by
 obtain ⟨_,h2,_⟩:=x9 h
 rw [Nat.ble_eq]
 simp
 omega
theorem aGn{a c vs ws:List Value}{cs:Array Value}{off:Nat}(pX:cs=(a++(vs++c)).toArray)(ha:a.length=off)(hl:ws.length=vs.length):fN cs off ws=(a++(ws++c)).toArray:=by
 subst pX ha
 apply Array.ext_getElem?
 intro j
 rw [C5 ws _ _ j (by simp; omega)]
 by_cases hj:a.length≤j∧j < a.length+ws.length
 ·rw [if_pos hj]
  simp only [List.getElem?_toArray]
  rw [List.getElem?_append_right hj.1,List.getElem?_append_left (by omega)]
 ·rw [if_neg hj]
  simp only [List.getElem?_toArray]
  by_cases h1:j < a.length
  ·rw [List.getElem?_append_left h1,List.getElem?_append_left h1]
  ·rw [List.getElem?_append_right (by omega),List.getElem?_append_right (by omega),List.getElem?_append_right (by omega),List.getElem?_append_right (by omega),hl]
theorem aG5{pre post:List Value}{f:α→Value}{p:Nat}(h:iY m xs i=some r)(hg:g.length=m)(hp:pre.length=p):fN ((pre++(xs.map f++post)).toArray) (p+i.toNat * m) (([]:List Value)++(g.map f++[]))=(pre++((Gd m xs i g).map f++post)).toArray:=by
 obtain ⟨_,h2,_⟩:=x9 h
 have hr:=oz h
 have e:xs=xs.take (i.toNat * m)++(r++xs.drop (i.toNat * m+m)):=by
  obtain ⟨_,_,rfl⟩:=x9 h
  rw [← List.drop_drop,List.take_append_drop,List.take_append_drop]
 have e2:(pre++(xs.map f++post)).toArray=((pre++(xs.take (i.toNat * m)).map f)++(r.map f++((xs.drop (i.toNat * m+m)).map f++post))).toArray:=by
  conv=>lhs; rw [e]
  simp
 have:=aGn (ws:=([]:List Value)++(g.map f++[])) (off:=p+i.toNat * m) e2 (by simp [hp]; omega) (by simp [hg,hr])
 rw [this]
 simp [Gd]
end
section
variable {P:Program} {B:Base} {main:Bool} {c:Ctx} {R:ax} {H:aj} {st st':St} {o:Oper} {C:ax→aj→St→Prop}
theorem Ox.Wu{α:Type}{x y:Operand}{t e len:Nat}{f:α→Value}{xs:List α}{a:α}{kd:IntKind}{i:Int}(ao:o.op = .index t x y) (hx:bl st x=some (.agg (List.toArray ([]++(xs.map f++[]))))) (hy:bl st y=some (.int kd i)) (ht:uO P t len e 1) (he:ai P (isAgg e) false) (hl:xs.length=len) (hi:idx xs i=some a)
  (hd:bT o.dst c.n) (hs:aA (bZ o.dst (f a) st) st') (h:C R H st'):aK P B c o R H st C:=by
 obtain ⟨h1,h2,h3⟩:=tQ hi
 exact Ox.Cg ao hx hy ht he ⟨h1,by omega⟩ (by simp [h3]) hd hs h
end
end Go.Lg
namespace Go.Lg
instance {n:Nat}:CM (nb Value.bool n):=⟨λ _ h=>h,λ ⟨_,h⟩ u hu=>by
 subst h
 simp only [List.nil_append,List.append_nil,List.mem_map] at hu
 obtain ⟨_,_,rfl⟩:=hu
 rfl⟩
instance {n:Nat} {kd:IntKind}:CM (nb (Value.int kd) n):=⟨λ _ h=>h,λ ⟨_,h⟩ u hu=>by
 subst h
 simp only [List.nil_append,List.append_nil,List.mem_map] at hu
 obtain ⟨_,_,rfl⟩:=hu
 rfl⟩
end Go.Lg
namespace Go.Lg
open Go.Conc
section
variable {P:Program} {B:Base} {main:Bool} {c:Ctx} {R:ax} {H:aj} {st st':St} {o:Oper} {C:ax→aj→St→Prop}
theorem Ox.aGt{t:TypeId}{x:Operand}{s:ByteArray}(ao:o.op = .range t x)(hx:bl st x=some (.string s))(hu:P.underlying t=some .string)(hd:bT o.dst c.n)
  (hC:∀ b,R b=none→(∀ y,(b,y) ∉ H)→∃ st',aA (bZ o.dst (.pointer (some ⟨b,0,none⟩)) st) st'∧C R ((b,.stringIter s 0)::H) st'):aK P B c o R H st C :=
 Ox.mem (s:=λ ρ=>Instr.range t (ρ x)) (by rw [ao]; rfl) hd (λ ρ=>by simp only [execOp,ao]) (λ ρ bd=>by
  rw [bd x _ hx]
  unfold Instr.range
  refine ai.eT (ai.underlying hu) (ai.eT (ai.pure _) ?_)
  exact aF.bind (aF.new λ b h1 h2=>aF.pure (hC b h1 h2)))
theorem Ox.aFn{x:Operand}{b:Nat}{s:ByteArray}{pos:Nat}(ao:o.op = .next x true)(hx:bl st x=some (.pointer (some ⟨b,0,none⟩)))(hb:(b,Obj.stringIter s pos)∈H)(hp:¬ pos < s.size)(hd:bT o.dst c.n)
  (hs:aA (bZ o.dst (.tuple #[.bool false]) st) st') (h:C R H st'):aK P B c o R H st C :=
 Ox.mem (s:=λ ρ=>Instr.next (ρ x) true o.type) (by rw [ao]; rfl) hd (λ ρ=>by simp only [execOp,ao]) (λ ρ bd=>by
  rw [bd x _ hx]
  unfold Instr.next
  refine aF.bind (aF.getObj rfl (.inr hb) ?_)
  simp only [hp,if_false]
  exact aF.pure ⟨st',hs,h⟩)
theorem Ox.aFo{x:Operand}{b:Nat}{s:ByteArray}{pos:Nat}{H':aj}(ao:o.op = .next x true)(hx:bl st x=some (.pointer (some ⟨b,0,none⟩)))(hb:fj H b (.stringIter s pos) (.stringIter s (pos+(Utf8.decode s pos).2)) H')(hp:pos < s.size)(hd:bT o.dst c.n)
  (hs:aA (bZ o.dst (.tuple #[.bool true,.int .i64 (pos:Int),.int .i32 ((Utf8.decode s pos).1:Int)]) st) st') (h:C R H' st'):aK P B c o R H st C :=
 Ox.mem (s:=λ ρ=>Instr.next (ρ x) true o.type) (by rw [ao]; rfl) hd (λ ρ=>by simp only [execOp,ao]) (λ ρ bd=>by
  rw [bd x _ hx]
  unfold Instr.next
  refine aF.bind (aF.getObj rfl (.inr hb.mem) ?_)
  simp only [hp,if_true]
  exact aF.bind (aF.setObj rfl rfl hb (aF.pure ⟨st',hs,h⟩)))
end
end Go.Lg
namespace Go.Lg
open Go.Conc
class mi (P:Program) where
 off:Nat→Nat→Option Nat
 ok:∀ s f n,off s f=some n→gf P s f n
def Ou(fo:Nat→Nat→Option Nat)(st:St)(o:Oper):Option Value :=
 match o.op with
 | .move x=>bl st x
 | .assign x=>bl st x
 | .pick x y z=>match bl st x with
  | some (.bool true)=>bl st y
  | some (.bool false)=>bl st z
  | _=>none
 | .extract x j=>match bl st x with
  | some (.tuple vs)=>vs[j]?
  | _=>none
 | .unOp .not _ x=>match bl st x with
  | some (.bool a)=>some (.bool (!a))
  | _=>none
 | .binOp bo _ x y _=>match bl st x,bl st y with
  | some (.int kd a),some (.int Ch b)=>if kd=Ch then (match Rj bo a b with
   | some r=>some (.bool r)
   | none=>match QF bo a b with
    | some z=>some (.int kd (kd.wrap z))
    | none=>none) else none
  | _,_=>none
 | .fieldAddr s x f=>match bl st x,fo s f with
  | some (.pointer (some ⟨b,n,none⟩)),some off=>some (.pointer (some ⟨b,n+off,none⟩))
  | _,_=>none
 | _=>none
section
variable {P:Program} [mi P] {B:Base} {main:Bool} {ae:Jd P B main} {c:Ctx} {R:ax} {H:aj} {st st':St} {o:Oper} {C:ax→aj→St→Prop} {k:List Item}
theorem afl{v:Value}(h:Ou (mi.off P) st o=some v)(hd:bT o.dst c.n)(hs:aA (bZ o.dst v st) st')(hC:C R H st'):aK P B c o R H st C:=by
 unfold Ou at h
 split at h
 ·rename_i x ao; exact Ox.move ao h hd hs hC
 ·rename_i x ao; exact Ox.assign ao h hd hs hC
 ·rename_i x y z ao
  split at h
  ·rename_i hx; exact Ox.aGk ao hx h hd hs hC
  ·rename_i hx; exact Ox.aGj ao hx h hd hs hC
  ·cases h
 ·rename_i x j ao
  split at h
  ·rename_i hx; exact Ox.extract ao hx h hd hs hC
  ·cases h
 ·rename_i t x ao
  split at h
  ·rename_i hx; cases h; exact Ox.not ao hx hd hs hC
  ·cases h
 ·rename_i bo t x y u ao
  split at h
  ·rename_i kd a Ch b hx hy
   split at h
   ·rename_i e; subst e
    split at h
    ·rename_i r hr; cases h; exact Ox.cmp ao hx hy hr hd hs hC
    ·split at h
     ·rename_i z hz; cases h; exact Ox.ar ao hx hy hz hd hs hC
     ·cases h
   ·cases h
  ·cases h
 ·rename_i s x f ao
  split at h
  ·rename_i hx hf; cases h; exact Ox.fieldAddr ao hx (mi.ok s f _ hf) hd hs hC
  ·cases h
 ·cases h
def XS(fo:Nat→Nat→Option Nat)(ops:Array Oper)(n:Nat)(st:St)(i:Nat):Option St :=
 match ops[i]? with
 | none=>none
 | some o=>match cN ops st o with
  | some true=>match Ou fo st o,o.dst with
   | some v,some d=>if Nat.blt d n=true then some ((d,v)::st) else none
   | _,_=>none
  | some false=>match mI o.op,o.dst with
   | false,some d=>if Nat.blt d n=true then some ((d,undef)::st) else none
   | false,none=>some st
   | _,_=>none
  | none=>none
def Ai(fo:Nat→Nat→Option Nat)(ops:Array Oper)(n:Nat):List Nat→St→Option St
 | [],st=>some st
 | i::is,st=>match XS fo ops n st i with
  | some st'=>Ai fo ops n is st'
  | none=>none
theorem afJ{ops:Array Oper}{n i:Nat}{fo:Nat→Nat→Option Nat}(h:XS fo ops n st i=some st'):∃ o,ops[i]? = some o ∧
  ((cN ops st o=some true∧∃ v d,Ou fo st o=some v∧o.dst=some d∧bT (some d) n∧st'=(d,v)::st) ∨
   (cN ops st o=some false∧mI o.op=false∧bT o.dst n∧st'=bZ o.dst undef st)):=by
 unfold XS at h
 split at h
 ·cases h
 ·rename_i o ho
  refine ⟨o,ho,?_⟩
  split at h
  ·rename_i hw
   split at h
   ·rename_i v d hv hd
    split at h
    ·rename_i hl; cases h; exact .inl ⟨hw,v,d,hv,hd,hl,rfl⟩
    ·cases h
   ·cases h
  ·rename_i hw
   split at h
   ·rename_i d lO hd
    split at h
    ·rename_i hl; cases h; exact .inr ⟨hw,lO,by rw [hd]; exact hl,by rw [hd]; rfl⟩
    ·cases h
   ·rename_i lO hd
    cases h; exact .inr ⟨hw,lO,by rw [hd]; rfl,by rw [hd]; rfl⟩
   ·cases h
  ·cases h
theorem At.run{ops:Array Oper}(hk:(c.kind == CallKind.early)=false):∀ {is rest:List Nat} {st:St},Ai (mi.off P) ops c.n is st=some st'→At ae c R H st' (.inRegion ops rest::k)→At ae c R H st (.inRegion ops (is++rest)::k)
 | [],rest,st,h,ha=>by cases h; exact ha
 | i::is,rest,st,h,ha=>by
  unfold Ai at h
  split at h
  ·rename_i vV h1
   have ih:=At.run hk h ha
   obtain ⟨o,ho,⟨hw,v,d,hv,hd,hl,rfl⟩ | ⟨hw,lO,hl,rfl⟩⟩:=afJ h1
   ·exact At.iq ho hw hk (afl hv (by rw [hd]; exact hl) (by rw [hd]; exact aA.refl _) ih)
   ·exact At.unwanted ho hw hl (aA.refl _) ih
  ·cases h
theorem At.vs(m:Nat){ops:Array Oper}{is qP:List Nat}(h:Ai (mi.off P) ops c.n (is.take m) st=some st')(hr:is.drop m=qP)(ha:At ae c R H st' (.inRegion ops qP::k))(hk:(c.kind == CallKind.early)=false:=by rfl):At ae c R H st (.inRegion ops is::k):=by
 subst hr
 have:=At.run (rest:=is.drop m) hk h ha
 rwa [List.take_append_drop] at this
def aa8(ops:Array Oper)(rem:List Nat)(i:Nat):Nat→List Nat→List Nat
 | 0,D=>D
 | n+1,D=>aa8 ops rem i n (rem.filter λ j=>j != i && (D.contains j || match ops[j]? with | some o=>o.after.any λ e=>Region.binds .any e && (e.on == i || D.contains e.on) | none=>false))
def Mc(ops:Array Oper)(rem:List Nat)(i:Nat):List Nat:=aa8 ops rem i rem.length []
def L8(ops:Array Oper):List Nat→List Nat→Bool
 | _,[]=>true
 | rem,i::is=>decide rem.Nodup && qi ops rem i (Mc ops rem i) && L8 ops (rem.erase i) is
theorem Any.vs'{S:Nat→aj}{ops:Array Oper}{n:Nat}:∀ (is:List Nat) {rem:List Nat} {st:St},Ai (mi.off P) ops c.n is st=some st'→L8 ops rem is=true→Any ae c S ops k n (is.foldl List.erase rem) R H st'→Any ae c S ops k (n+is.length) rem R H st
 | [],rem,st,h,_,ha=>by cases h; exact ha
 | i::is,rem,st,h,hc,ha=>by
  unfold Ai at h
  split at h
  ·rename_i vV h1
   simp only [L8,Bool.and_eq_true,decide_eq_true_eq] at hc
   obtain ⟨⟨dR,jI⟩,hc⟩:=hc
   have ih:=Any.vs' is h hc ha
   obtain ⟨o,ho,⟨hw,v,d,hv,hd,hl,rfl⟩ | ⟨hw,lO,hl,rfl⟩⟩:=afJ h1
   ·exact Any.Dd (N:=[]) _ ho hd hw jI (λ _ _ _ _ p hp=>by cases hp) (λ p hp=>by cases hp) (λ R' H' _ _=>afl hv (by rw [hd]; exact hl) (.one hd) ⟨rfl,rfl,rfl⟩) (aA.refl _) dR rfl ih
   ·exact Any.aHM _ ho jI lO hl hw (aA.refl _) dR rfl ih
  ·cases h
theorem Any.vs{S:Nat→aj}{ops:Array Oper}{n:Nat}(m:Nat)(is:List Nat){rem:List Nat}{st:St}(h:Ai (mi.off P) ops c.n is st=some st')(ha:Any ae c S ops k n (is.foldl List.erase rem) R H st')(hc:L8 ops rem is=true:=by decide +kernel)(hm:is.length=m:=by rfl):Any ae c S ops k (n+m) rem R H st:=by
 subst hm
 exact Any.vs' is h hc ha
end
section
variable {P:Program} {B:Base} {main:Bool} {ae:Jd P B main} {c:Ctx} {R:ax} {H:aj} {st st':St} {o:Oper} {C:ax→aj→St→Prop} {k:List Item}
theorem At.rg(is:List Nat){id:Nat}{ops:Array Oper}(h:At ae c R H st (.inRegion ops is::k))(hn:ops.size=is.length:=by rfl)(lP:List.range is.length=is:=by rfl):At ae c R H st (.code (.region id ops false)::k):=At.aGI hn lP h
theorem At.dw(is:List Nat){id:Nat}{ops:Array Oper}(hm:P.follows .mixedOrders=true)(h:Any ae c (λ _=>H) ops k is.length is R H st)(hk:(c.kind == CallKind.early)=false:=by rfl)(hb:backward ops=true:=by decide +kernel)(hn:ops.size=is.length:=by rfl)(lP:List.range is.length=is:=by rfl):At ae c R H st (.code (.region id ops true)::k):=At.akU hm hk hb hn lP h
theorem Any.tk(i:Nat){N:aj}{ops:Array Oper}{n d:Nat}{rem:List Nat}{v:Value}(ho:ops[i]? = some o)(hS:∀ p∈N,p∈H)(hf:∀ R' H',aQ R R'→(∀ p∈N,p∈H')→aK P B c o R' H' st λ R1 H1 vV=>R1=R'∧H1=H'∧vV=[(d,v)])
  (h:Any ae c (λ _=>N) ops k n (rem.erase i) R H ((d,v)::st)) (od:o.dst=some d:=by rfl) (hw:cN ops st o=some true:=by rfl) (jI:qi ops rem i (Mc ops rem i)=true:=by decide +kernel) (dR:rem.Nodup:=by decide):Any ae c (λ _=>N) ops k (n+1) rem R H st :=
 Any.Dd _ ho od hw jI (λ _ _ _ _ _ hp=>hp) hS hf (aA.refl _) dR rfl h
theorem At.cv{ops:Array Oper}{i d:Nat}{rest:List Nat}{ca:Call}{x:Operand}{f:FuncId}{first captured:Array Value}{vs:List Value}{args:Array Value}{Post:Value→ax→aj→Prop}(he:bp P f)(hf:az ae f args R H Post)
  (h:∀ v R' H',Post v R' H'→At ae c R' H' ((d,v)::st) (.inRegion ops rest::k))
  (ho:ops[i]? = some o:=by rfl) (hw:cN ops st o=some true:=by rfl) (hk:(c.kind == CallKind.early)=false:=by rfl) (ao:o.op = .call ca:=by rfl) (hc:ca.callee = .value x:=by rfl) (hx:bl st x=some (.func (.func f) first captured):=by rfl)
  (ha:iG st ca.args.toList=some vs:=by rfl) (H8:first++vs.toArray++captured=args:=by rfl) (hd:o.dst=some d:=by rfl) (hl:Nat.blt d c.n=true:=by rfl):At ae c R H st (.inRegion ops (i::rest)::k) :=
 At.step ho hw hk (Ox.dE ao hc hx ha he H8 (by rw [hd]; exact hl) (hf.mono λ v R' H' hp=>⟨_,.put hd,h v R' H' hp⟩))
theorem Any.cv(i:Nat){S:Nat→aj}{ops:Array Oper}{n d:Nat}{rem:List Nat}{ca:Call}{x:Operand}{f:FuncId}{first captured:Array Value}{vs:List Value}{args:Array Value}{Post:Value→ax→aj→Prop}(he:bp P f)(hf:az ae f args R H Post)
  (h:∀ v R' H',Post v R' H'→aQ R R'∧(∀ p∈S i,p∈H→p∈H')∧Any ae c S ops k n (rem.erase i) R' H' ((d,v)::st))
  (ho:ops[i]? = some o:=by rfl) (hw:cN ops st o=some true:=by rfl) (ao:o.op = .call ca:=by rfl) (hc:ca.callee = .value x:=by rfl) (hx:bl st x=some (.func (.func f) first captured):=by rfl)
  (ha:iG st ca.args.toList=some vs:=by rfl) (H8:first++vs.toArray++captured=args:=by rfl) (hd:o.dst=some d:=by rfl) (hl:Nat.blt d c.n=true:=by rfl) (mG:rem.filter (nE ops rem)=[i]:=by decide +kernel) (dR:rem.Nodup:=by decide):Any ae c S ops k (n+1) rem R H st :=
 Any.one ho mG hw dR rfl (Ox.dE ao hc hx ha he H8 (by rw [hd]; exact hl) (hf.mono λ v R' H' hp=>⟨_,.put hd,h v R' H' hp⟩))
theorem Any.on(i:Nat){S:Nat→aj}{ops:Array Oper}{n:Nat}{rem:List Nat}(ho:ops[i]? = some o)(hw:cN ops st o=some true)
  (h:oO ae c o R H st λ R' H' st'=>aQ R R'∧(∀ p∈S i,p∈H→p∈H')∧Any ae c S ops k n (rem.erase i) R' H' st') (mG:rem.filter (nE ops rem)=[i]:=by decide +kernel) (dR:rem.Nodup:=by decide):Any ae c S ops k (n+1) rem R H st:=Any.one ho mG hw dR rfl h
theorem At.ld{ops:Array Oper}{i d:Nat}{rest:List Nat}{x:Operand}{t:TypeId}{b off:Nat}{v:Value}(ht:gG P t)(hc:Cell R H ⟨b,off,none⟩ v)(h:At ae c R H ((d,v)::st) (.inRegion ops rest::k))
  (ho:ops[i]? = some o:=by rfl) (hw:cN ops st o=some true:=by rfl) (hk:(c.kind == CallKind.early)=false:=by rfl) (ao:o.op = .load t x:=by rfl) (hx:bl st x=some (.pointer (some ⟨b,off,none⟩)):=by rfl) (hd:o.dst=some d:=by rfl) (hl:Nat.blt d c.n=true:=by rfl):At ae c R H st (.inRegion ops (i::rest)::k) :=
 At.iq ho hw hk (Ox.bI ao hx ht hc (by rw [hd]; exact hl) (.put hd) h)
theorem At.kn(t:Nat){x b:Bool}{todo:List Item}(hb:x=b)(h:At ae c R H ((t,.bool b)::st) todo)(hx:st.lookup t=some (.bool x):=by rfl):At ae c R H st todo:=At.known hx hb h
theorem At.s{ops:Array Oper}{i:Nat}{rest:List Nat}(ho:ops[i]? = some o)(hw:cN ops st o=some true)(h:aK P B c o R H st λ R' H' st'=>At ae c R' H' st' (.inRegion ops rest::k))(hk:(c.kind == CallKind.early)=false:=by rfl):At ae c R H st (.inRegion ops (i::rest)::k):=At.iq ho hw hk h
end
abbrev aC:List Nat:=[0]
abbrev aG:List Nat:=[0,1]
abbrev bg:List Nat:=[0,1,2]
abbrev bN:List Nat:=[0,1,2,3]
abbrev cG:List Nat:=[0,1,2,3,4]
abbrev fE:List Nat:=[0,1,2,3,4,5]
abbrev fa:List Nat:=[0,1,2,3,4,5,6]
abbrev gb:List Nat:=[0,1,2,3,4,5,6,7]
abbrev mg:List Nat:=[0,1,2,3,4,5,6,7,8]
abbrev k9:List Nat:=[0,1,2,3,4,5,6,7,8,9]
abbrev AS:List Nat:=[0,1,2,3,4,5,6,7,8,9,10]
abbrev yG:List Nat:=[0,1,2,3,4,5,6,7,8,9,10,11]
abbrev Y7:List Nat:=[0,1,2,3,4,5,6,7,8,9,10,11,12]
abbrev C8:List Nat:=[0,1,2,3,4,5,6,7,8,9,10,11,12,13]
abbrev Ag:List Nat:=[0,1,2,3,4,5,6,7,8,9,10,11,12,13,14]
abbrev Ko:List Nat:=[0,1,2,3,4,5,6,7,8,9,10,11,12,13,14,15]
abbrev aJu:List Nat:=[0,1,2,3,4,5,6,7,8,9,10,11,12,13,14,15,16]
abbrev afo:List Nat:=[0,1,2,3,4,5,6,7,8,9,10,11,12,13,14,15,16,17]
abbrev aGN:List Nat:=[0,1,2,3,4,5,6,7,8,9,10,11,12,13,14,15,16,17,18,19]
abbrev aJv:List Nat:=[0,1,2,3,4,5,6,7,8,9,10,11,12,13,14,15,16,17,18,19,20,21]
abbrev aGO:List Nat:=[0,1,2,3,4,5,6,7,8,9,10,11,12,13,14,15,16,17,18,19,20,21,22,23,24,25]
abbrev afp:List Nat:=[0,1,2,3,4,5,6,7,8,9,10,11,12,13,14,15,16,17,18,19,20,21,22,23,24,25,26]
abbrev aGP:List Nat:=[0,1,2,3,4,5,6,7,8,9,10,11,12,13,14,15,16,17,18,19,20,21,22,23,24,25,26,27]
abbrev ahG:List Nat:=[0,1,2,3,4,5,6,7,8,9,10,11,12,13,14,15,16,17,18,19,20,21,22,23,24,25,26,27,28]
abbrev aGQ:List Nat:=[0,1,2,3,4,5,6,7,8,9,10,11,12,13,14,15,16,17,18,19,20,21,22,23,24,25,26,27,28,29,30,31]
abbrev aGR:List Nat:=[0,1,2,3,4,5,6,7,8,9,10,11,12,13,14,15,16,17,18,19,20,21,22,23,24,25,26,27,28,29,30,31,32,33,34,35,36,37]
abbrev aGS:List Nat:=[0,1,2,3,4,5,6,7,8,9,10,11,12,13,14,15,16,17,18,19,20,21,22,23,24,25,26,27,28,29,30,31,32,33,34,35,36,37,38,39,40,41]
abbrev aGT:List Nat:=[0,1,2,3,4,5,6,7,8,9,10,11,12,13,14,15,16,17,18,19,20,21,22,23,24,25,26,27,28,29,30,31,32,33,34,35,36,37,38,39,40,41,42]
abbrev aGU:List Nat:=[0,1,2,3,4,5,6,7,8,9,10,11,12,13,14,15,16,17,18,19,20,21,22,23,24,25,26,27,28,29,30,31,32,33,34,35,36,37,38,39,40,41,42,43,44]
abbrev aGV:List Nat:=[0,1,2,3,4,5,6,7,8,9,10,11,12,13,14,15,16,17,18,19,20,21,22,23,24,25,26,27,28,29,30,31,32,33,34,35,36,37,38,39,40,41,42,43,44,45,46,47,48,49,50,51]
end Go.Lg
namespace Go.Lg
section
variable {α:Type} {a Ei Hw LY QS aav akA aQT aQU x:α} {l l₁ E4:List α}
theorem so(h:List.Sublist l₁ E4):List.Sublist l₁ (a::E4):=h.cons a
theorem sk(h:List.Sublist l₁ E4):List.Sublist (a::l₁) (a::E4):=List.Sublist.cons_cons a h
theorem sr:List.Sublist l l:=.refl _
theorem sn:List.Sublist [] l:=List.nil_sublist _
theorem su(h:List.Sublist l₁ E4):∀ p∈l₁,p∈E4:=λ _ hp=>h.subset hp
theorem pp:∀ p∈l,p∈l:=λ _ h=>h
theorem z0:x∈x::l:=.head _
theorem z1:x∈a::x::l:=.tail _ z0
theorem z2:x∈a::Ei::x::l:=.tail _ z1
theorem z3:x∈a::Ei::Hw::x::l:=.tail _ z2
theorem z4:x∈a::Ei::Hw::LY::x::l:=.tail _ z3
theorem z5:x∈a::Ei::Hw::LY::QS::x::l:=.tail _ z4
theorem z6:x∈a::Ei::Hw::LY::QS::aav::x::l:=.tail _ z5
theorem z7:x∈a::Ei::Hw::LY::QS::aav::akA::x::l:=.tail _ z6
end
section
variable {P:Program} {B:Base} {main:Bool} {ae:Jd P B main} {c:Ctx} {R:ax} {H:aj} {st st':St} {o:Oper} {k:List Item}
theorem sq{x y:Code}(h:At ae c R H st (.code x :: .code y::k)):At ae c R H st (.code (.seq x y)::k):=At.seq h
theorem er{ops:Array Oper}(h:At ae c R H st k):At ae c R H st (.inRegion ops []::k):=At.aP h
theorem es{ops:Array Oper}{x y:Code}(h:At ae c R H st (.code x :: .code y::k)):At ae c R H st (.inRegion ops [] :: .code (.seq x y)::k):=At.aP (At.seq h)
theorem sg(is:List Nat){id:Nat}{ops:Array Oper}{y:Code}(h:At ae c R H st (.inRegion ops is :: .code y::k))(hn:ops.size=is.length:=by rfl)(lP:List.range is.length=is:=by rfl):At ae c R H st (.code (.seq (.region id ops false) y)::k):=At.seq (At.rg is h hn lP)
theorem nx(is:List Nat){id:Nat}{os ops:Array Oper}{y:Code}(h:At ae c R H st (.inRegion ops is :: .code y::k))(hn:ops.size=is.length:=by rfl)(lP:List.range is.length=is:=by rfl):At ae c R H st (.inRegion os [] :: .code (.seq (.region id ops false) y)::k):=At.aP (sg is h hn lP)
theorem sp(h:At ae c R H st k):At ae c R H st (.code .skip::k):=At.skip h
theorem vs[mi P](m:Nat){ops:Array Oper}{is qP:List Nat}(ha:At ae c R H st' (.inRegion ops qP::k))(h:Ai (mi.off P) ops c.n (is.take m) st=some st':=by rfl)(hr:is.drop m=qP:=by rfl)(hk:(c.kind == CallKind.early)=false:=by rfl):At ae c R H st (.inRegion ops is::k):=At.vs m h hr ha hk
theorem ld(j:Nat){ops:Array Oper}{i d:Nat}{rest:List Nat}{x:Operand}{t e:TypeId}{b:Nat}{fz:Nat × Nat}{L:List Value}{v:Value}(ht:gG P t)(hm:(b,Obj.cells L.toArray e fz)∈H)(h:At ae c R H ((d,v)::st) (.inRegion ops rest::k))(hj:L[j]? = some v:=by rfl)
  (ho:ops[i]? = some o:=by rfl) (hw:cN ops st o=some true:=by rfl) (hk:(c.kind == CallKind.early)=false:=by rfl) (ao:o.op = .load t x:=by rfl) (hx:bl st x=some (.pointer (some ⟨b,0+j,none⟩)):=by rfl) (hd:o.dst=some d:=by rfl) (hl:Nat.blt d c.n=true:=by rfl):At ae c R H st (.inRegion ops (i::rest)::k) :=
 At.ld ht ((aH.box hm).one hj) h ho hw hk ao hx hd hl
theorem lN(vs:List Value)(j n:Nat){ops:Array Oper}{i d:Nat}{rest:List Nat}{x:Operand}{t e:TypeId}{b:Nat}{fz:Nat × Nat}{L:List Value}{m:Nat}(ht:mR P t m)(hm:(b,Obj.cells L.toArray e fz)∈H)(h:At ae c R H ((d,.agg vs.toArray)::st) (.inRegion ops rest::k))(hv:(L.drop j).take n=vs:=by rfl)
  (ho:ops[i]? = some o:=by rfl) (hw:cN ops st o=some true:=by rfl) (hk:(c.kind == CallKind.early)=false:=by rfl) (ao:o.op = .load t x:=by rfl) (hx:bl st x=some (.pointer (some ⟨b,0+j,none⟩)):=by rfl) (hn:vs.length=m:=by rfl) (hd:o.dst=some d:=by rfl) (hl:Nat.blt d c.n=true:=by rfl):At ae c R H st (.inRegion ops (i::rest)::k) :=
 At.s ho hw (Ox.cy ao hx ht hn ((aH.box hm).part hv) (by rw [hd]; exact hl) (.put hd) h) hk
theorem bx{ops:Array Oper}{i d:Nat}{rest:List Nat}{x:Operand}{t:TypeId}{vs:Array Value}(h:∀ b,At ae c R ((b,.cells vs t)::H) ((d,.pointer (some ⟨b,0,none⟩))::st) (.inRegion ops rest::k))
  (ho:ops[i]? = some o:=by rfl) (hw:cN ops st o=some true:=by rfl) (hk:(c.kind == CallKind.early)=false:=by rfl) (ao:o.op = .box t x:=by rfl) (hx:bl st x=some (.agg vs):=by rfl) (hd:o.dst=some d:=by rfl) (hl:Nat.blt d c.n=true:=by rfl):At ae c R H st (.inRegion ops (i::rest)::k) :=
 At.s ho hw (Ox.aam ao hx (by rw [hd]; exact hl) λ b _ _=>⟨_,.put hd,h b⟩) hk
theorem sc{α:Type}{t:Bool}{a b:Option α}{r:α}{x:Operand}{th el:Code}(hM:af t a b=some r)(h1:t=true→a=some r→At ae c R H st (.code th::k))(h2:t=false→b=some r→At ae c R H st (.code el::k))(hx:bl st x=some (.bool t):=by rfl):At ae c R H st (.code (.cond x th el)::k) :=
 bK hM (λ h hM=>At.fA hx h (h1 h hM)) (λ h hM=>At.eD hx h (h2 h hM))
theorem ls{α:Type}{K:cH α}{n:Nat}{ops:Array Oper}{i d:Nat}{rest:List Nat}{x:Operand}{t e:TypeId}{v:Value}{xs:List α}(hl:ag K n R v xs)(ht:P.underlying t=some (.slice e))(h:At ae c R H ((d,.int .i64 (xs.length:Int))::st) (.inRegion ops rest::k))
  (ho:ops[i]? = some o:=by rfl) (hw:cN ops st o=some true:=by rfl) (hk:(c.kind == CallKind.early)=false:=by rfl) (ao:o.op = .call ⟨.builtin .len,#[x],#[t]⟩:=by rfl) (hx:bl st x=some v:=by rfl) (hd:o.dst=some d:=by rfl) (hn:Nat.blt d c.n=true:=by rfl):At ae c R H st (.inRegion ops (i::rest)::k) :=
 At.s ho hw (Ox.uL ao hx hl ht (by rw [hd]; exact hn) (.put hd) h) hk
theorem lr{α:Type}{K:cH α}{n:Nat}{ops:Array Oper}{i d:Nat}{rest:List Nat}{x:Operand}{t e:TypeId}{v:Value}{xs:List α}{H0:aj}(hl:dr K n R H0 v xs)(ht:P.underlying t=some (.slice e))(h:At ae c R H ((d,.int .i64 (xs.length:Int))::st) (.inRegion ops rest::k))
  (ho:ops[i]? = some o:=by rfl) (hw:cN ops st o=some true:=by rfl) (hk:(c.kind == CallKind.early)=false:=by rfl) (ao:o.op = .call ⟨.builtin .len,#[x],#[t]⟩:=by rfl) (hx:bl st x=some v:=by rfl) (hd:o.dst=some d:=by rfl) (hn:Nat.blt d c.n=true:=by rfl):At ae c R H st (.inRegion ops (i::rest)::k) :=
 At.s ho hw (Ox.WG ao hx hl ht (by rw [hd]; exact hn) (.put hd) h) hk
theorem rt{fr:Frame}{cs:List Frame}{f:FuncId}{n:Nat}{fn:Func}{vs:List Value}{H':aj}(hf:P.funcs[f]? = some fn)(hr:oP P R H st fn.results.toList vs)(hs:List.Sublist H' H)(hj:ae.J R H' (aV (fr.finish (gX vs)) cs)):At ae ⟨f,.normal,none,n,[],fr::cs⟩ R H st (.code .ret::k) :=
 At.C6 hf hr (J.drop hs hj)
theorem ts(i:Nat){ops:Array Oper}{n d:Nat}{rem:List Nat}{S:Nat→aj}{v:Value}{N:aj}(D:List Nat)(ho:ops[i]? = some o)(wZ:∀ j∈rem,j≠i→j ∉ D→∀ p∈N,p∈S j)(hS:∀ p∈N,p∈H)
  (hf:∀ R' H',aQ R R'→(∀ p∈N,p∈H')→aK P B c o R' H' st λ R1 H1 vV=>R1=R'∧H1=H'∧vV=[(d,v)]) (h:Any ae c S ops k n (rem.erase i) R H ((d,v)::st))
  (od:o.dst=some d:=by rfl) (hw:cN ops st o=some true:=by rfl) (jI:qi ops rem i D=true:=by decide +kernel) (dR:rem.Nodup:=by decide):Any ae c S ops k (n+1) rem R H st :=
 Any.Dd D ho od hw jI wZ hS hf (aA.refl _) dR rfl h
theorem tl(i j:Nat){ops:Array Oper}{n d:Nat}{rem:List Nat}{x:Operand}{t e:TypeId}{b:Nat}{fz:Nat × Nat}{L:List Value}{v:Value}(ht:gG P t)(hm:(b,Obj.cells L.toArray e fz)∈H)(h:Any ae c (λ _=>H) ops k n (rem.erase i) R H ((d,v)::st))(hj:L[j]? = some v:=by rfl)
  (ho:ops[i]? = some o:=by rfl) (ao:o.op = .load t x:=by rfl) (hx:bl st x=some (.pointer (some ⟨b,0+j,none⟩)):=by rfl) (od:o.dst=some d:=by rfl) (hl:Nat.blt d c.n=true:=by rfl) (hw:cN ops st o=some true:=by rfl) (jI:qi ops rem i (Mc ops rem i)=true:=by decide +kernel) (dR:rem.Nodup:=by decide):Any ae c (λ _=>H) ops k (n+1) rem R H st :=
 Any.tk i ho pp (λ _ _ _ hS=>Ox.bI ao hx ht ((aH.box (hS _ hm)).one hj) (by rw [od]; exact hl) (.one od) ⟨rfl,rfl,rfl⟩) h od hw jI dR
theorem tN(i:Nat)(vs:List Value)(j m:Nat){ops:Array Oper}{n d:Nat}{rem:List Nat}{x:Operand}{t e:TypeId}{b:Nat}{fz:Nat × Nat}{L:List Value}{q:Nat}(ht:mR P t q)(hm:(b,Obj.cells L.toArray e fz)∈H)(h:Any ae c (λ _=>H) ops k n (rem.erase i) R H ((d,.agg vs.toArray)::st))(hv:(L.drop j).take m=vs:=by rfl)
  (ho:ops[i]? = some o:=by rfl) (ao:o.op = .load t x:=by rfl) (hx:bl st x=some (.pointer (some ⟨b,0+j,none⟩)):=by rfl) (hq:vs.length=q:=by rfl) (od:o.dst=some d:=by rfl) (hl:Nat.blt d c.n=true:=by rfl) (hw:cN ops st o=some true:=by rfl) (jI:qi ops rem i (Mc ops rem i)=true:=by decide +kernel) (dR:rem.Nodup:=by decide):Any ae c (λ _=>H) ops k (n+1) rem R H st :=
 Any.tk i ho pp (λ _ _ _ hS=>Ox.cy ao hx ht hq ((aH.box (hS _ hm)).part hv) (by rw [od]; exact hl) (.one od) ⟨rfl,rfl,rfl⟩) h od hw jI dR
theorem tw(i j:Nat){S:Nat→aj}{ops:Array Oper}{n:Nat}{rem:List Nat}{a b:Oper}(h1:oO ae c a R H st λ R' H' st'=>aQ R R'∧(∀ p∈S i,p∈H→p∈H')∧Any ae c S ops k n (rem.erase i) R' H' st')
  (h2:oO ae c b R H st λ R' H' st'=>aQ R R'∧(∀ p∈S j,p∈H→p∈H')∧Any ae c S ops k n (rem.erase j) R' H' st') (ha:ops[i]? = some a:=by rfl) (hb:ops[j]? = some b:=by rfl) (mG:rem.filter (nE ops rem)=[i,j]:=by decide +kernel) (Je:cN ops st a=some true:=by rfl) (Jf:cN ops st b=some true:=by rfl) (dR:rem.Nodup:=by decide):Any ae c S ops k (n+1) rem R H st :=
 Any.aHX ha hb mG Je Jf dR rfl rfl h1 h2
theorem ka{H X:aj}:∀ p∈H,p∈X→p∈H:=λ _ h _=>h
theorem kp{R:ax}{H X:aj}{C:Prop}(h:C):aQ R R∧(∀ p∈H,p∈X→p∈H)∧C:=⟨aQ.refl _,ka,h⟩
theorem ku{H H' X:aj}(h:List.Sublist H H'):∀ p∈H,p∈X→p∈H':=λ _ hp _=>h.subset hp
theorem rr{R:ax}:aQ R R:=aQ.refl _
end
abbrev CZ:cH Int:=CI .i64
end Go.Lg
namespace Go.Lg
open Go.Conc
def sD(v:Value)(lo k:Nat):Value:=match v with | .slice A n cap=>.slice (if cap=lo then A else A.map (·.add (lo * k))) (n - lo) (cap - lo) | v=>v
def qy(xs:List Int)(lo:Nat):List Int:=xs.take lo++List.replicate (xs.length - lo) 0
theorem akJ{α:Type}{xs ys:List α}{lo hi:Int}(h:lK xs lo hi=some ys):lo.toNat≤xs.length:=by
 obtain ⟨h1,h2,h3,_⟩:=HD h
 omega
section
variable {P:Program} {B:Base} {main:Bool} {ae:Jd P B main} {c:Ctx} {R:ax} {H H':aj} {st st':St} {o:Oper} {C:ax→aj→St→Prop}
theorem bC.view{α:Type}{K:cH α}{k e:Nat}{v:Value}{xs:List α}{Hs:aj}{lo:Nat}(h:bC K k e R v xs Hs)(hs:∀ p∈Hs,p∈H):dr K k R H (sD v lo k) (xs.drop lo):=by
 obtain ⟨A,cap,es,rfl,hE,w7,hm⟩:=h.rd hs
 refine ⟨if cap=lo then A else A.map (·.add (lo * k)),cap - lo,es.drop (lo * k),by simp [sD],hE.drop,by simp; omega,λ cT=>?_⟩
 have bL:lo < xs.length:=by
  apply Classical.byContradiction
  intro hn
  exact cT (List.drop_eq_nil_of_le (by omega))
 obtain ⟨b,o',rfl,g2⟩:=hm (by rintro rfl; simp at bL)
 refine ⟨b,o'+lo * k,?_,λ j w hj=>?_⟩
 ·rw [if_neg (by omega)]; simp [ry]
 ·rw [List.getElem?_drop] at hj
  have:=g2 _ _ hj
  simpa [Nat.add_assoc] using this
theorem bC.af9{α:Type}{K:cH α}{k t e e':Nat}{v:Value}{xs ys:List α}{Hs:aj}{lo:Int}(h:bC K k e R v xs Hs)(ht:mU P t e' k)(hc:lK xs lo (xs.length:Int)=some ys):DX P t k v (xs.length:Int) lo (xs.length:Int) (sD v lo.toNat k):=by
 obtain ⟨h1,h2,h3,_⟩:=HD hc
 obtain ⟨A,cap,es,rfl,hE,w7,hm⟩:=h.rd (H:=Hs) (λ _ h=>h)
 intro ρ st x lo' hi bd hx hl hh
 rw [Int.toNat_natCast] at hh
 rw [hx]
 unfold Instr.sliceAt
 refine ai.bind (ai.underlying ht.1) ?_
 unfold Instr.slice
 refine ai.bind (ai.underlying ht.1) (ai.bind (OW bd hl hh ⟨h1,h2,h3⟩ w7) (ai.bind ht.2 ?_))
 simp only [sD,Int.toNat_natCast]
 exact ai.pure _
theorem bC.front{α:Type}{K:cH α}{k t e e':Nat}{v:Value}{xs ys:List α}{Hs:aj}{hi:Int}(h:bC K k e R v xs Hs)(ht:mU P t e' k)(hc:lK xs 0 hi=some ys):∃ v',bC K k e R v' ys Hs∧DX P t k v (xs.length:Int) 0 hi v':=by
 obtain ⟨h1,h2,h3,rfl⟩:=HD hc
 have key:∀ A cap,v = .slice A xs.length cap→xs.length≤cap→DX P t k v (xs.length:Int) 0 hi (.slice (if cap=0 then A else A.map (·.add (0 * k))) (hi.toNat - 0) (cap - 0)):=by
  rintro A cap rfl w7 ρ st x lo' o6 bd hx hl hh
  rw [Int.toNat_natCast] at hh
  rw [hx]
  unfold Instr.sliceAt
  refine ai.bind (ai.underlying ht.1) ?_
  unfold Instr.slice
  exact ai.bind (ai.underlying ht.1) (ai.bind (OW bd hl hh ⟨h1,h2,h3⟩ w7) (ai.bind ht.2 (ai.pure _)))
 rcases h with ⟨A,rfl,rfl,rfl⟩ | ⟨b,cap,cs,es,rfl,rfl,g3,g4,g5,g6⟩
 ·have:=key A 0 rfl (Nat.le_refl _)
  have h0:hi.toNat=0:=by simp at h3; omega
  rw [h0] at this
  exact ⟨_,.inl ⟨A,rfl,by simp,rfl⟩,by simpa using this⟩
 ·refine ⟨_,?_,key _ cap rfl g4⟩
  have zo:((xs.take hi.toNat).drop (0:Int).toNat).length=hi.toNat:=by simp; omega
  refine .inr ⟨b,cap,cs,es.take (hi.toNat * k),?_,rfl,g3,by rw [zo]; omega,by simpa using g5.take,λ j w hj=>?_⟩
  ·rw [zo]
   congr 1
   split <;> simp [ry]
  ·rw [List.getElem?_take] at hj
   split at hj
   ·exact g6 _ _ hj
   ·cases hj
theorem Ox.aC7{α:Type}{K:cH α}{k e' lo:Nat}{x:Operand}{t e:TypeId}{v:Value}{xs:List α}{Hs:aj}(ao:o.op = .call ⟨.builtin .len,#[x],#[t]⟩)(hx:bl st x=some (sD v lo k))(hl:bC K k e' R v xs Hs)(ht:P.underlying t=some (.slice e))
  (hd:bT o.dst c.n) (hs:aA (bZ o.dst (.int .i64 ((xs.drop lo).length:Int)) st) st') (h:C R H st'):aK P B c o R H st C :=
 Ox.WG ao hx (hl.view (H:=Hs) (λ _ h=>h)) ht hd hs h
theorem Ox.akE{t e lo:Nat}(G:aj→aj){x:Operand}{v:Value}{xs:List Int}{Hs:aj}(ao:o.op = .call ⟨.builtin .clear,#[x],#[t]⟩)(hx:bl st x=some (sD v lo 1))(ht:mU P t e 1)(hz:iF P e #[.int .i64 0])(hG:kP G)
  (hO:bC (CI .i64) 1 e R v xs Hs) (hlo:lo≤xs.length) (hd:bT o.dst c.n) (hC:∀ cz,bC (CI .i64) 1 e R v (qy xs lo) cz→∃ st',aA (bZ o.dst (.tuple #[]) st) st'∧C R (G cz) st'):aK P B c o R (G Hs) st C:=by
 refine ⟨by rw [ao]; rfl,hd,λ ρ bd=>?_⟩
 simp only [execOp,ao]
 refine ai.eT (a:=⟨.builtin .clear #[t] o.type (#[x].map λ | .const _=>true | _=>false),#[x].map ρ⟩) (ai.pure _) ?_
 simp only [invoke,builtin]
 have e1:(#[x].map ρ)=#[sD v lo 1]:=by simp [bd x _ hx]
 rw [e1]
 have fin:∀ cz,bC (CI .i64) 1 e R v (qy xs lo) cz→aF P B R (G cz) (pure (Value.tuple #[])) λ a R' H'=>aF P B R' H' (pure (Next.value a)) λ nx R' H'=>∃ v,(nx = .value v∨(nx = .skip∧v=undef))∧∃ st',aA (bZ o.dst v st) st'∧C R' H' st':=λ cz h=>by
  obtain ⟨st',hs,hC'⟩:=hC cz h
  exact aF.pure (aF.pure ⟨_,.inl rfl,st',hs,hC'⟩)
 refine aF.bind ?_
 unfold Builtin.clear_
 refine ai.eT (ai.underlying ht.1) ?_
 by_cases hn:xs.length - lo=0
 ·have hv:∃ A cap,sD v lo 1 = .slice A 0 cap:=by
   obtain ⟨A,cap,es,rfl,_⟩:=hO.rd (H:=Hs) (λ _ h=>h)
   exact ⟨_,_,by simp only [sD,hn]; rfl⟩
  obtain ⟨A,cap,hv⟩:=hv
  rw [hv]
  have PQ:qy xs lo=xs:=by
   unfold qy
   rw [hn,List.replicate_zero,List.append_nil,List.take_of_length_le (by omega)]
  rw [PQ] at fin
  cases A with
  | none=>exact aF.bind (aF.pure (fin Hs hO))
  | some a=>exact aF.bind (aF.pure (fin Hs hO))
 ·rcases hO with ⟨A,rfl,rfl,rfl⟩ | ⟨b,cap,cs,es,rfl,rfl,g3,g4,g5,g6⟩
  ·simp at hn
  ·have hv:sD (.slice (some ⟨b,0,none⟩) xs.length cap) lo 1 = .slice (some ⟨b,lo,none⟩) (xs.length - lo) (cap - lo):=by
    simp only [sD]
    rw [if_neg (by omega)]
    simp [ry]
   rw [hv]
   obtain ⟨m,hm⟩:∃ m,xs.length - lo=m+1:=⟨xs.length - lo - 1,by omega⟩
   rw [hm]
   dsimp only
   obtain ⟨z0,hz0,hzc⟩:=hz
   refine ai.eT hz0 (aF.bind ?_)
   have TP:(Builtin.zeroCells z0.cells (m+1)).toList=List.replicate (m+1) (Value.int .i64 0):=by
    rw [hzc]
    apply List.ext_getElem?
    intro j
    simp only [Builtin.zeroCells]
    by_cases hj:j < m+1
    ·simp [hj,Nat.mod_one]
    ·simp [hj]
   rw [TP]
   have fH:lo+(m+1)≤cs.size:=by omega
   refine aF.given λ dR=>aF.OF _ cs lo 0 (G [(b,.cells cs e (0,0))]) (G [(b,.cells (fN cs lo (List.replicate (m+1) (Value.int .i64 0))) e (0,0))]) (λ u hu=>by rw [List.eq_of_mem_replicate hu]; rfl) (by simp; omega) (by simpa using kP.set hG) dR ?_
   have acL:(qy xs lo).length=xs.length:=by simp [qy]; omega
   refine fin _ (.inr ⟨b,cap,fN cs lo (List.replicate (m+1) (Value.int .i64 0)),es.take lo++List.replicate (m+1) (Value.int .i64 0),by rw [acL],rfl,by rw [Kj]; exact g3,by rw [acL]; exact g4,?_,λ j w hj=>?_⟩)
   ·have h1:=g5.take (n:=lo)
    rw [Nat.mul_one] at h1
    unfold qy
    rw [hm]
    refine h1.append ?_
    refine ⟨by simp,λ i x hx=>?_⟩
    rw [List.getElem?_replicate] at hx
    split at hx
    ·rename_i hi
     cases hx
     refine ⟨[.int .i64 0],rfl,rfl,λ j w hj=>?_⟩
     have hj1:=(List.getElem?_eq_some_iff.1 hj).1
     have hj0:j=0:=by simp at hj1; omega
     subst hj0
     rw [Nat.mul_one,List.getElem?_replicate,if_pos (by omega)]
     exact hj
    ·cases hx
   ·have lp:=g5.len
    rw [Nat.mul_one] at lp
    rw [C5 _ _ _ _ (by simp; omega)]
    rcases Nat.lt_or_ge j lo with ED | ED
    ·rw [List.getElem?_append_left (by simp; omega),List.getElem?_take,if_pos ED] at hj
     rw [if_neg (by omega)]
     exact g6 _ _ hj
    ·rw [List.getElem?_append_right (by simp; omega)] at hj
     have asN:(es.take lo).length=lo:=by simp; omega
     rw [asN] at hj
     have bL:=(List.getElem?_eq_some_iff.1 hj).1
     rw [if_pos ⟨ED,by simp at bL ⊢; omega⟩]
     exact hj
end
end Go.Lg
namespace Go.Lg
def ab{α:Type}(a b:Option α):Prop:=∀ r,a=some r→b=some r
theorem ab.refl{α:Type}(a:Option α):ab a a:=λ _ h=>h
theorem ab.none{α:Type}{b:Option α}:ab none b:=λ _ h=>by cases h
theorem ab.bind{α β:Type}{a a':Option α}{f f':α→Option β}(h:ab a a')(hf:∀ x,ab (f x) (f' x)):ab (a.bind f) (a'.bind f'):=by
 intro r hr
 obtain ⟨x,hx,hr⟩:=ah hr
 rw [h x hx]
 exact hf x r hr
theorem ab.af{α:Type}{t:Bool}{a a' b b':Option α}(h:ab a a')(h':ab b b'):ab (af t a b) (af t a' b'):=by
 cases t
 ·exact h'
 ·exact h
def pa{S O:Type}(body:S→Option (S ⊕ O))(s:S):Option O:=mJ body 200 s
theorem ab.mJ{S O:Type}{body Hu:S→Option (S ⊕ O)}(h:∀ s,ab (body s) (Hu s)):∀ (n:Nat) (s:S),ab (Go.Lg.mJ body n s) (bH Hu s)
 | 0,_=>λ _ hr=>by cases hr
 | n+1,s=>λ r hr=>by
  simp only [Go.Lg.mJ] at hr
  cases hb:body s with
  | none=>rw [hb] at hr; cases hr
  | some x =>
   rw [hb] at hr
   have fV:=h s x hb
   cases x with
   | inl s'=>rw [vF fV]; exact ab.mJ h n s' r hr
   | inr o=>cases hr; exact lR fV
theorem ab.loop{S O:Type}{body Hu:S→Option (S ⊕ O)}{s:S}(h:∀ s,ab (body s) (Hu s)):ab (pa body s) (bH Hu s):=ab.mJ h 200 s
theorem ab.elim{α β γ:Type}{f f':α→Option γ}{g g':β→Option γ}(h:∀ x,ab (f x) (f' x))(h':∀ x,ab (g x) (g' x))(x:α ⊕ β):ab (Sum.elim f g x) (Sum.elim f' g' x):=by
 cases x
 ·exact h _
 ·exact h' _
theorem ab.gk{α S O:Type}{f f':α→S→Option (S ⊕ O)}(h:∀ x s,ab (f x s) (f' x s))(x:α)(s:S ⊕ O):ab (Go.Lg.gk f x s) (Go.Lg.gk f' x s):=by
 intro r hr
 cases s with
 | inr s=>cases hr
 | inl s =>
  simp only [Go.Lg.gk] at hr ⊢
  cases hf:f x s with
  | none=>rw [hf] at hr; cases hr
  | some z=>rw [hf] at hr; rw [h x s z hf]; exact hr
theorem ab.mapM{α β:Type}{f f':α→Option β}(h:∀ x,ab (f x) (f' x)):∀ l:List α,ab (l.mapM f) (l.mapM f')
 | []=>ab.refl _
 | a::l=>by
  intro r hr
  rw [List.mapM_cons] at hr ⊢
  cases ha:f a with
  | none=>rw [ha] at hr; simp at hr
  | some b =>
   cases hl:l.mapM f with
   | none=>rw [ha,hl] at hr; simp at hr
   | some bs =>
    rw [ha,hl] at hr
    rw [h a b ha,ab.mapM h l bs hl]
    exact hr
end Go.Lg
namespace Go.Lg
abbrev av:Value:=.slice none 0 0
theorem bR{α β:Sort _}{a:α}{b:β}:a=a∧b=b:=⟨rfl,rfl⟩
theorem an{α β γ:Sort _}{a:α}{b:β}{d:γ}:a=a∧b=b∧d=d:=⟨rfl,rfl,rfl⟩
theorem au{st st':St}(h:cj st st'):aA st st':=cj.sub h
theorem nT{a0:Option Value}:a0=a0∧True:=⟨rfl,trivial⟩
theorem eM{a0 a1:Option Value}:a0=a0∧a1=a1∧True:=⟨rfl,rfl,trivial⟩
theorem fX{a0 a1 a2:Option Value}:a0=a0∧a1=a1∧a2=a2∧True:=⟨rfl,rfl,rfl,trivial⟩
theorem b9{a0 a1 a2 a3:Option Value}:a0=a0∧a1=a1∧a2=a2∧a3=a3∧True:=⟨rfl,rfl,rfl,rfl,trivial⟩
theorem dQ{a0 a1 a2 a3 a4:Option Value}:a0=a0∧a1=a1∧a2=a2∧a3=a3∧a4=a4∧True:=⟨rfl,rfl,rfl,rfl,rfl,trivial⟩
theorem gL{a0 a1 a2 a3 a4 a5:Option Value}:a0=a0∧a1=a1∧a2=a2∧a3=a3∧a4=a4∧a5=a5∧True:=⟨rfl,rfl,rfl,rfl,rfl,rfl,trivial⟩
theorem j9{a0 a1 a2 a3 a4 a5 a6:Option Value}:a0=a0∧a1=a1∧a2=a2∧a3=a3∧a4=a4∧a5=a5∧a6=a6∧True:=⟨rfl,rfl,rfl,rfl,rfl,rfl,rfl,trivial⟩
theorem qW{a0 a1 a2 a3 a4 a5 a6 a7:Option Value}:a0=a0∧a1=a1∧a2=a2∧a3=a3∧a4=a4∧a5=a5∧a6=a6∧a7=a7∧True:=⟨rfl,rfl,rfl,rfl,rfl,rfl,rfl,rfl,trivial⟩
theorem pg{a0 a1 a2 a3 a4 a5 a6 a7 a8:Option Value}:a0=a0∧a1=a1∧a2=a2∧a3=a3∧a4=a4∧a5=a5∧a6=a6∧a7=a7∧a8=a8∧True:=⟨rfl,rfl,rfl,rfl,rfl,rfl,rfl,rfl,rfl,trivial⟩
theorem FL{a0 a1 a2 a3 a4 a5 a6 a7 a8 a9:Option Value}:a0=a0∧a1=a1∧a2=a2∧a3=a3∧a4=a4∧a5=a5∧a6=a6∧a7=a7∧a8=a8∧a9=a9∧True:=⟨rfl,rfl,rfl,rfl,rfl,rfl,rfl,rfl,rfl,rfl,trivial⟩
theorem NZ{a0 a1 a2 a3 a4 a5 a6 a7 a8 a9 mx:Option Value}:a0=a0∧a1=a1∧a2=a2∧a3=a3∧a4=a4∧a5=a5∧a6=a6∧a7=a7∧a8=a8∧a9=a9∧mx=mx∧True:=⟨rfl,rfl,rfl,rfl,rfl,rfl,rfl,rfl,rfl,rfl,rfl,trivial⟩
theorem aeG{a0 a1 a2 a3 a4 a5 a6 a7 a8 a9 mx pH:Option Value}:a0=a0∧a1=a1∧a2=a2∧a3=a3∧a4=a4∧a5=a5∧a6=a6∧a7=a7∧a8=a8∧a9=a9∧mx=mx∧pH=pH∧True:=⟨rfl,rfl,rfl,rfl,rfl,rfl,rfl,rfl,rfl,rfl,rfl,rfl,trivial⟩
theorem aTA{a0 a1 a2 a3 a4 a5 a6 a7 a8 a9 mx pH sX:Option Value}:a0=a0∧a1=a1∧a2=a2∧a3=a3∧a4=a4∧a5=a5∧a6=a6∧a7=a7∧a8=a8∧a9=a9∧mx=mx∧pH=pH∧sX=sX∧True:=⟨rfl,rfl,rfl,rfl,rfl,rfl,rfl,rfl,rfl,rfl,rfl,rfl,rfl,trivial⟩
theorem tY{a0 a1 a2 a3 a4 a5 a6 a7 a8 a9 mx pH sX yO:Option Value}:a0=a0∧a1=a1∧a2=a2∧a3=a3∧a4=a4∧a5=a5∧a6=a6∧a7=a7∧a8=a8∧a9=a9∧mx=mx∧pH=pH∧sX=sX∧yO=yO∧True:=⟨rfl,rfl,rfl,rfl,rfl,rfl,rfl,rfl,rfl,rfl,rfl,rfl,rfl,rfl,trivial⟩
theorem aTB{a0 a1 a2 a3 a4 a5 a6 a7 a8 a9 mx pH sX yO He:Option Value}:a0=a0∧a1=a1∧a2=a2∧a3=a3∧a4=a4∧a5=a5∧a6=a6∧a7=a7∧a8=a8∧a9=a9∧mx=mx∧pH=pH∧sX=sX∧yO=yO∧He=He∧True:=⟨rfl,rfl,rfl,rfl,rfl,rfl,rfl,rfl,rfl,rfl,rfl,rfl,rfl,rfl,rfl,trivial⟩
theorem aTC{a0 a1 a2 a3 a4 a5 a6 a7 a8 a9 mx pH sX yO He ZG:Option Value}:a0=a0∧a1=a1∧a2=a2∧a3=a3∧a4=a4∧a5=a5∧a6=a6∧a7=a7∧a8=a8∧a9=a9∧mx=mx∧pH=pH∧sX=sX∧yO=yO∧He=He∧ZG=ZG∧True:=⟨rfl,rfl,rfl,rfl,rfl,rfl,rfl,rfl,rfl,rfl,rfl,rfl,rfl,rfl,rfl,rfl,trivial⟩
section
variable {P:Program} {B:Base} {main:Bool} {ae:Jd P B main} {c:Ctx} {R:ax} {H:aj} {st st':St} {o:Oper} {k:List Item} {ops:Array Oper} {i d:Nat} {rest:List Nat} {t e:TypeId}
theorem dk{x y:Operand}{v:Value}{kd:IntKind}{j:Int}{b n:Nat}(hv:yL P t v j b n)(h:At ae c R H ((d,.pointer (some ⟨b,n,none⟩))::st) (.inRegion ops rest::k))(ho:ops[i]? = some o:=by rfl)(hw:cN ops st o=some true:=by rfl)(hk:(c.kind == CallKind.early)=false:=by rfl)
  (ao:o.op = .indexAddr t x y:=by rfl) (hx:bl st x=some v:=by rfl) (hy:bl st y=some (.int kd j):=by rfl) (hd:o.dst=some d:=by rfl) (hl:Nat.blt d c.n=true:=by rfl):At ae c R H st (.inRegion ops (i::rest)::k) :=
 At.s ho hw (Ox.bF ao hx hy hv (by rw [hd]; exact hl) (.put hd) h) hk
theorem cY(cs:Array Value)(ht:iF P t cs)(h:∀ b,At ae c R ((b,.cells cs t)::H) ((d,.pointer (some ⟨b,0,none⟩))::st) (.inRegion ops rest::k))(ho:ops[i]? = some o:=by rfl)(hw:cN ops st o=some true:=by rfl)(hk:(c.kind == CallKind.early)=false:=by rfl)
  (ao:o.op = .alloc t:=by rfl) (hd:o.dst=some d:=by rfl) (hl:Nat.blt d c.n=true:=by rfl):At ae c R H st (.inRegion ops (i::rest)::k) :=
 At.s ho hw (Ox.alloc ao ht (by rw [hd]; exact hl) λ b _ _=>⟨_,.put hd,h b⟩) hk
theorem fc(cells:Array Value){parts:Array (Nat × Operand)}{ps:List (Nat × Value)}{places:List (Nat × Nat)}{z:Array Value}(ht:uQ P t places z)(h:At ae c R H ((d,.agg cells)::st) (.inRegion ops rest::k))(ho:ops[i]? = some o:=by rfl)(hw:cN ops st o=some true:=by rfl)(hk:(c.kind == CallKind.early)=false:=by rfl)
  (ao:o.op = .build t parts:=by rfl) (hp:Ae st parts.toList=some ps:=by rfl) (hf:Instr.fill (places.toArray[·]?) z ps=some cells:=by repeat first | refine oT rfl rfl rfl rfl ?_ | exact qB) (hd:o.dst=some d:=by rfl) (hl:Nat.blt d c.n=true:=by rfl):At ae c R H st (.inRegion ops (i::rest)::k) :=
 At.s ho hw (Ox.build ao ht hp hf (by rw [hd]; exact hl) (.put hd) h) hk
theorem gV(cells:Array Value){n len:Nat}{parts:Array (Nat × Operand)}{ps:List (Nat × Value)}{z base:Array Value}(ht:sS P t e n z)(hb:(Array.range (len * n)).map (z[· % z.size]!)=base)(h:∀ b,At ae c R ((b,.cells cells e)::H) ((d,.slice (some ⟨b,0,none⟩) len len)::st) (.inRegion ops rest::k))
  (ho:ops[i]? = some o:=by rfl) (hw:cN ops st o=some true:=by rfl) (hk:(c.kind == CallKind.early)=false:=by rfl) (ao:o.op = .buildSlice t len parts:=by rfl) (hp:Ae st parts.toList=some ps:=by rfl) (hlen:len * n≤16777216:=by decide) (hf:Instr.fill (λ j=>some (j * n,n)) base ps=some cells:=by repeat first | refine oT rfl rfl rfl rfl ?_ | exact qB) (hd:o.dst=some d:=by rfl) (hl:Nat.blt d c.n=true:=by rfl):At ae c R H st (.inRegion ops (i::rest)::k) :=
 At.s ho hw (Ox.buildSlice ao ht hp hlen hb hf (by rw [hd]; exact hl) λ b _ _=>⟨_,.put hd,h b⟩) hk
theorem lT(cs':Array Value){x y:Operand}{b off:Nat}{v:Value}{cs:Array Value}{H':aj}(ht:gG P t)(hs:fj H b (.cells cs e (0,0)) (.cells cs' e (0,0)) H')(h:At ae c R H' st (.inRegion ops rest::k))(ho:ops[i]? = some o:=by rfl)(hw:cN ops st o=some true:=by rfl)(hk:(c.kind == CallKind.early)=false:=by rfl)
  (ao:o.op = .store t x y:=by rfl) (hx:bl st x=some (.pointer (some ⟨b,off,none⟩)):=by rfl) (hy:bl st y=some v:=by rfl) (hv:v.oneCell'=true:=by rfl) (hl:Nat.blt off cs.size=true:=by rfl) (pX:cs.setIfInBounds off v=cs':=by rfl) (hd:o.dst=none:=by rfl):At ae c R H st (.inRegion ops (i::rest)::k) :=
 At.s ho hw (Ox.gM ao hx hy ht hv hs hl pX hd (.refl _) h) hk
theorem eO(cs':Array Value){x y:Operand}{b off n:Nat}{vs cs:Array Value}{H':aj}(ht:mR P t n)(hs:fj H b (.cells cs e (0,0)) (.cells cs' e (0,0)) H')(h:At ae c R H' st (.inRegion ops rest::k))(ho:ops[i]? = some o:=by rfl)(hw:cN ops st o=some true:=by rfl)(hk:(c.kind == CallKind.early)=false:=by rfl)
  (ao:o.op = .store t x y:=by rfl) (hx:bl st x=some (.pointer (some ⟨b,off,none⟩)):=by rfl) (hy:bl st y=some (.agg vs):=by rfl) (hn:vs.size=n:=by rfl) (h1:∀ u∈vs.toList,u.oneCell'=true:=by repeat first | exact bc | refine bS rfl ?_ | refine bS (ag.one (by assumption)) ?_ | refine bS (dr.one (by assumption)) ?_ | refine bS (bC.one (by assumption)) ?_ | refine bS (aLK.one (by assumption)) ?_ | refine bS (aLL.one (by assumption)) ?_ | refine bS (lH.one (by assumption)) ?_) (hl:Nat.ble (off+n) cs.size=true:=by rfl) (pX:fN cs off vs.toList=cs':=by rfl) (hd:o.dst=none:=by rfl):At ae c R H st (.inRegion ops (i::rest)::k) :=
 At.s ho hw (Ox.cE ao hx hy ht hn h1 hs hl pX hd (.refl _) h) hk
theorem vM{x:Operand}{u:TypeId}{kd ks k0:IntKind}{a:Int}(ht:P.underlying t=some (.int k0))(hu:P.underlying u=some (.int kd))(h:At ae c R H ((d,.int kd (kd.wrap a))::st) (.inRegion ops rest::k))(ho:ops[i]? = some o:=by rfl)(hw:cN ops st o=some true:=by rfl)(hk:(c.kind == CallKind.early)=false:=by rfl)
  (ao:o.op = .convert t u x:=by rfl) (hx:bl st x=some (.int ks a):=by rfl) (hd:o.dst=some d:=by rfl) (hl:Nat.blt d c.n=true:=by rfl):At ae c R H st (.inRegion ops (i::rest)::k) :=
 At.s ho hw (Ox.akF ao hx ht hu (by rw [hd]; exact hl) (.put hd) h) hk
end
end Go.Lg
