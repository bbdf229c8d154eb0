/- Models, operations, lists, maps, arrays, ranges over functions. Conditions: none. -/
import Derived.Test.YtihapemckcdicaaGreatDoorQXLgA
import Derived.Laws.RangeAny
namespace Go.Lg
open Go.Conc
def nH{S O:Type}(body:S→Option (S ⊕ O)):Nat→S→Option O
 | 0,_=>none
 | n+1,s=>match body s with
  | none=>none
  | some (.inl s')=>nH body n s'
  | some (.inr o)=>some o
open Classical in
noncomputable def bH{S O:Type}(body:S→Option (S ⊕ O))(s:S):Option O:=if h:∃ o n,nH body n s=some o then some h.choose else none
theorem aax{S O:Type}{body:S→Option (S ⊕ O)}:∀ {n m:Nat} {s:S} {o:O},n≤m→nH body n s=some o→nH body m s=some o
 | 0,_,_,_,_,h=>by cases h
 | n+1,0,_,_,hm,_=>by omega
 | n+1,m+1,s,o,hm,h=>by
  simp only [nH] at h ⊢
  cases hb:body s with
  | none=>rw [hb] at h; cases h
  | some x=>cases x with
   | inl s'=>rw [hb] at h; exact aax (by omega) h
   | inr o'=>rw [hb] at h; exact h
theorem aaz{S O:Type}{body:S→Option (S ⊕ O)}{n:Nat}{s:S}{o:O}(h:nH body n s=some o):bH body s=some o:=by
 have hex:∃ o n,nH body n s=some o:=⟨o,n,h⟩
 unfold bH
 rw [dif_pos hex]
 obtain ⟨m,hm⟩:=hex.choose_spec
 have h1:=aax (Nat.le_max_left n m) h
 have h2:=aax (Nat.le_max_right n m) hm
 rw [h1] at h2
 exact h2.symm
theorem aay{S O:Type}{body:S→Option (S ⊕ O)}{s:S}{o:O}(h:bH body s=some o):∃ n,nH body n s=some o:=by
 unfold bH at h
 split at h
 ·rename_i hex
  cases h
  exact hex.choose_spec
 ·cases h
theorem om{S O:Type}{body:S→Option (S ⊕ O)}{s:S}{o:O}(h:body s=some (.inr o)):bH body s=some o :=
 aaz (n:=1) (by simp [nH,h])
theorem zE{S O:Type}{body:S→Option (S ⊕ O)}{s s':S}(h:body s=some (.inl s')):bH body s=bH body s':=by
 cases h':bH body s' with
 | some o =>
  obtain ⟨n,hn⟩:=aay h'
  exact aaz (n:=n+1) (by simp [nH,h,hn])
 | none =>
  cases h2:bH body s with
  | none=>rfl
  | some o =>
   obtain ⟨n,hn⟩:=aay h2
   cases n with
   | zero=>cases hn
   | succ n =>
    simp only [nH,h] at hn
    rw [aaz hn] at h'
    cases h'
theorem ag{α β:Type}{o:Option α}{f:α→Option β}{r:β}(h:o.bind f=some r):∃ x,o=some x∧f x=some r:=by
 cases o with
 | none=>cases h
 | some x=>exact ⟨x,rfl,h⟩
def af{α:Type}(t:Bool)(a b:Option α):Option α:=match t with | true=>a | false=>b
theorem bC{α:Type}{t:Bool}{a b:Option α}{r:α}{G:Prop}(h:af t a b=some r)(h1:t=true→a=some r→G)(h2:t=false→b=some r→G):G:=by
 cases t with
 | true=>exact h1 rfl h
 | false=>exact h2 rfl h
theorem aA{α:Type}{a b:α}(h:some a=some b):a=b:=kz h
def idx{α:Type}(xs:List α)(i:Int):Option α:=if 0≤i then xs[i.toNat]? else none
def ij{α:Type}(xs ys:List α):Option (List α):=if xs.length+ys.length≤16777216 then some (xs++ys) else none
def lH{α:Type}(xs:List α)(lo hi:Int):Option (List α):=if 0≤lo∧lo≤hi∧hi≤xs.length then some ((xs.take hi.toNat).drop lo.toNat) else none
theorem vJ{α:Type}{xs:List α}{i:Int}{x:α}(h:idx xs i=some x):0≤i∧i < xs.length∧xs[i.toNat]? = some x:=by
 unfold idx at h
 split at h
 ·have:=(iO.1 h).1
  exact ⟨‹_›,by omega,h⟩
 ·cases h
theorem aoh{α:Type}{xs ys zs:List α}(h:ij xs ys=some zs):xs.length+ys.length≤16777216∧zs=xs++ys:=by
 unfold ij at h
 split at h
 ·cases h; exact ⟨‹_›,rfl⟩
 ·cases h
section
variable {P:Program} {B:Base} {main:Bool} {ab:Jd P B main} {c:Ctx} {R:az} {H:ah} {st st':St} {k:List Item}
theorem At.bH{S O ρ:Type}{body:S→Option (S ⊕ O)}{cont:O→Option ρ}{s0:S}{r:ρ}{code:Code}(hM:(bH body s0).bind cont=some r)(I:S→az→ah→St→Prop)
  (Wx:∀ s R H st,I s R H st→∀ x,body s=some x→(∀ s',x = .inl s'→∀ R' H' st',I s' R' H' st'→At ab c R' H' st' (.inLoop code::k))→(∀ o,x = .inr o→cont o=some r)→At ab c R H st (.code code :: .inLoop code::k))
  (h0:I s0 R H st):At ab c R H st (.code (.loop code)::k):=by
 obtain ⟨o,hl,hc⟩:=ag hM
 obtain ⟨n,hn⟩:=aay hl
 clear hM hl
 have key:∀ n s R H st,nH body n s=some o→I s R H st→At ab c R H st (.code code :: .inLoop code::k):=by
  intro n
  induction n with
  | zero=>intro s R H st h; cases h
  | succ n ih =>
   intro s R H st h hI
   simp only [nH] at h
   cases hb:body s with
   | none=>rw [hb] at h; cases h
   | some x =>
    rw [hb] at h
    refine Wx s R H st hI x hb (λ s' hx R' H' st' KH=>?_) (λ o' hx=>?_)
    ·subst hx; exact At.inLoop (ih s' R' H' st' h KH)
    ·subst hx; cases h; exact hc
 exact At.enterLoop (key n s0 R H st hn h0)
theorem At.known{t:Nat}{x b:Bool}{todo:List Item}(hx:st.lookup t=some (.bool x))(hb:x=b)(h:At ab c R H ((t,.bool b)::st) todo):At ab c R H st todo:=by
 subst hb; exact λ tmps ht=>h tmps (ht.ajV hx)
theorem Any.dT{S:Nat→ah}{ops:Array Oper}{n:Nat}{rem:List Nat}{t:Nat}{x b:Bool}(hx:st.lookup t=some (.bool x))(hb:x=b)(h:Any ab c S ops k n rem R H ((t,.bool b)::st)):Any ab c S ops k n rem R H st:=by
 subst hb; exact ⟨h.1,λ tmps ht=>h.2 tmps (ht.ajV hx)⟩
theorem At.gb{x:Operand}{th el:Code}{t:Bool}(hx:bl st x=some (.bool t))(ht:t=true)(h:At ab c R H st (.code th::k)):At ab c R H st (.code (.cond x th el)::k):=by subst ht; exact At.cond_true hx h
theorem At.eX{x:Operand}{th el:Code}{t:Bool}(hx:bl st x=some (.bool t))(ht:t=false)(h:At ab c R H st (.code el::k)):At ab c R H st (.code (.cond x th el)::k):=by subst ht; exact At.cond_false hx h
end
abbrev cQ(α:Type):=az→α→List Value→Prop
class CM {α:Type} (C:cQ α):Prop where
 mono:∀ {R R':az} {x:α} {es:List Value},aS R R'→C R x es→C R' x es
 one:∀ {R:az} {x:α} {es:List Value},C R x es→∀ u∈es,u.oneCell'=true
def CI(kd:IntKind):cQ Int:=λ _ x es=>es=[.int kd x]
def CS:cQ ByteArray:=λ _ x es=>es=[.string x]
instance {kd:IntKind}:CM (CI kd):=⟨λ _ h=>h,λ h=>by cases h; simp [Value.oneCell']⟩
instance:CM CS:=⟨λ _ h=>h,λ h=>by cases h; simp [Value.oneCell']⟩
structure bu {α:Type} (C:cQ α) (k:Nat) (R:az) (xs:List α) (es:List Value):Prop where
 len:es.length=xs.length * k
 at_:∀ (i:Nat) (x:α),xs[i]? = some x→∃ e1:List Value,C R x e1∧e1.length=k∧∀ (j:Nat) (w:Value),e1[j]? = some w→es[i * k+j]? = some w
theorem bu.nil{α:Type}{C:cQ α}{k:Nat}{R:az}:bu C k R [] []:=⟨by simp,by simp⟩
theorem bu.mono{α:Type}{C:cQ α}[CM C]{k:Nat}{R R':az}{xs:List α}{es:List Value}(h:bu C k R xs es)(hR:aS R R'):bu C k R' xs es :=
 ⟨h.len,λ i x hx=>by obtain ⟨e1,h1,h2,h3⟩:=h.at_ i x hx; exact ⟨e1,CM.mono hR h1,h2,h3⟩⟩
theorem bu.append{α:Type}{C:cQ α}{k:Nat}{R:az}{xs ys:List α}{es fs:List Value}(h:bu C k R xs es)(g:bu C k R ys fs):bu C k R (xs++ys) (es++fs):=by
 refine ⟨by rw [ns,ns,h.len,g.len,Nat.add_mul],λ i x hx=>?_⟩
 by_cases hi:i < xs.length
 ·rw [uU hi] at hx
  obtain ⟨e1,h1,h2,h3⟩:=h.at_ i x hx
  refine ⟨e1,h1,h2,λ j w hj=>?_⟩
  have:=h3 j w hj
  rw [uU (iO.1 this).1]
  exact this
 ·rw [p9 (by omega)] at hx
  obtain ⟨e1,h1,h2,h3⟩:=g.at_ _ x hx
  refine ⟨e1,h1,h2,λ j w hj=>?_⟩
  have:=h3 j w hj
  have e:i * k+j=es.length+((i - xs.length) * k+j):=by
   rw [h.len]
   have:i=xs.length+(i - xs.length):=by omega
   rw [← Nat.add_assoc,← Nat.add_mul,← this]
  rw [e,p9 (by omega),Nat.add_sub_cancel_left]
  exact this
theorem bu.single{α:Type}{C:cQ α}{k:Nat}{R:az}{x:α}{es:List Value}(h:C R x es)(hk:es.length=k):bu C k R [x] es:=by
 refine ⟨by simp [hk],λ i y hy=>?_⟩
 cases i with
 | zero=>cases hy; exact ⟨es,h,hk,λ j w hj=>by simpa using hj⟩
 | succ i=>simp at hy
theorem bu.one{α:Type}{C:cQ α}[CM C]{k:Nat}{R:az}{xs:List α}{es:List Value}(h:bu C k R xs es):∀ u∈es,u.oneCell'=true:=by
 intro u hu
 obtain ⟨j,hj⟩:=List.getElem?_of_mem hu
 have bV:=(iO.1 hj).1
 rw [h.len] at bV
 have hk:0 < k:=by cases k with | zero=>simp at bV | succ k=>omega
 have hi:j / k < xs.length:=Nat.div_lt_of_lt_mul (by rw [Nat.mul_comm]; exact bV)
 obtain ⟨e1,h1,h2,h3⟩:=h.at_ (j / k) _ (mN hi)
 have hm:j % k < e1.length:=by rw [h2]; exact Nat.mod_lt _ hk
 have:=h3 (j % k) _ (mN hm)
 rw [show j / k * k+j % k=j by rw [Nat.mul_comm]; exact Nat.div_add_mod j k,hj] at this
 cases this
 exact CM.one h1 _ (List.getElem_mem hm)
theorem bu.drop{α:Type}{C:cQ α}{k n:Nat}{R:az}{xs:List α}{es:List Value}(h:bu C k R xs es):bu C k R (xs.drop n) (es.drop (n * k)):=by
 refine ⟨by simp [h.len,Nat.sub_mul],λ i x hx=>?_⟩
 rw [List.getElem?_drop] at hx
 obtain ⟨e1,h1,h2,h3⟩:=h.at_ _ x hx
 refine ⟨e1,h1,h2,λ j w hj=>?_⟩
 rw [List.getElem?_drop,← h3 j w hj,Nat.add_mul,Nat.add_assoc]
theorem bu.take{α:Type}{C:cQ α}{k n:Nat}{R:az}{xs:List α}{es:List Value}(h:bu C k R xs es):bu C k R (xs.take n) (es.take (n * k)):=by
 refine ⟨by simp only [nS,h.len]; exact Nat.mul_min_mul_right _ _ _,λ i x hx=>?_⟩
 rw [List.getElem?_take] at hx
 split at hx
 ·rename_i hi
  obtain ⟨e1,h1,h2,h3⟩:=h.at_ _ x hx
  refine ⟨e1,h1,h2,λ j w hj=>?_⟩
  have oe:j < k:=by rw [← h2]; exact (iO.1 hj).1
  rw [List.getElem?_take,if_pos,h3 j w hj]
  calc i * k+j < i * k+k:=by omega
   _=(i+1) * k:=by rw [Nat.add_mul,Nat.one_mul]
   _≤n * k:=Nat.mul_le_mul_right k hi
 ·cases hx
def aa{α:Type}(C:cQ α)(k:Nat)(R:az)(v:Value)(xs:List α):Prop :=
 ∃ A cap es,v = .slice A xs.length cap∧bu C k R xs es∧xs.length≤cap∧(xs≠[]→∃ b o arr e fz,A=some ⟨b,o,none⟩∧R b=some (.cells arr e fz)∧∀ (j:Nat) (w:Value),es[j]? = some w→arr[o+j]? = some w)
theorem aa.mono{α:Type}{C:cQ α}[CM C]{k:Nat}{R R':az}{v:Value}{xs:List α}(h:aa C k R v xs)(hR:aS R R'):aa C k R' v xs:=by
 obtain ⟨A,cap,es,h1,h2,hc,h3⟩:=h
 refine ⟨A,cap,es,h1,h2.mono hR,hc,λ hx=>?_⟩
 obtain ⟨b,o,arr,e,fz,g1,g2,g3⟩:=h3 hx
 exact ⟨b,o,arr,e,fz,g1,hR _ _ g2,g3⟩
theorem aa.nil{α:Type}{C:cQ α}{k:Nat}{R:az}{A:Option Addr}{cap:Nat}:aa C k R (.slice A 0 cap) []:=⟨A,cap,[],rfl,.nil,Nat.zero_le _,λ h=>absurd rfl h⟩
def lC{α:Type}(C:cQ α)(k:Nat):cQ (List α):=λ R xs es=>∃ v,es=[v]∧aa C k R v xs
instance {α:Type} {C:cQ α} [CM C] {k:Nat}:CM (lC C k):=⟨λ hR ⟨v,h1,h2⟩=>⟨v,h1,h2.mono hR⟩,λ ⟨v,h1,A,cap,es,h2,_⟩=>by subst h1; subst h2; simp [Value.oneCell']⟩
def bD{α:Type}(C:cQ α)(k e:Nat)(R:az)(v:Value)(xs:List α)(Hs:ah):Prop :=
 (∃ A,v = .slice A 0 0∧xs=[]∧Hs=[])∨∃ b cap cs es,v = .slice (some ⟨b,0,none⟩) xs.length cap∧Hs=[(b,.cells cs e (0,0))]∧cs.size=cap * k∧xs.length≤cap∧bu C k R xs es∧∀ (j:Nat) (w:Value),es[j]? = some w→cs[j]? = some w
theorem bD.mono{α:Type}{C:cQ α}[CM C]{k e:Nat}{R R':az}{v:Value}{xs:List α}{Hs:ah}(h:bD C k e R v xs Hs)(hR:aS R R'):bD C k e R' v xs Hs:=by
 rcases h with h | ⟨b,cap,cs,es,h1,h2,h3,h4,h5,h6⟩
 ·exact .inl h
 ·exact .inr ⟨b,cap,cs,es,h1,h2,h3,h4,h5.mono hR,h6⟩
theorem bD.nil{α:Type}{C:cQ α}{k e:Nat}{R:az}{A:Option Addr}:bD C k e R (.slice A 0 0) [] []:=.inl ⟨A,rfl,rfl,rfl⟩
def q8{α:Type}(C:cQ α)(k:Nat)(R:az)(H:ah)(v:Value)(ys:List α):Prop :=
 ∃ A cap es,v = .slice A ys.length cap∧bu C k R ys es∧(ys≠[]→∃ b o,A=some ⟨b,o,none⟩∧aT R H b o es)
theorem aa.arg{α:Type}{C:cQ α}{k:Nat}{R:az}{H:ah}{v:Value}{xs:List α}(h:aa C k R v xs):q8 C k R H v xs:=by
 obtain ⟨A,cap,es,h1,h2,_,h3⟩:=h
 refine ⟨A,cap,es,h1,h2,λ hx=>?_⟩
 obtain ⟨b,o,arr,e,fz,g1,g2,g3⟩:=h3 hx
 exact ⟨b,o,g1,λ j w hj=>⟨rfl,arr,e,fz,.inl g2,g3 j w hj⟩⟩
theorem q8.lit{α:Type}{C:cQ α}{k e n cap b:Nat}{R:az}{H:ah}{ys:List α}{cs:Array Value}{fz:Nat × Nat}(hm:(b,Obj.cells cs e fz)∈H)(hE:bu C k R ys cs.toList)(hn:ys.length=n):q8 C k R H (.slice (some ⟨b,0,none⟩) n cap) ys:=by
 subst hn
 exact ⟨_,cap,cs.toList,rfl,hE,λ _=>⟨b,0,rfl,λ j w hj=>⟨rfl,cs,e,fz,.inr hm,by simpa using hj⟩⟩⟩
def l7(G:ah→ah):Prop:=∃ A D,∀ X,G X=A++(X++D)
theorem l7.set{G:ah→ah}(hG:l7 G){b:Nat}{o o':Obj}:fN (G [(b,o)]) b o o' (G [(b,o')]):=by
 obtain ⟨A,D,h⟩:=hG
 rw [h,h]
 clear h
 induction A with
 | nil=>exact .here
 | cons p A ih=>exact .there ih
end Go.Lg
namespace Go.Lg
open Go.Conc
section
variable {P:Program} {B:Base} {main:Bool} {ab:Jd P B main} {c:Ctx} {R:az} {H H':ah} {st st':St} {o:Oper} {C:az→ah→St→Prop}
def yN(P:Program)(t:TypeId)(v:Value)(i:Int)(b n:Nat):Prop:=∀ kd,ai P (Instr.indexAt t v (.int kd i)) (.pointer (some ⟨b,n,none⟩))
theorem aa.elem{α:Type}{K:cQ α}{k t e:Nat}{v:Value}{xs:List α}{i:Int}{x:α}(h:aa K k R v xs)(ht:nU P t e k)(hi:idx xs i=some x) :
  ∃ b n es,K R x es∧aT R [] b n es∧yN P t v i b n:=by
 obtain ⟨h1,h2,h3⟩:=vJ hi
 obtain ⟨A,cap,es,rfl,hE,_,hc⟩:=h
 obtain ⟨b,o,arr,e',fz,rfl,g2,g3⟩:=hc (by rintro rfl; simp at h3)
 obtain ⟨e1,f1,f2,f3⟩:=hE.at_ _ _ h3
 refine ⟨b,o+i.toNat * k,e1,f1,λ j w hj=>⟨rfl,arr,e',fz,.inl g2,?_⟩,λ kd=>?_⟩
 ·have:=g3 _ _ (f3 j w hj)
  simpa [Nat.add_assoc] using this
 ·have:=ab9 (P:=P) (b:=b) (m:=o) (cap:=cap) (kd:=kd) ht (j:=i.toNat) (len:=xs.length) (by omega)
  rwa [Int.toNat_of_nonneg h1] at this
theorem Ox.Q7{x y:Operand}{t:TypeId}{v:Value}{kd:IntKind}{i:Int}{b n:Nat}(an:o.op = .indexAddr t x y)(hx:bl st x=some v)(hy:bl st y=some (.int kd i))(hv:yN P t v i b n)
  (hd:cx o.dst c.n) (hs:aB (cB o.dst (.pointer (some ⟨b,n,none⟩)) st) st') (h:C R H st'):bc P B c o R H st C :=
 Ox.mr (s:=λ ρ=>Instr.indexAt t (ρ x) (ρ y)) (by rw [an]; rfl) hd (λ ρ=>by simp only [execOp,an]) (λ ρ bj=>by rw [bj x _ hx,bj y _ hy]; exact hv kd) hs h
theorem aho{t e len k b m:Nat}{i:Int}(ht:w6 P t len e k)(hi:0≤i∧i < len):yN P t (.pointer (some ⟨b,m,none⟩)) i b (m+i.toNat * k):=λ kd=>by
 have:=aNO (P:=P) (b:=b) (m:=m) (kd:=kd) ht (j:=i.toNat) (by omega)
 rwa [Int.toNat_of_nonneg hi.1] at this
theorem Ox.sT{α:Type}{K:cQ α}{k:Nat}{x:Operand}{t e:TypeId}{v:Value}{xs:List α}(an:o.op = .call ⟨.builtin .len,#[x],#[t]⟩)(hx:bl st x=some v)(hl:aa K k R v xs)(ht:P.underlying t=some (.slice e))
  (hd:cx o.dst c.n) (hs:aB (cB o.dst (.int .i64 (xs.length:Int)) st) st') (h:C R H st'):bc P B c o R H st C:=by
 obtain ⟨A,cap,es,rfl,_⟩:=hl
 exact Ox.len an hx ht hd hs h
theorem Ox.Rd{α:Type}{K:cQ α}{k e':Nat}{x:Operand}{t e:TypeId}{v:Value}{xs:List α}{Hs:ah}(an:o.op = .call ⟨.builtin .len,#[x],#[t]⟩)(hx:bl st x=some v)(hl:bD K k e' R v xs Hs)(ht:P.underlying t=some (.slice e))
  (hd:cx o.dst c.n) (hs:aB (cB o.dst (.int .i64 (xs.length:Int)) st) st') (h:C R H st'):bc P B c o R H st C:=by
 rcases hl with ⟨A,rfl,rfl,_⟩ | ⟨b,cap,cs,es,rfl,_⟩
 ·exact Ox.len an hx ht hd hs h
 ·exact Ox.len an hx ht hd hs h
def i64(z:Int):Int:=IntKind.wrap .i64 z
theorem Q4{z:Int}(h : -9223372036854775808≤z∧z≤9223372036854775807):i64 z=z:=ali h
theorem Ox.ar{x y:Operand}{bo:BinOp}{t u:TypeId}{a b z:Int}{kd:IntKind}(an:o.op = .binOp bo t x y u)(hx:bl st x=some (.int kd a))(hy:bl st y=some (.int kd b))(hr:Up bo a b=some z)
  (hd:cx o.dst c.n) (hs:aB (cB o.dst (.int kd (kd.wrap z)) st) st') (h:C R H st'):bc P B c o R H st C :=
 Ox.mr (s:=λ ρ=>do eqGuard bo t x y (ρ x) (ρ y); binOp bo t (ρ x) (ρ y)) (by rw [an]; rfl) hd (λ ρ=>by simp only [execOp,an]) (λ ρ bj=>by
  rw [bj x _ hx,bj y _ hy]
  refine ai.bL (Da _ _ _ _ _ _ _ _) ?_
  cases bo <;> simp only [Up,j8,reduceCtorEq] at hr <;> subst hr <;> simp only [binOp,ne_eq,kY,if_false,Op.intArith] <;> exact ai.bF _) hs h
def FR(a b:Int):Option Int:=if b=0 then none else some (a.tmod b)
def oZ(a b:Int):Option Int:=if b=0 then none else some (i64 (a.tdiv b))
theorem Ox.rem{x y:Operand}{t u:TypeId}{a b z:Int}{kd:IntKind}(an:o.op = .binOp .rem t x y u)(hx:bl st x=some (.int kd a))(hy:bl st y=some (.int kd b))(hr:FR a b=some z)
  (hd:cx o.dst c.n) (hs:aB (cB o.dst (.int kd z) st) st') (h:C R H st'):bc P B c o R H st C :=
 Ox.mr (s:=λ ρ=>do eqGuard .rem t x y (ρ x) (ρ y); binOp .rem t (ρ x) (ρ y)) (by rw [an]; rfl) hd (λ ρ=>by simp only [execOp,an]) (λ ρ bj=>by
  rw [bj x _ hx,bj y _ hy]
  refine ai.bL (Da _ _ _ _ _ _ _ _) ?_
  unfold FR at hr
  split at hr
  ·cases hr
  ·cases hr; simp only [binOp,ne_eq,kY,if_false,Op.intDiv, *]; exact ai.bF _) hs h
theorem Ox.quo{x y:Operand}{t u:TypeId}{a b z:Int}(an:o.op = .binOp .quo t x y u)(hx:bl st x=some (.int .i64 a))(hy:bl st y=some (.int .i64 b))(hr:oZ a b=some z)
  (hd:cx o.dst c.n) (hs:aB (cB o.dst (.int .i64 z) st) st') (h:C R H st'):bc P B c o R H st C :=
 Ox.mr (s:=λ ρ=>do eqGuard .quo t x y (ρ x) (ρ y); binOp .quo t (ρ x) (ρ y)) (by rw [an]; rfl) hd (λ ρ=>by simp only [execOp,an]) (λ ρ bj=>by
  rw [bj x _ hx,bj y _ hy]
  refine ai.bL (Da _ _ _ _ _ _ _ _) ?_
  unfold oZ at hr
  split at hr
  ·cases hr
  ·cases hr; simp only [binOp,ne_eq,kY,if_false,Op.intDiv, *]; exact ai.bF _) hs h
def wF(kd:IntKind)(a b:Int):Option Int:=if b < 0 then none else some (kd.wrap (a * 2 ^ (min b.toNat kd.bits)))
def lT(kd:IntKind)(a b:Int):Option Int:=if b < 0 then none else some (a.fdiv (2 ^ (min b.toNat kd.bits)))
theorem Ox.shl{x y:Operand}{t u:TypeId}{a b z:Int}{kd yk:IntKind}(an:o.op = .binOp .shl t x y u)(hx:bl st x=some (.int kd a))(hy:bl st y=some (.int yk b))(hr:wF kd a b=some z)
  (hd:cx o.dst c.n) (hs:aB (cB o.dst (.int kd z) st) st') (h:C R H st'):bc P B c o R H st C :=
 Ox.mr (s:=λ ρ=>do eqGuard .shl t x y (ρ x) (ρ y); binOp .shl t (ρ x) (ρ y)) (by rw [an]; rfl) hd (λ ρ=>by simp only [execOp,an]) (λ ρ bj=>by
  rw [bj x _ hx,bj y _ hy]
  refine ai.bL (Da _ _ _ _ _ _ _ _) ?_
  unfold wF at hr
  split at hr
  ·cases hr
  ·cases hr; simp only [binOp,Op.shift,if_false, *]; exact ai.bF _) hs h
theorem Ox.shr{x y:Operand}{t u:TypeId}{a b z:Int}{kd yk:IntKind}(an:o.op = .binOp .shr t x y u)(hx:bl st x=some (.int kd a))(hy:bl st y=some (.int yk b))(hr:lT kd a b=some z)
  (hd:cx o.dst c.n) (hs:aB (cB o.dst (.int kd z) st) st') (h:C R H st'):bc P B c o R H st C :=
 Ox.mr (s:=λ ρ=>do eqGuard .shr t x y (ρ x) (ρ y); binOp .shr t (ρ x) (ρ y)) (by rw [an]; rfl) hd (λ ρ=>by simp only [execOp,an]) (λ ρ bj=>by
  rw [bj x _ hx,bj y _ hy]
  refine ai.bL (Da _ _ _ _ _ _ _ _) ?_
  unfold lT at hr
  split at hr
  ·cases hr
  ·cases hr; simp only [binOp,Op.shift,if_false, *]; exact ai.bF _) hs h
def fP(bo:BinOp)(kd:IntKind)(a b:Int):Option Int :=
 let a:=BitVec.ofInt kd.bits a
 let b:=BitVec.ofInt kd.bits b
 match bo with
 | .and=>some (kd.wrap (a &&& b).toNat)
 | .or=>some (kd.wrap (a ||| b).toNat)
 | .xor=>some (kd.wrap (a ^^^ b).toNat)
 | .andNot=>some (kd.wrap (a &&& ~~~b).toNat)
 | _=>none
theorem Ox.bits{x y:Operand}{bo:BinOp}{t u:TypeId}{a b z:Int}{kd:IntKind}(an:o.op = .binOp bo t x y u)(hx:bl st x=some (.int kd a))(hy:bl st y=some (.int kd b))(hr:fP bo kd a b=some z)
  (hd:cx o.dst c.n) (hs:aB (cB o.dst (.int kd z) st) st') (h:C R H st'):bc P B c o R H st C :=
 Ox.mr (s:=λ ρ=>do eqGuard bo t x y (ρ x) (ρ y); binOp bo t (ρ x) (ρ y)) (by rw [an]; rfl) hd (λ ρ=>by simp only [execOp,an]) (λ ρ bj=>by
  rw [bj x _ hx,bj y _ hy]
  refine ai.bL (Da _ _ _ _ _ _ _ _) ?_
  cases bo <;> simp only [fP,j8,reduceCtorEq] at hr <;> subst hr <;> simp only [binOp,ne_eq,kY,if_false,Op.intBits] <;> exact ai.bF _) hs h
def aeE:BinOp→ByteArray→ByteArray→Option Bool
 | .eql,x,y=>some (x.toList == y.toList)
 | .neq,x,y=>some (!(x.toList == y.toList))
 | _,_,_=>none
theorem aNN(op:BinOp)(t:TypeId)(x y:Operand)(a b:ByteArray):ai P (eqGuard op t x y (.string a) (.string b)) ():=by
 unfold eqGuard
 cases op <;> exact ai.bF _
theorem Ox.aeF{x y:Operand}{bo:BinOp}{t u:TypeId}{a b:ByteArray}{r:Bool}(an:o.op = .binOp bo t x y u)(hx:bl st x=some (.string a))(hy:bl st y=some (.string b))(hr:aeE bo a b=some r)
  (hd:cx o.dst c.n) (hs:aB (cB o.dst (.bool r) st) st') (h:C R H st'):bc P B c o R H st C :=
 Ox.mr (s:=λ ρ=>do eqGuard bo t x y (ρ x) (ρ y); binOp bo t (ρ x) (ρ y)) (by rw [an]; rfl) hd (λ ρ=>by simp only [execOp,an]) (λ ρ bj=>by
  rw [bj x _ hx,bj y _ hy]
  refine ai.bL (aNN _ _ _ _ _ _) ?_
  cases bo <;> simp only [aeE,j8,reduceCtorEq] at hr <;> subst hr <;> simp only [binOp,Op.stringOp] <;> exact ai.bF _) hs h
def Km:BinOp→Bool→Bool→Option Bool
 | .eql,x,y=>some (x == y)
 | .neq,x,y=>some (!(x == y))
 | _,_,_=>none
theorem aNM(op:BinOp)(t:TypeId)(x y:Operand)(a b:Bool):ai P (eqGuard op t x y (.bool a) (.bool b)) ():=by
 unfold eqGuard
 cases op <;> exact ai.bF _
theorem aNJ{t:TypeId}(ht:P.underlying t=some .bool)(a b:Bool):ai P (Op.equal t (.bool a) (.bool b)) (a == b):=by
 unfold Op.equal Op.maxDepth
 rw [Op.equalIn]
 exact ai.bL (ai.underlying ht) (ai.bF _)
theorem Ox.Ko{x y:Operand}{bo:BinOp}{t u:TypeId}{a b r:Bool}(an:o.op = .binOp bo t x y u)(hx:bl st x=some (.bool a))(hy:bl st y=some (.bool b))(ht:P.underlying t=some .bool)(hr:Km bo a b=some r)
  (hd:cx o.dst c.n) (hs:aB (cB o.dst (.bool r) st) st') (h:C R H st'):bc P B c o R H st C :=
 Ox.mr (s:=λ ρ=>do eqGuard bo t x y (ρ x) (ρ y); binOp bo t (ρ x) (ρ y)) (by rw [an]; rfl) hd (λ ρ=>by simp only [execOp,an]) (λ ρ bj=>by
  rw [bj x _ hx,bj y _ hy]
  refine ai.bL (aNM _ _ _ _ _ _) ?_
  cases bo <;> simp only [Km,j8,reduceCtorEq] at hr <;> subst hr <;> simp only [binOp] <;> exact ai.bL (aNJ ht a b) (ai.bF _)) hs h
theorem Ox.xh{x y:Operand}{bo:BinOp}{t u:TypeId}{a b:Array Value}{q:Bool}(an:o.op = .binOp bo t x y u)(hx:bl st x=some (.agg a))(hy:bl st y=some (.agg b))(hg:P.eqGuardType P.depth t=false)(hq:ai P (Op.equal t (.agg a) (.agg b)) q){r:Bool}(hr:Km bo q true=some r)
  (hd:cx o.dst c.n) (hs:aB (cB o.dst (.bool r) st) st') (h:C R H st'):bc P B c o R H st C :=
 Ox.mr (s:=λ ρ=>do eqGuard bo t x y (ρ x) (ρ y); binOp bo t (ρ x) (ρ y)) (by rw [an]; rfl) hd (λ ρ=>by simp only [execOp,an]) (λ ρ bj=>by
  rw [bj x _ hx,bj y _ hy]
  have hgd:ai P (eqGuard bo t x y (.agg a) (.agg b)) ():=by
   unfold eqGuard
   cases bo <;> simp only [Km,reduceCtorEq] at hr <;> exact ai.bL ai.program (ai.bL ai.program (by simp only [hg]; exact ai.bF _))
  refine ai.bL hgd ?_
  cases bo <;> simp only [Km,j8,reduceCtorEq] at hr <;> subst hr <;> simp only [binOp]
  ·exact ai.bL hq (by cases q <;> exact ai.bF _)
  ·exact ai.bL hq (by cases q <;> exact ai.bF _)) hs h
def vX:Int→List Int→Int
 | x,[]=>x
 | x,y::r=>vX (if y > x then y else x) r
def MZ:Int→List Int→Int
 | x,[]=>x
 | x,y::r=>MZ (if y < x then y else x) r
theorem akB{kd:IntKind}:∀ (l:List Int) (x:Int),ai P ((l.map (Value.int kd)).foldlM Builtin.max2 (.int kd x)) (.int kd (vX x l))
 | [],x=>ai.bF _
 | y::r,x=>by
  simp only [List.map_cons,List.foldlM_cons,vX]
  exact ai.bL (a:=.int kd (if y > x then y else x)) (ai.bF _) (akB r _)
theorem akC{kd:IntKind}:∀ (l:List Int) (x:Int),ai P ((l.map (Value.int kd)).foldlM Builtin.min2 (.int kd x)) (.int kd (MZ x l))
 | [],x=>ai.bF _
 | y::r,x=>by
  simp only [List.map_cons,List.foldlM_cons,MZ]
  exact ai.bL (a:=.int kd (if y < x then y else x)) (ai.bF _) (akC r _)
theorem Ox.max{xs:Array Operand}{ts:Array TypeId}{kd:IntKind}{a:Int}{l:List Int}(an:o.op = .call ⟨.builtin .max,xs,ts⟩)(hx:jG st xs.toList=some (.int kd a::l.map (Value.int kd)))
  (hd:cx o.dst c.n) (hs:aB (cB o.dst (.int kd (vX a l)) st) st') (h:C R H st'):bc P B c o R H st C :=
 Ox.val (by rw [an]; rfl) hd (λ ρ bj=>by
  simp only [execOp,an]
  refine ai.bL (a:=⟨.builtin .max ts o.type (xs.map λ | .const _=>true | _=>false),xs.map ρ⟩) (ai.bF _) ?_
  simp only [invoke,builtin,Builtin.max_]
  have e:(xs.map ρ).toList = .int kd a::l.map (Value.int kd):=by simpa using DG bj _ _ hx
  rw [e]
  exact ai.bL (akB l a) (ai.bF _)) hs h
theorem Ox.min{xs:Array Operand}{ts:Array TypeId}{kd:IntKind}{a:Int}{l:List Int}(an:o.op = .call ⟨.builtin .min,xs,ts⟩)(hx:jG st xs.toList=some (.int kd a::l.map (Value.int kd)))
  (hd:cx o.dst c.n) (hs:aB (cB o.dst (.int kd (MZ a l)) st) st') (h:C R H st'):bc P B c o R H st C :=
 Ox.val (by rw [an]; rfl) hd (λ ρ bj=>by
  simp only [execOp,an]
  refine ai.bL (a:=⟨.builtin .min ts o.type (xs.map λ | .const _=>true | _=>false),xs.map ρ⟩) (ai.bF _) ?_
  simp only [invoke,builtin,Builtin.min_]
  have e:(xs.map ρ).toList = .int kd a::l.map (Value.int kd):=by simpa using DG bj _ _ hx
  rw [e]
  exact ai.bL (akC l a) (ai.bF _)) hs h
theorem Ox.O0{x:Operand}{t u:TypeId}{kd ks k0:IntKind}{a:Int}(an:o.op = .convert t u x)(hx:bl st x=some (.int ks a))(ht:P.underlying t=some (.int k0))(hu:P.underlying u=some (.int kd))
  (hd:cx o.dst c.n) (hs:aB (cB o.dst (.int kd (kd.wrap a)) st) st') (h:C R H st'):bc P B c o R H st C :=
 Ox.mr (s:=λ ρ=>convert t u (ρ x)) (by rw [an]; rfl) hd (λ ρ=>by simp only [execOp,an]) (λ ρ bj=>by
  rw [bj x _ hx]
  unfold convert
  refine ai.bL (ai.underlying ht) (ai.bL (ai.underlying hu) ?_)
  exact ai.bF _) hs h
theorem Kq{α:Type}{xs ys:List α}{lo hi:Int}(h:lH xs lo hi=some ys):0≤lo∧lo≤hi∧hi≤xs.length∧ys=(xs.take hi.toNat).drop lo.toNat:=by
 unfold lH at h
 split at h
 ·cases h; rename_i h; exact ⟨h.1,h.2.1,h.2.2,rfl⟩
 ·cases h
def Mu(st:St):Option Operand→Option Int
 | none=>some 0
 | some x=>match bl st x with | some (.int _ i)=>some i | _=>none
def Lt(st:St)(n:Nat):Option Operand→Option Int
 | none=>some n
 | some x=>match bl st x with | some (.int _ i)=>some i | _=>none
theorem SS{kd:IntKind}{i:Int}{y:Nat}{cd:BoundsCode}(h:0≤i∧i≤y):ai P (Instr.sliceBound (.int kd i) y cd) i.toNat:=by
 unfold Instr.sliceBound
 refine ai.bL (a:=(kd,i)) (ai.bF _) ?_
 simp only [h,and_self,if_true]
 exact ai.bF _
theorem SU{ρ:Operand→Value}(bj:Knows st ρ){len cap:Nat}{lo hi:Option Operand}{l h:Int}(hl:Mu st lo=some l)(hh:Lt st len hi=some h)(hb:0≤l∧l≤h∧h≤len)(hc:len≤cap) :
  ai P (Instr.sliceBounds true len cap (lo.map ρ) (hi.map ρ) none) (l.toNat,h.toNat,cap):=by
 have h1:(lo=none∧l=0)∨∃ x kd,lo=some x∧ρ x = .int kd l:=by
  cases lo with
  | none=>simp only [Mu,j8] at hl; exact .inl ⟨rfl,hl.symm⟩
  | some x =>
   simp only [Mu] at hl
   cases hx:bl st x with
   | none=>simp [hx] at hl
   | some v =>
    cases v <;> simp [hx] at hl
    subst hl
    exact .inr ⟨x,_,rfl,bj x _ hx⟩
 have h2:(hi=none∧h=len)∨∃ x kd,hi=some x∧ρ x = .int kd h:=by
  cases hi with
  | none=>simp only [Lt,j8] at hh; exact .inl ⟨rfl,hh.symm⟩
  | some x =>
   simp only [Lt] at hh
   cases hx:bl st x with
   | none=>simp [hx] at hh
   | some v =>
    cases v <;> simp [hx] at hh
    subst hh
    exact .inr ⟨x,_,rfl,bj x _ hx⟩
 unfold Instr.sliceBounds
 rcases h1 with ⟨rfl,rfl⟩ | ⟨x,kx,rfl,hx⟩ <;> rcases h2 with ⟨rfl,rfl⟩ | ⟨y,ky,rfl,hy⟩ <;> simp only [Option.map_none,Option.map_some, *]
 ·exact ai.bL (a:=cap) (ai.bF _) (ai.bL (a:=(len:Int).toNat) (by rw [eH]; exact ai.bF _) (ai.bL (a:=(0:Int).toNat) (ai.bF _) (ai.bF _)))
 ·exact ai.bL (a:=cap) (ai.bF _) (ai.bL (a:=h.toNat) (SS ⟨by omega,by omega⟩) (ai.bL (a:=(0:Int).toNat) (ai.bF _) (ai.bF _)))
 ·exact ai.bL (a:=cap) (ai.bF _) (ai.bL (a:=(len:Int).toNat) (by rw [eH]; exact ai.bF _) (ai.bL (a:=l.toNat) (SS ⟨by omega,by omega⟩) (ai.bF _)))
 ·exact ai.bL (a:=cap) (ai.bF _) (ai.bL (a:=h.toNat) (SS ⟨by omega,by omega⟩) (ai.bL (a:=l.toNat) (SS ⟨by omega,by omega⟩) (ai.bF _)))
end
theorem FQ:∀ (vs:List Value) (cs:Array Value) (o j:Nat),o+vs.length≤cs.size→(gz cs o vs)[j]? = if o≤j∧j < o+vs.length then vs[j - o]? else cs[j]?
 | [],cs,o,j,_=>by
  simp only [gz,List.length_nil,Nat.add_zero]
  rw [if_neg (by omega)]
 | v::r,cs,o,j,h=>by
  simp only [List.length_cons] at h
  simp only [gz]
  rw [FQ r _ (o+1) j (by simp; omega)]
  by_cases h1:o+1≤j∧j < o+1+r.length
  ·rw [if_pos h1,if_pos (by simp only [List.length_cons]; omega)]
   have:j - o=(j - (o+1))+1:=by omega
   rw [this]; simp
  ·rw [if_neg h1]
   by_cases h2:o=j
   ·subst h2
    rw [if_pos (by simp only [List.length_cons]; omega)]
    rw [uT (by omega)]
    simp
   ·rw [if_neg (by simp only [List.length_cons]; omega),nq h2]
structure uV (P:Program) (t e k:Nat):Prop where
 sl:P.underlying t=some (.slice e)
 size:ai P (sizeOf e) k
 info:∃ i,P.info? e=some i∧i.bytes≤65536
 zero:∃ z,ai P (zeroValue e) z∧z.cells.size=k
section
variable {P:Program} {B:Base} {main:Bool} {ab:Jd P B main} {c:Ctx} {R:az} {H H':ah} {st st':St} {o:Oper}
theorem aO.weaken{α:Type}{s:Sem α}{K K':α→az→ah→Prop}(h:aO P B R H s K)(hk:∀ a R' H',K a R' H'→∃ cZ eI,(∀ w,Fits B R' H' w→gv B R' H' w cZ eI w)∧K' a cZ eI):aO P B R H s K':=by
 intro w hw
 obtain ⟨a,w',R',H',h1,h2,h3,h4⟩:=h w hw
 obtain ⟨cZ,eI,g1,g2⟩:=hk a R' H' h4
 exact ⟨a,w',cZ,eI,h1,h2,h3.trans (g1 w' h3.fits),g2⟩
theorem aO.firstCells{α:Type}{K:cQ α}{k:Nat}{u:Value}{ys:List α}{Q:Array Value→az→ah→Prop}(hu:q8 K k R H u ys)(hQ:∀ es:List Value,bu K k R ys es→Q es.toArray R H):aO P B R H (Builtin.firstCells k ys.length u) Q:=by
 obtain ⟨A,cap,es,rfl,hE,hc⟩:=hu
 cases ys with
 | nil =>
  have e0:es=[]:=by have:=hE.len; simpa using this
  subst e0
  cases A with
  | none=>exact aO.eF (hQ [] hE)
  | some a =>
   simp only [Builtin.firstCells,List.length_nil,Nat.zero_mul,loadCells]
   exact aO.eF (hQ [] hE)
 | cons y ys =>
  obtain ⟨b,o,rfl,pF⟩:=hc (by simp)
  simp only [Builtin.firstCells,loadCells]
  rw [← hE.len]
  exact aO.loadCellsFrom es 0 #[] (by simpa using pF) (by simpa using hQ es hE)
theorem bD.arg{α:Type}{K:cQ α}{k e:Nat}{G:ah→ah}(hG:l7 G){v:Value}{xs:List α}{Hs:ah}(h:bD K k e R v xs Hs):q8 K k R (G Hs) v xs:=by
 rcases h with ⟨A,rfl,rfl,_⟩ | ⟨b,cap,cs,es,rfl,rfl,h3,h4,h5,h6⟩
 ·exact ⟨A,0,[],rfl,.nil,λ h=>absurd rfl h⟩
 ·refine ⟨_,cap,es,rfl,h5,λ _=>⟨b,0,rfl,λ j w hj=>⟨rfl,cs,e,(0,0),.inr ?_,by simpa using h6 j w hj⟩⟩⟩
  obtain ⟨A,D,Bw⟩:=hG
  rw [Bw]; simp
theorem aKC{n m:Nat}(h:m < n)(hn:n≤16777216):Builtin.nextslicecap n m≤67108864:=by
 unfold Builtin.nextslicecap
 split
 ·omega
 ·split
  ·omega
  ·have:∀ (r c:Nat),c≤16777216→Builtin.growBy n r c≤67108864:=by
    intro r
    induction r with
    | zero=>intro c hc; simp only [Builtin.growBy]; omega
    | succ r ih =>
     intro c hc
     simp only [Builtin.growBy]
     split
     ·omega
     ·rename_i fC
      by_cases h2:c+(c+768) / 4≤16777216
      ·exact ih _ h2
      ·
       cases r with
       | zero=>simp only [Builtin.growBy]; omega
       | succ r=>simp only [Builtin.growBy]; rw [if_pos (by omega)]; omega
   exact this 4 m (by omega)
theorem aO.append{α:Type}{K:cQ α}[CM K]{k t e xT T:Nat}{G:ah→ah}(hG:l7 G){v u:Value}{xs ys:List α}{Hs:ah}{dx:TypeDesc}(ht:uV P t e k)(hxT:P.underlying xT=some dx)(WZ:∀ kd,dx ≠ .int kd)
  (hO:bD K k e R v xs Hs) (hu:q8 K k R (G Hs) u ys) (hl:xs.length+ys.length≤16777216) {Q:Value→az→ah→Prop} (hk:∀ v' cN,bD K k e R v' (xs++ys) cN→Q v' R (G cN)) :
  aO P B R (G Hs) (Builtin.append_ #[t,xT] T #[v,u]) Q:=by
 obtain ⟨A2,aWS,es2,LS⟩:=id hu
 have hv:∃ base cap,v = .slice base xs.length cap:=by
  rcases hO with ⟨A,rfl,rfl,_⟩ | ⟨b,cap,cs,es,rfl,_⟩
  ·exact ⟨A,0,rfl⟩
  ·exact ⟨_,cap,rfl⟩
 obtain ⟨base,cap,rfl⟩:=hv
 obtain ⟨i,hi,atG⟩:=ht.info
 obtain ⟨z,hz,hzs⟩:=ht.zero
 have hlen:ai P (Builtin.lenOf u) ys.length:=by rw [LS.1]; exact ai.bF _
 have run:aO P B R (G Hs) (do
   let iA:=xs.length+ys.length
   if iA≤cap then do
    let new ← Builtin.firstCells k ys.length u
    if let some a:=base then storeCells (a.add (xs.length * k)) new.toList
    Pure.pure (Value.slice base iA cap)
   else do
    if (iA:Int) > IntKind.i64.max∧(false=true∨(← typeInfo e).bytes=0) then runtimePanic (.error "growslice: len out of range")
    if Builtin.nextslicecap iA cap * (← typeInfo e).bytes > 2 ^ 48 then (if false=true then runtimePanic (.error "growslice: len out of range") else do
     if !(← Builtin.mayShare k xs.length ys.length base u) then mark .noRoom
     unsupported (.resourceLimit "append: a slice or a string whose bytes no memory bears"))
    let CB ← Go.choose (Question.appendCap iA cap e)
    askRoom (CB * (← typeInfo e).bytes)
    let old ← Builtin.firstCells k xs.length (.slice base xs.length cap)
    let new ← Builtin.firstCells k ys.length u
    let rest:=Builtin.zeroCells (← zeroValue e).cells (CB - iA)
    Pure.pure (Value.slice (some (← newRow e (old++new++rest))) iA CB)) Q:=by
  dsimp only
  by_cases hc:xs.length+ys.length≤cap
  ·rw [if_pos hc]
   refine aO.dO (aO.firstCells hu λ es hE=>?_)
   rcases hO with ⟨A,e1,rfl,rfl⟩ | ⟨b,aWR,cs,DQ,e1,rfl,h3,h4,h5,h6⟩
   ·injection e1 with e1 e2 e3
    subst e1; subst e3
    have hy:ys=[]:=by simpa using hc
    subst hy
    have e0:es=[]:=by have:=hE.len; simpa using this
    subst e0
    have key:Q (.slice base ([]:List α).length 0) R (G []):=hk _ [] (.inl ⟨base,rfl,by simp,rfl⟩)
    cases base with
    | none=>exact aO.dO (aO.eF (aO.eF key))
    | some a=>exact aO.dO (aO.eF (aO.eF key))
   ·injection e1 with e1 _ e3
    subst e1; subst e3
    dsimp only
    rw [show (⟨b,0,none⟩:Addr).add (xs.length * k)=⟨b,0+xs.length * k,none⟩ from tJ _ _ _,Nat.zero_add]
    refine aO.given λ dR=>aO.dO (aO.SC es cs (xs.length * k) 0 (G [(b,.cells cs e (0,0))]) (G [(b,.cells (gz cs (xs.length * k) es) e (0,0))]) hE.one ?_ (by simpa using l7.set hG) dR (aO.eF ?_))
    ·rw [h3,hE.len,Nat.add_zero,← Nat.add_mul]; exact Nat.mul_le_mul_right k hc
    ·have zc:xs.length * k+es.length≤cs.size:=by rw [h3,hE.len,← Nat.add_mul]; exact Nat.mul_le_mul_right k hc
     refine hk _ _ (.inr ⟨b,cap,gz cs (xs.length * k) es,DQ++es,by rw [ns],rfl,by rw [Nb]; exact h3,by rw [ns]; exact hc,h5.append hE,λ j w hj=>?_⟩)
     rw [FQ es cs _ _ zc]
     by_cases Xt:j < DQ.length
     ·rw [uU Xt] at hj
      rw [if_neg (by rw [← h5.len]; omega)]
      exact h6 j w hj
     ·rw [p9 (by omega)] at hj
      have:=(iO.1 hj).1
      rw [if_pos (by rw [← h5.len]; omega),← h5.len]
      exact hj
  ·rw [if_neg hc]
   have hnb:Builtin.nextslicecap (xs.length+ys.length) cap * i.bytes≤2 ^ 48:=by
    have h1:=aKC (n:=xs.length+ys.length) (m:=cap) (by omega) hl
    calc _≤67108864 * 65536:=Nat.mul_le_mul h1 atG
     _≤2 ^ 48:=by decide
   have hni:¬ (((xs.length+ys.length:Nat):Int) > IntKind.i64.max∧(false=true∨i.bytes=0)):=by
    intro h
    have:IntKind.i64.max=9223372036854775807:=by decide
    omega
   refine ai.fB (ai.typeInfo hi) ?_
   rw [if_neg hni]
   refine ai.fB (ai.typeInfo hi) ?_
   rw [if_neg (by omega)]
   refine (aO.dO (aO.choose λ tape=>ai.fB (ai.typeInfo hi) (aO.dO ?_)))
   have atF:∀ (n:Nat) (Q':Unit→az→ah→Prop),Q' () R (G Hs)→aO P B R (G Hs) (askRoom n) Q':=by
    intro n Q' hq
    unfold askRoom
    split
    ·exact aO.aKk hq
    ·exact aO.eF hq
   refine atF _ _ ?_
   simp only [Question.forced,l6,if_false,Question.cut]
   generalize y9:xs.length+ys.length+tape % (2 ^ 63 - (xs.length+ys.length))=CB
   refine aO.dO (aO.firstCells (bD.arg hG hO) λ DQ hEx=>aO.dO (aO.firstCells hu λ Pm hEy=>ai.fB hz ?_))
   simp only [newRow]
   refine aO.dO (aO.dO (aO.weaken (aO.new (K:=λ r R' H'=>R'=R∧H'=(r,.cells (DQ.toArray++Pm.toArray++Builtin.zeroCells z.cells (CB - (xs.length+ys.length))) e (0,0))::G Hs) λ r _ _=>⟨rfl,rfl⟩) λ r R' H' hrh=>?_))
   obtain ⟨rfl,rfl⟩:=hrh
   refine ⟨R',G [(r,.cells (DQ.toArray++Pm.toArray++Builtin.zeroCells z.cells (CB - (xs.length+ys.length))) e (0,0))],λ w hw=>?_,aO.eF (aO.eF (hk _ _ (.inr ⟨r,CB,_,DQ++Pm,by rw [ns],rfl,?_,by rw [ns]; omega,hEx.append hEy,λ j w hj=>?_⟩)))⟩
   ·obtain ⟨A,D,Bw⟩:=hG
    rw [Bw,Bw] at *
    have h1:=ab5 (H':=A++(Hs++((r,.cells (DQ.toArray++Pm.toArray++Builtin.zeroCells z.cells (CB - (xs.length+ys.length))) e (0,0))::D))) (by simpa using List.perm_middle (l₁:=A++Hs)) hw
    refine h1.trans (SL ?_ h1.fits)
    exact List.Sublist.append_left (List.sublist_append_right _ _) _
   ·simp only [Array.size_append,List.size_toArray,hEx.len,hEy.len,Builtin.zeroCells,Array.size_map,Array.size_range,hzs]
    rw [← Nat.add_mul,← Nat.add_mul]
    congr 1; omega
   ·have:=(iO.1 hj).1
    rw [Array.getElem?_append_left (by simpa using this)]
    simpa using hj
 unfold Builtin.append_
 refine ai.fB (ai.underlying ht.sl) (ai.fB ht.size (ai.fB (ai.underlying hxT) (ai.fB (a:=false) (by cases dx <;> first | exact ai.bF _ | exact absurd rfl (WZ _)) ?_)))
 exact ai.fB hlen run
theorem Ox.append{α:Type}{K:cQ α}[CM K]{k t e xT:Nat}(G:ah→ah){x y:Operand}{v u:Value}{xs ys zs:List α}{Hs:ah}{dx:TypeDesc}{C:az→ah→St→Prop}(an:o.op = .call ⟨.builtin .append,#[x,y],#[t,xT]⟩)(hx:bl st x=some v)(hy:bl st y=some u)
  (ht:uV P t e k) (hxT:P.underlying xT=some dx) (WZ:∀ kd,dx ≠ .int kd) (hG:l7 G) (hO:bD K k e R v xs Hs) (hu:q8 K k R (G Hs) u ys) (hl:ij xs ys=some zs) (hd:cx o.dst c.n)
  (hC:∀ v' cN,bD K k e R v' zs cN→∃ st',aB (cB o.dst v' st) st'∧C R (G cN) st'):bc P B c o R (G Hs) st C:=by
 obtain ⟨tY,rfl⟩:=aoh hl
 refine ⟨by rw [an]; rfl,hd,λ ρ bj=>?_⟩
 simp only [execOp,an]
 refine ai.fB (a:=⟨.builtin .append #[t,xT] o.type (#[x,y].map λ | .const _=>true | _=>false),#[x,y].map ρ⟩) (ai.bF _) ?_
 simp only [invoke,builtin]
 have e:(#[x,y].map ρ)=#[v,u]:=by simp [bj x _ hx,bj y _ hy]
 rw [e]
 refine aO.dO (aO.append hG ht hxT WZ hO hu tY λ v' cN Px=>aO.eF ?_)
 obtain ⟨st',hs,h⟩:=hC v' cN Px
 exact ⟨v',.inl rfl,st',hs,h⟩
theorem At.qo{α:Type}{K:cQ α}[CM K]{k e:Nat}{todo:List Item}(G:ah→ah)(hG:l7 G){v:Value}{xs:List α}{Hs H2:ah}(h2:G []=H2)(hO:bD K k e R v xs Hs)(h:∀ R',aS R R'→aa K k R' v xs→At ab c R' H2 st todo):At ab c R (G Hs) st todo:=by
 subst h2
 rcases hO with ⟨A,rfl,rfl,rfl⟩ | ⟨b,cap,cs,es,rfl,rfl,h3,h4,h5,h6⟩
 ·exact h R (aS.refl R) .nil
 ·obtain ⟨A,D,Bw⟩:=hG
  rw [Bw] at h ⊢
  refine At.perm (H':=(b,.cells cs e (0,0))::(A++([]++D))) (by simpa using List.perm_middle.symm) (At.freeze λ R' hR hb=>h R' hR ?_)
  exact ⟨_,cap,es,rfl,h5.mono hR,h4,λ _=>⟨b,0,cs,e,(0,0),rfl,hb,λ j w hj=>by simpa using h6 j w hj⟩⟩
theorem At.ry{α:Type}{K:cQ α}[CM K]{k e b n:Nat}{todo:List Item}(G:ah→ah)(hG:l7 G){H2:ah}(h2:G []=H2){ys:List α}{cs:Array Value}(hE:bu K k R ys cs.toList)(hn:ys.length=n)(h:∀ R',aS R R'→aa K k R' (.slice (some ⟨b,0,none⟩) n n) ys→At ab c R' H2 st todo):At ab c R (G [(b,.cells cs e (0,0))]) st todo:=by
 subst hn h2
 obtain ⟨A,D,Bw⟩:=hG
 rw [Bw] at h ⊢
 refine At.perm (H':=(b,.cells cs e (0,0))::(A++([]++D))) (by simpa using List.perm_middle.symm) (At.freeze λ R' hR hb=>h R' hR ?_)
 exact ⟨_,ys.length,cs.toList,rfl,hE.mono hR,dr _,λ _=>⟨b,0,cs,e,(0,0),rfl,hb,λ j w hj=>by simpa using hj⟩⟩
theorem bD.lit{α:Type}{K:cQ α}{k e b n:Nat}{ys:List α}{cs:Array Value}(hE:bu K k R ys cs.toList)(hn:ys.length=n):bD K k e R (.slice (some ⟨b,0,none⟩) n n) ys [(b,.cells cs e (0,0))]:=by
 subst hn
 exact .inr ⟨b,_,cs,cs.toList,rfl,rfl,by simpa using hE.len,dr _,hE,λ j w hj=>by simpa using hj⟩
end
theorem aB.one{dst:Option Tmp}{d:Tmp}{v:Value}{st:St}(h:dst=some d):aB (cB dst v st) [(d,v)]:=by
 subst h
 intro t u hu
 simp only [List.lookup_cons,List.lookup_nil] at hu
 simp only [cB,List.lookup_cons]
 split at hu
 ·exact hu
 ·cases hu
theorem fN.skip{Ks H H':ah}{b:Nat}{o o':Obj}(h:fN H b o o' H'):fN (Ks++H) b o o' (Ks++H'):=by
 induction Ks with
 | nil=>exact h
 | cons p Ks ih=>exact .there ih
theorem aT.box{R:az}{H:ah}{b:Nat}{e:TypeId}{fz:Nat × Nat}{L:List Value}(hm:(b,Obj.cells L.toArray e fz)∈H):aT R H b 0 L:=λ j v hj=>⟨rfl,_,e,fz,.inr hm,by simpa using hj⟩
theorem l7.id{D:ah}:l7 (λ X=>X++D):=⟨[],D,λ _=>rfl⟩
theorem l7.cons{p:Nat × Obj}{G:ah→ah}(h:l7 G):l7 (λ X=>p::G X):=by
 obtain ⟨A,D,h⟩:=h
 exact ⟨p::A,D,λ X=>by show p::G X=_; rw [h]; rfl⟩
theorem l7.app{L:ah}{G:ah→ah}(h:l7 G):l7 (λ X=>L++G X):=by
 obtain ⟨A,D,h⟩:=h
 exact ⟨L++A,D,λ X=>by show L++G X=_; rw [h,List.append_assoc]⟩
theorem qn{place:Nat→Option (Nat × Nat)}{cells:Array Value}:Instr.fill place cells []=some cells:=rfl
theorem aLP(vc:List Value):∀ (cells:Array Value) (off j:Nat),(vc.zipIdx j).foldl (λ cs (c,i)=>cs.setIfInBounds (off+i) c) cells=gz cells (off+j) vc:=by
 induction vc with
 | nil=>intro cells off j; rfl
 | cons v r ih=>intro cells off j; simp only [List.zipIdx_cons,List.foldl_cons,gz]; rw [ih]; rfl
theorem aLQ(vc cells:Array Value)(off:Nat):vc.zipIdx.foldl (λ cs (c,i)=>cs.setIfInBounds (off+i) c) cells=gz cells off vc.toList:=by
 have h:=aLP vc.toList cells off 0
 rw [Nat.add_zero] at h
 rw [← h,← Array.foldl_toList]
 simp
theorem oH{place:Nat→Option (Nat × Nat)}{cells cells' out vc:Array Value}{i off size:Nat}{v:Value}{rest:List (Nat × Value)}(hp:place i=some (off,size))(hc:v.cells=vc)
  (hs:(vc.size == size && Nat.ble (off+vc.size) cells.size)=true) (nE:gz cells off vc.toList=cells') (h:Instr.fill place cells' rest=some out):Instr.fill place cells ((i,v)::rest)=some out:=by
 subst hc
 rw [fF] at hs
 have h1:v.cells.size=size:=by simpa using hs.1
 have h2:off+v.cells.size≤cells.size:=by simpa [Nat.ble_eq] using hs.2
 simp only [Instr.fill,hp]
 rw [if_neg (by simp [h1]; omega),aLQ,nE]
 exact h
theorem cJ:∀ u∈([]:List Value),u.oneCell'=true:=λ _ h=>by cases h
theorem cu{v:Value}{l:List Value}(h:v.oneCell'=true)(t:∀ u∈l,u.oneCell'=true):∀ u∈v::l,u.oneCell'=true:=λ u hu=>by
 rcases fy.1 hu with rfl | hu
 ·exact h
 ·exact t u hu
theorem fK{l m:List Value}(h:∀ u∈l,u.oneCell'=true)(t:∀ u∈m,u.oneCell'=true):∀ u∈l++m,u.oneCell'=true:=λ u hu=>(List.mem_append.1 hu).elim (h u) (t u)
theorem mi{α:Type}{f:α→Value}{xs:List α}(h:∀ x,(f x).oneCell'=true):∀ u∈xs.map f,u.oneCell'=true:=λ u hu=>by
 obtain ⟨x,_,rfl⟩:=List.mem_map.1 hu
 exact h x
theorem aT.part{R:az}{H:ah}{b o j n:Nat}{L vs:List Value}(h:aT R H b o L)(hv:(L.drop j).take n=vs):aT R H b (o+j) vs:=by
 intro i v hi
 subst hv
 rw [List.getElem?_take] at hi
 split at hi
 ·rw [List.getElem?_drop] at hi
  have:=h _ _ hi
  simpa [Nat.add_assoc] using this
 ·cases hi
theorem aT.arr{α:Type}{R:az}{H:ah}{b o k:Nat}{f:α→Value}{pre post:List Value}{xs:List α}{i:Int}{x:α}(h:aT R H b o (pre++(xs.map f++post)))(hi:idx xs i=some x)(hk:pre.length=k):Cell R H ⟨b,o+k+i.toNat * 1,none⟩ (f x):=by
 obtain ⟨_,_,h3⟩:=vJ hi
 have bV:=(iO.1 h3).1
 have:=h (k+i.toNat) (f x) (by
  rw [p9 (by omega),← hk,Nat.add_sub_cancel_left,uU (by simpa using bV)]
  simp [h3])
 simpa [Nat.add_assoc] using this
theorem aT.sub{R:az}{H H':ah}{b o:Nat}{L:List Value}(h:aT R H b o L)(hs:∀ p∈H,p∈H'):aT R H' b o L:=λ j v hj=>by
 obtain ⟨h1,cs,e,fz,h2,h3⟩:=h j v hj
 exact ⟨h1,cs,e,fz,h2.imp id (hs _),h3⟩
theorem aT.le{R R':az}{H:ah}{b o:Nat}{L:List Value}(h:aT R H b o L)(hs:aS R R'):aT R' H b o L:=λ j v hj=>by
 obtain ⟨h1,cs,e,fz,h2,h3⟩:=h j v hj
 exact ⟨h1,cs,e,fz,h2.imp (hs _ _) id,h3⟩
theorem Ut{α:Type}{f:α→Value}{pre post:List Value}{xs:List α}{i:Int}{x y:α}{k:Nat}(hi:idx xs i=some y)(hk:pre.length=k):((pre++(xs.map f++post)).toArray).setIfInBounds (k+i.toNat * 1) (f x)=(pre++((xs.set i.toNat x).map f++post)).toArray:=by
 obtain ⟨_,_,h3⟩:=vJ hi
 have bV:=(iO.1 h3).1
 subst hk
 simp only [Nat.mul_one,List.setIfInBounds_toArray,List.map_set]
 congr 1
 rw [List.set_append_right _ _ (by omega),Nat.add_sub_cancel_left,List.set_append_left _ _ (by simpa using bV)]
theorem Ur{α:Type}{f:α→Value}{pre post:List Value}{xs:List α}{i:Int}{y:α}{k:Nat}(hi:idx xs i=some y)(hk:pre.length=k):Nat.blt (k+i.toNat * 1) ((pre++(xs.map f++post)).toArray).size=true:=by
 obtain ⟨_,_,h3⟩:=vJ hi
 have bV:=(iO.1 h3).1
 rw [Nat.blt_eq]
 simp
 omega
theorem fM{L:List Value}{n:Nat}(h:L.length=n):(L.drop 0).take n=L:=by subst h; simp
theorem aNo{pre mid post:List Value}{k n:Nat}(hk:pre.length=k)(hn:mid.length=n):((pre++(mid++post)).drop k).take n=mid:=by subst hk; subst hn; simp
theorem pM{P:Program}{α:Type}{t e len k b m:Nat}{i:Int}{xs:List α}{x:α}(ht:w6 P t len e k)(hl:xs.length=len)(hi:idx xs i=some x):yN P t (.pointer (some ⟨b,m,none⟩)) i b (m+i.toNat * k):=by
 obtain ⟨h1,h2,_⟩:=vJ hi
 exact aho ht ⟨h1,by omega⟩
theorem aa.one{α:Type}{C:cQ α}{k:Nat}{R:az}{v:Value}{xs:List α}(h:aa C k R v xs):v.oneCell'=true:=by
 obtain ⟨A,cap,es,rfl,_⟩:=h; rfl
theorem aa.cells{α:Type}{C:cQ α}{k:Nat}{R:az}{v:Value}{xs:List α}(h:aa C k R v xs):v.cells=#[v]:=by
 obtain ⟨A,cap,es,rfl,_⟩:=h; rfl
theorem bD.cells{α:Type}{C:cQ α}{k e:Nat}{R:az}{v:Value}{xs:List α}{Hs:ah}(h:bD C k e R v xs Hs):v.cells=#[v]:=by
 rcases h with ⟨A,rfl,_⟩ | ⟨b,cap,cs,es,rfl,_⟩ <;> rfl
theorem bD.one{α:Type}{C:cQ α}{k e:Nat}{R:az}{v:Value}{xs:List α}{Hs:ah}(h:bD C k e R v xs Hs):v.oneCell'=true:=by
 rcases h with ⟨A,rfl,_⟩ | ⟨b,cap,cs,es,rfl,_⟩ <;> rfl
theorem bu.cons{α:Type}{C:cQ α}{k:Nat}{R:az}{x:α}{xs:List α}{e1 es:List Value}(h:C R x e1)(hk:e1.length=k)(g:bu C k R xs es):bu C k R (x::xs) (e1++es):=(bu.single h hk).append g
theorem bu.le{α:Type}{C:cQ α}{k:Nat}{R:az}{xs:List α}{es fs:List Value}(h:bu C k R xs es)(e:es=fs):bu C k R xs fs:=by subst e; exact h
section
variable {P:Program} {B:Base} {main:Bool} {ab:Jd P B main} {c:Ctx} {R:az} {H H':ah} {st st':St} {o:Oper} {k:List Item}
inductive qg (P:Program) (R:az) (H:ah) (st:St):List ResultVar→List Value→Prop
 | nil:qg P R H st [] []
 | tmp {t:Tmp} {v:Value} {r:List ResultVar} {vs:List Value}:st.lookup t=some v→qg P R H st r vs→qg P R H st (.tmp t::r) (v::vs)
 | one {a:Tmp} {t:TypeId} {b o:Nat} {v:Value} {r:List ResultVar} {vs:List Value}:st.lookup a=some (.pointer (some ⟨b,o,none⟩))→gN P t→Cell R H ⟨b,o,none⟩ v→qg P R H st r vs→qg P R H st (.cell a t::r) (v::vs)
 | agg {a:Tmp} {t:TypeId} {b o n:Nat} {us:List Value} {r:List ResultVar} {vs:List Value}:st.lookup a=some (.pointer (some ⟨b,o,none⟩))→nu P t n→us.length=n→aT R H b o us→qg P R H st r vs→qg P R H st (.cell a t::r) (.agg us.toArray::vs)
theorem aMM{tmps:Array Value}{n:Nat}(ht:dh n st tmps):∀ {l:List ResultVar} {vs:List Value},qg P R H st l vs→∀ {K:List Value→az→ah→Prop},K vs R H →
  aO P B R H (l.mapM (m:=Sem) λ
   | .tmp t=>pure (tmps.getD t undef)
   | .cell a t=>do loadVar t (← asAddr (tmps.getD a undef))) K:=by
 intro l vs h
 induction h with
 | nil=>intro K hk; exact aO.eF hk
 | @tmp t v r vs hl _ ih =>
  intro K hk
  rw [List.mapM_cons]
  have:tmps.getD t undef=v:=by simp [Array.getD_eq_getD_getElem?,ht.2 t v hl]
  refine ai.fB (a:=v) (by show ai P (pure (tmps.getD t undef)) v; rw [this]; exact ai.bF _) (aO.dO (ih (K:=λ us R' H'=>K (v::us) R' H') hk |>.mono λ us R' H' h=>aO.eF h))
 | @one a t b o v r vs hl QO hc _ ih =>
  intro K hk
  rw [List.mapM_cons]
  have:tmps.getD a undef = .pointer (some ⟨b,o,none⟩):=by simp [Array.getD_eq_getD_getElem?,ht.2 a _ hl]
  simp only [this]
  refine aO.dO (ai.fB (a:=⟨b,o,none⟩) (ai.bF _) ?_)
  unfold loadVar
  refine ai.fB QO.1 (aO.load hc (aO.dO (ih (K:=λ us R' H'=>K (v::us) R' H') hk |>.mono λ us R' H' h=>aO.eF h)))
 | @agg a t b o n us r vs hl QO hn hc _ ih =>
  intro K hk
  rw [List.mapM_cons]
  have:tmps.getD a undef = .pointer (some ⟨b,o,none⟩):=by simp [Array.getD_eq_getD_getElem?,ht.2 a _ hl]
  simp only [this]
  refine aO.dO (ai.fB (a:=⟨b,o,none⟩) (ai.bF _) ?_)
  unfold loadVar
  refine ai.fB QO.1 ?_
  simp only [if_true]
  subst hn
  refine ai.fB QO.2 (aO.dO (aO.loadCellsFrom us 0 #[] (by simpa using hc) (aO.eF ?_)))
  simp only [List.append_toArray,List.nil_append]
  exact aO.dO (ih (K:=λ vs R' H'=>K (.agg us.toArray::vs) R' H') hk |>.mono λ us R' H' h=>aO.eF h)
theorem Sv{fn:Func}{tmps:Array Value}{n:Nat}{vs:List Value}(ht:dh n st tmps)(h:qg P R H st fn.results.toList vs):aO P B R H (results fn tmps) λ v R' H'=>v=iY vs∧R'=R∧H'=H:=by
 unfold results
 rw [← Array.toArray_toList (xs:=fn.results),List.mapM_toArray]
 refine aO.dO (aO.map (aMM ht h ?_))
 cases vs with
 | nil=>exact aO.eF ⟨rfl,rfl,rfl⟩
 | cons v r=>cases r with
  | nil=>exact aO.eF ⟨rfl,rfl,rfl⟩
  | cons _ _=>exact aO.eF ⟨rfl,rfl,rfl⟩
theorem At.FU{fr:Frame}{cs:List Frame}{f:FuncId}{n:Nat}{fn:Func}{vs:List Value}(hf:P.funcs[f]? = some fn)(hr:qg P R H st fn.results.toList vs)(hj:ab.J R H (aY (fr.finish (iY vs)) cs)) :
  At ab ⟨f,.normal,none,n,[],fr::cs⟩ R H st (.code .ret::k):=λ tmps ht=>by
 refine Jd.ctl (g':=aY { (aX ⟨f,.normal,none,n,[],fr::cs⟩ tmps (.code .ret::k)) with mode:=.returning } (fr::cs)) rfl (λ w=>by simp [stepG,stepG.exec,aY,aX])
  (ab.step rfl λ w hw=>?_)
 obtain ⟨v,w',R',H',h1,h2,h3,rfl,rfl,rfl⟩:=Sv (P:=P) ht hr w hw
 refine ⟨aY (fr.finish (iY vs)) cs,w',seen P f ((results fn tmps).events P w #[]),R',H',?_,λ e he=>h2 e (mem_seen he),h3,hj⟩
 simp [stepG,unwind,doReturn,aY,aX,hf,h1,GStep.after]
theorem At.yW{fr:Frame}{cs:List Frame}{f:FuncId}{n:Nat}{fn:Func}{vs:List Value}(hf:P.funcs[f]? = some fn)(hr:qg P R H st fn.results.toList vs)(hj:ab.J R H (aY (fr.finish (iY vs)) cs)) :
  At ab ⟨f,.normal,none,n,[],fr::cs⟩ R H st []:=λ tmps ht=>by
 refine Jd.ctl (g':=aY { (aX ⟨f,.normal,none,n,[],fr::cs⟩ tmps []) with mode:=.returning } (fr::cs)) rfl (λ w=>by simp [stepG,stepG.exec,aY,aX])
  (ab.step rfl λ w hw=>?_)
 obtain ⟨v,w',R',H',h1,h2,h3,rfl,rfl,rfl⟩:=Sv (P:=P) ht hr w hw
 refine ⟨aY (fr.finish (iY vs)) cs,w',seen P f ((results fn tmps).events P w #[]),R',H',?_,λ e he=>h2 e (mem_seen he),h3,hj⟩
 simp [stepG,unwind,doReturn,aY,aX,hf,h1,GStep.after]
end
section
variable {P:Program} {B:Base} {main:Bool}
abbrev oB(α:Type):=az→α→Value→Prop
def qa(ab:Jd P B main)(R:az)(H:ah){α β:Type}(A:oB α)(D:oB β)(v:Value)(f:α→Option β):Prop :=
 ∃ iI first captured,v = .func (.func iI) first captured∧bq P iI∧∀ R' H',aS R R'→(∀ p∈H,p∈H')→∀ x r va,A R' x va→f x=some r→ba ab iI (first++#[va]++captured) R' H' λ v cZ eI=>aS R' cZ∧eI=H'∧D cZ r v
def VI(kd:IntKind):oB Int:=λ _ x v=>v = .int kd x
def VB:oB Bool:=λ _ x v=>v = .bool x
def kB{α:Type}(C:cQ α):oB α:=λ R x v=>∃ es,v = .agg (List.toArray es)∧C R x es
theorem qa.up{ab:Jd P B main}{R R':az}{H H':ah}{α β:Type}{A:oB α}{D:oB β}{v:Value}{f:α→Option β}(h:qa ab R H A D v f)(hR:aS R R')(hH:∀ p∈H,p∈H'):qa ab R' H' A D v f:=by
 obtain ⟨iI,first,captured,h1,h2,h3⟩:=h
 exact ⟨iI,first,captured,h1,h2,λ cZ eI KJ hH'=>h3 cZ eI (hR.trans KJ) (λ p hp=>hH' p (hH p hp))⟩
end
theorem tt{h l1 l2:ah}(p:List.Sublist l1 l2):List.Sublist (h++l1) (h++l2):=List.Sublist.append (List.Sublist.refl _) p
theorem bt{h l1 l2:ah}(p:List.Sublist l1 l2):List.Sublist l1 (h++l2):=by
 induction h with
 | nil=>exact p
 | cons a h ih=>exact ih.cons a
def oA{α:Type}(f:α→Value)(n:Nat):cQ (List α):=λ _ xs es=>xs.length=n∧es=[]++(xs.map f++[])
theorem lQ{vs:List Value}{cs:Array Value}(h:vs.length=cs.size):gz cs 0 vs=vs.toArray:=by
 have hs:(gz cs 0 vs).size=cs.size:=Nb _ _ _
 apply Array.ext_getElem?
 intro j
 rw [FQ vs cs 0 j (by omega)]
 by_cases hj:j < vs.length
 ·rw [if_pos (by omega)]; simp
 ·rw [if_neg (by omega)]
  rw [Array.getElem?_eq_none (by omega)]
  simp [Nat.not_lt.1 hj]
section
variable {P:Program} {B:Base} {main:Bool} {ab:Jd P B main} {c:Ctx} {R:az} {H:ah} {st:St} {k:List Item} {o:Oper} {C:az→ah→St→Prop}
theorem At.aHV{S Q ρ:Type}{body:S→Option (S ⊕ Q)}{s0:S}{code:Code}{g:Q→Option ρ}{r:ρ}(hM:(Go.Lg.bH body s0).bind g=some r)(I:S→az→ah→St→Prop)(h0:I s0 R H st)(hb:∀ s R H st,I s R H st→∀ x,body s=some x→(∀ s',x=Sum.inl s'→∀ R' H' st',I s' R' H' st'→At ab c R' H' st' (.inLoop code::k))→(∀ p,x=(Sum.inr p)→g p=some r)→At ab c R H st (.code code :: .inLoop code::k)):At ab c R H st (.code (.loop code)::k):=At.bH hM I (λ s R H st hI x hx again out=>hb s R H st hI x hx again (λ _ hp=>out _ hp)) h0
theorem At.hF{S P0 ρ:Type}{body:S→Option (S ⊕ P0)}{s0:S}{code:Code}{f0:P0→Option ρ}{r:ρ}{k0:List Item}(hM:(Go.Lg.bH body s0).bind f0=some r)(I:S→az→ah→St→Prop)(E0:P0→az→ah→St→Prop)(id0:Nat)(_:exitTo id0 k=some k0)(h0:I s0 R H st)(tX:∀ p R H st,E0 p R H st→f0 p=some r→At ab c R H st k0)(hb:∀ s R H st,I s R H st→∀ x,body s=some x→(∀ s',x=Sum.inl s'→∀ R' H' st',I s' R' H' st'→At ab c R' H' st' (.inLoop code::k))→(∀ p,x=(Sum.inr p)→∀ R' H' st',E0 p R' H' st'→At ab c R' H' st' k0)→At ab c R H st (.code code :: .inLoop code::k)):At ab c R H st (.code (.loop code)::k):=At.bH hM I (λ s R H st hI x hx again out=>hb s R H st hI x hx again (λ p hp R' H' st' hE=>tX p R' H' st' hE (out _ hp))) h0
theorem At.gi{S P0 Q ρ:Type}{body:S→Option (S ⊕ (P0 ⊕ Q))}{s0:S}{code:Code}{f0:P0→Option ρ}{g:Q→Option ρ}{r:ρ}{k0:List Item}(hM:(Go.Lg.bH body s0).bind (Sum.elim f0 g)=some r)(I:S→az→ah→St→Prop)(E0:P0→az→ah→St→Prop)(id0:Nat)(_:exitTo id0 k=some k0)(h0:I s0 R H st)(tX:∀ p R H st,E0 p R H st→f0 p=some r→At ab c R H st k0)(hb:∀ s R H st,I s R H st→∀ x,body s=some x→(∀ s',x=Sum.inl s'→∀ R' H' st',I s' R' H' st'→At ab c R' H' st' (.inLoop code::k))→(∀ p,x=(Sum.inr (Sum.inl p))→∀ R' H' st',E0 p R' H' st'→At ab c R' H' st' k0)→(∀ p,x=(Sum.inr (Sum.inr p))→g p=some r)→At ab c R H st (.code code :: .inLoop code::k)):At ab c R H st (.code (.loop code)::k):=At.bH hM I (λ s R H st hI x hx again out=>hb s R H st hI x hx again (λ p hp R' H' st' hE=>tX p R' H' st' hE (out _ hp)) (λ _ hp=>out _ hp)) h0
theorem At.gG{P0 ρ:Type}{A:Option P0}{it:Item}{f0:P0→Option ρ}{r:ρ}(hM:A.bind f0=some r)(E0:P0→az→ah→St→Prop)(tX:∀ p R H st,E0 p R H st→f0 p=some r→At ab c R H st k)(hb:∀ x,A=some x→(∀ p,x=p→∀ R' H' st',E0 p R' H' st'→At ab c R' H' st' k)→At ab c R H st (it::k)):At ab c R H st (it::k):=by
 obtain ⟨x,h1,h2⟩:=ag hM
 exact hb x h1 (λ p hp R' H' st' hE=>tX p R' H' st' hE (by subst hp; exact h2))
theorem At.aGM{P0 Q ρ:Type}{A:Option (P0 ⊕ Q)}{it:Item}{f0:P0→Option ρ}{g:Q→Option ρ}{r:ρ}(hM:A.bind (Sum.elim f0 g)=some r)(E0:P0→az→ah→St→Prop)(tX:∀ p R H st,E0 p R H st→f0 p=some r→At ab c R H st k)(hb:∀ x,A=some x→(∀ p,x=(Sum.inl p)→∀ R' H' st',E0 p R' H' st'→At ab c R' H' st' k)→(∀ p,x=(Sum.inr p)→g p=some r)→At ab c R H st (it::k)):At ab c R H st (it::k):=by
 obtain ⟨x,h1,h2⟩:=ag hM
 exact hb x h1 (λ p hp R' H' st' hE=>tX p R' H' st' hE (by subst hp; exact h2)) (λ p hp=>by subst hp; exact h2)
theorem Ox.vh{α β:Type}{A:oB α}{D:oB β}{f:α→Option β}{x y:Operand}{ts:Array TypeId}{v va:Value}{a:α}{r:β}{H0:ah}(h:qa ab R H0 A D v f)
  (an:o.op = .call ⟨.value x,#[y],ts⟩) (hx:bl st x=some v) (hy:bl st y=some va) (hA:A R a va) (hf:f a=some r) (hd:cx o.dst c.n) (hH:∀ p∈H0,p∈H)
  (hC:∀ w R',aS R R'→D R' r w→∃ st',aB (cB o.dst w st) st'∧C R' H st'):qf ab c o R H st C:=by
 obtain ⟨iI,first,captured,rfl,he,hk⟩:=h
 refine Ox.dU (vs:=[va]) an rfl hx (by simp [jG,hy]) he rfl hd ((hk R H (aS.refl _) hH a r va hA hf).mono λ w R' H' h=>?_)
 obtain ⟨h1,rfl,h3⟩:=h
 exact hC w R' h1 h3
end
def dJ{α:Type}(C:cQ α)(k:Nat)(R:az)(H:ah)(v:Value)(xs:List α):Prop :=
 ∃ A cap es,v = .slice A xs.length cap∧bu C k R xs es∧xs.length≤cap∧(xs≠[]→∃ b o,A=some ⟨b,o,none⟩∧aT R H b o es)
theorem dJ.le{α:Type}{C:cQ α}[CM C]{k:Nat}{R R':az}{H:ah}{v:Value}{xs:List α}(h:dJ C k R H v xs)(hR:aS R R'):dJ C k R' H v xs:=by
 obtain ⟨A,cap,es,h1,h2,h3,h4⟩:=h
 refine ⟨A,cap,es,h1,h2.mono hR,h3,λ hx=>?_⟩
 obtain ⟨b,o,g1,g2⟩:=h4 hx
 exact ⟨b,o,g1,g2.le hR⟩
theorem dJ.sub{α:Type}{C:cQ α}{k:Nat}{R:az}{H H':ah}{v:Value}{xs:List α}(h:dJ C k R H v xs)(hs:∀ p∈H,p∈H'):dJ C k R H' v xs:=by
 obtain ⟨A,cap,es,h1,h2,h3,h4⟩:=h
 refine ⟨A,cap,es,h1,h2,h3,λ hx=>?_⟩
 obtain ⟨b,o,g1,g2⟩:=h4 hx
 exact ⟨b,o,g1,g2.sub hs⟩
theorem aa.rd{α:Type}{C:cQ α}{k:Nat}{R:az}{H:ah}{v:Value}{xs:List α}(h:aa C k R v xs):dJ C k R H v xs:=by
 obtain ⟨A,cap,es,h1,h2,hc,h3⟩:=h
 refine ⟨A,cap,es,h1,h2,hc,λ hx=>?_⟩
 obtain ⟨b,o,arr,e,fz,g1,g2,g3⟩:=h3 hx
 exact ⟨b,o,g1,λ j w hj=>⟨rfl,arr,e,fz,.inl g2,g3 j w hj⟩⟩
theorem bD.rd{α:Type}{C:cQ α}{k e:Nat}{R:az}{H:ah}{v:Value}{xs:List α}{Hs:ah}(h:bD C k e R v xs Hs)(hs:∀ p∈Hs,p∈H):dJ C k R H v xs:=by
 rcases h with ⟨A,rfl,rfl,rfl⟩ | ⟨b,cap,cs,es,rfl,rfl,h3,h4,h5,h6⟩
 ·exact ⟨A,0,[],rfl,.nil,dr _,λ h=>absurd rfl h⟩
 ·exact ⟨_,cap,es,rfl,h5,h4,λ _=>⟨b,0,rfl,λ j w hj=>⟨rfl,cs,e,(0,0),.inr (hs _ (by simp)),by simpa using h6 j w hj⟩⟩⟩
theorem dJ.lit{α:Type}{C:cQ α}{k e n b:Nat}{R:az}{H:ah}{ys:List α}{cs:Array Value}{fz:Nat × Nat}(hm:(b,Obj.cells cs e fz)∈H)(hE:bu C k R ys cs.toList)(hn:ys.length=n):dJ C k R H (.slice (some ⟨b,0,none⟩) n n) ys:=by
 subst hn
 exact ⟨_,ys.length,cs.toList,rfl,hE,dr _,λ _=>⟨b,0,rfl,λ j w hj=>⟨rfl,cs,e,fz,.inr hm,by simpa using hj⟩⟩⟩
theorem dJ.arg{α:Type}{C:cQ α}{k:Nat}{R:az}{H:ah}{v:Value}{xs:List α}(h:dJ C k R H v xs):q8 C k R H v xs:=by
 obtain ⟨A,cap,es,h1,h2,_,h3⟩:=h
 exact ⟨A,cap,es,h1,h2,h3⟩
theorem dJ.elem{P:Program}{α:Type}{K:cQ α}{k t e:Nat}{R:az}{H:ah}{v:Value}{xs:List α}{i:Int}{x:α}(h:dJ K k R H v xs)(ht:nU P t e k)(hi:idx xs i=some x) :
  ∃ b n es,K R x es∧aT R H b n es∧yN P t v i b n:=by
 obtain ⟨h1,h2,h3⟩:=vJ hi
 obtain ⟨A,cap,es,rfl,hE,_,hc⟩:=h
 obtain ⟨b,o,rfl,g2⟩:=hc (by rintro rfl; simp at h3)
 obtain ⟨e1,f1,f2,f3⟩:=hE.at_ _ _ h3
 refine ⟨b,o+i.toNat * k,e1,f1,λ j w hj=>?_,λ kd=>?_⟩
 ·have:=g2 _ _ (f3 j w hj)
  simpa [Nat.add_assoc] using this
 ·have:=ab9 (P:=P) (b:=b) (m:=o) (cap:=cap) (kd:=kd) ht (j:=i.toNat) (len:=xs.length) (by omega)
  rwa [Int.toNat_of_nonneg h1] at this
theorem tu(a b:Nat × Obj)(l:ah):List.Perm (a::b::l) (b::a::l):=List.Perm.swap _ _ _
section
variable {P:Program} {B:Base} {main:Bool} {ab:Jd P B main} {c:Ctx} {R:az} {H H':ah} {st st':St} {o:Oper} {C:az→ah→St→Prop} {k:List Item}
theorem Ox.aav{α:Type}{K:cQ α}{k:Nat}{x:Operand}{t e:TypeId}{v:Value}{xs:List α}{H0:ah}(an:o.op = .call ⟨.builtin .len,#[x],#[t]⟩)(hx:bl st x=some v)(hl:dJ K k R H0 v xs)(ht:P.underlying t=some (.slice e))
  (hd:cx o.dst c.n) (hs:aB (cB o.dst (.int .i64 (xs.length:Int)) st) st') (h:C R H st'):bc P B c o R H st C:=by
 obtain ⟨A,cap,es,rfl,_⟩:=hl
 exact Ox.len an hx ht hd hs h
theorem At.cut{it:Item}(E:az→ah→St→Prop)(h1:∀ R' H' st',E R' H' st'→At ab c R' H' st' k)(h2:(∀ R' H' st',E R' H' st'→At ab c R' H' st' k)→At ab c R H st (it::k)):At ab c R H st (it::k):=h2 h1
theorem Any.aNw{S:Nat→ah}{ops:Array Oper}{n:Nat}{rem ra rb:List Nat}{i j:Nat}{a b:Oper}(ha:ops[i]? = some a)(hb:ops[j]? = some b)(lJ:rem.filter (nM ops rem)=[i,j])(LW:cY ops st a=some true)(LX:cY ops st b=some true)(dR:rem.Nodup)(Er:rem.erase i=ra)(XW:rem.erase j=rb)
  (h1:qf ab c a R H st λ R' H' st'=>aS R R'∧(∀ p∈S i,p∈H→p∈H')∧Any ab c S ops k n ra R' H' st')
  (h2:qf ab c b R H st λ R' H' st'=>aS R R'∧(∀ p∈S j,p∈H→p∈H')∧Any ab c S ops k n rb R' H' st'):Any ab c S ops k (n+1) rem R H st:=by
 subst Er XW
 refine ⟨dR,λ tmps ht=>.inr ⟨(λ e=>by rw [e] at lJ; cases lJ),λ _ x hx hxr=>?_⟩⟩
 have:x∈rem.filter (nM ops rem):=List.mem_filter.2 ⟨hx,hxr⟩
 rw [lJ] at this
 simp only [fy,List.not_mem_nil,or_false] at this
 rcases this with rfl | rfl
 ·exact h1.IA ha (lu ht LW) ht
 ·exact h2.IA hb (lu ht LX) ht
theorem Any.SG{S:Nat→ah}{ops:Array Oper}{n:Nat}{rem ra rb rc:List Nat}{i j l:Nat}{a b d:Oper}(ha:ops[i]? = some a)(hb:ops[j]? = some b)(hd:ops[l]? = some d)(lJ:rem.filter (nM ops rem)=[i,j,l])(LW:cY ops st a=some true)(LX:cY ops st b=some true)(hwd:cY ops st d=some true)(dR:rem.Nodup)(Er:rem.erase i=ra)(XW:rem.erase j=rb)(hrc:rem.erase l=rc)
  (h1:qf ab c a R H st λ R' H' st'=>aS R R'∧(∀ p∈S i,p∈H→p∈H')∧Any ab c S ops k n ra R' H' st')
  (h2:qf ab c b R H st λ R' H' st'=>aS R R'∧(∀ p∈S j,p∈H→p∈H')∧Any ab c S ops k n rb R' H' st')
  (h3:qf ab c d R H st λ R' H' st'=>aS R R'∧(∀ p∈S l,p∈H→p∈H')∧Any ab c S ops k n rc R' H' st'):Any ab c S ops k (n+1) rem R H st:=by
 subst Er XW hrc
 refine ⟨dR,λ tmps ht=>.inr ⟨(λ e=>by rw [e] at lJ; cases lJ),λ _ x hx hxr=>?_⟩⟩
 have:x∈rem.filter (nM ops rem):=List.mem_filter.2 ⟨hx,hxr⟩
 rw [lJ] at this
 simp only [fy,List.not_mem_nil,or_false] at this
 rcases this with rfl | rfl | rfl
 ·exact h1.IA ha (lu ht LW) ht
 ·exact h2.IA hb (lu ht LX) ht
 ·exact h3.IA hd (lu ht hwd) ht
end
section
variable {P:Program} {d:Nat} {xs ys:Array Value}
inductive JH (P:Program) (d:Nat) (xs ys:Array Value):List Field→Bool→Prop
 | nil:JH P d xs ys [] true
 | cons {f:Field} {rest:List Field} {a b:Value} {r r':Bool}:(f.name == "_")=false→ai P (part f.type xs f.offset) a→ai P (part f.type ys f.offset) b→ai P (Op.equalIn d f.type a b) r→JH P d xs ys rest r'→JH P d xs ys (f::rest) (r && r')
def s9(r:Bool):Option Bool × Unit:=(if r then none else some false,())
theorem aNL{fs:List Field}{r:Bool}(h:JH P d xs ys fs r) :
  ai P (forIn fs ((none:Option Bool),()) λ f (_:Option Bool × Unit) =>
      if f.name ≠ "_" then do
       let a ← part f.type xs f.offset
       let b ← part f.type ys f.offset
       let q ← Op.equalIn d f.type a b
       if (!q)=true then pure (ForInStep.done (some false,())) else pure (ForInStep.yield (none,()))
      else pure (ForInStep.yield (none,()))) (s9 r):=by
 induction h with
 | nil=>rw [List.forIn_nil]; exact ai.bF _
 | @cons f rest a b r r' hn ha hb hq _ ih =>
  have zd:f.name ≠ "_":=by simpa using hn
  rw [List.forIn_cons]
  simp only [zd,ne_eq,not_false_iff,if_true,bind_assoc]
  refine ai.bL ha (ai.bL hb (ai.bL hq ?_))
  cases r with
  | false=>simp only [Bool.not_false,if_true,pure_bind,Bool.false_and]; exact ai.bF _
  | true =>
   simp only [Bool.not_true,l6,if_false,pure_bind,Bool.true_and]
   simpa only [ne_eq] using ih
theorem Ns{t:TypeId}{fields:Array Field}{r:Bool}(hu:P.underlying t=some (.struct fields))(de:P.stoodInHeld t=false)(h:JH P d xs ys fields.toList r):ai P (Op.equalIn (d+1) t (.agg xs) (.agg ys)) r:=by
 rw [Op.equalIn]
 refine ai.bL (ai.underlying hu) ?_
 dsimp only
 refine ai.bL ai.program ?_
 simp only [de,l6,if_false]
 rw [← Array.forIn_toList]
 refine ai.bL (aNL h) ?_
 cases r <;> exact ai.bF _
theorem wH{t:TypeId}{kd:IntKind}{a b:Int}(hu:P.underlying t=some (.int kd)):ai P (Op.equalIn (d+1) t (.int kd a) (.int kd b)) (a == b):=by
 rw [Op.equalIn]
 refine ai.bL (ai.underlying hu) ?_
 simp only [if_true]
 exact ai.bF _
theorem Nr{t:TypeId}{a b:Bool}(hu:P.underlying t=some .bool):ai P (Op.equalIn (d+1) t (.bool a) (.bool b)) (a == b):=by
 rw [Op.equalIn]
 exact ai.bL (ai.underlying hu) (ai.bF _)
inductive JG (P:Program) (d:Nat) (elem:TypeId) (n:Nat) (xs ys:Array Value):List Nat→Bool→Prop
 | nil:JG P d elem n xs ys [] true
 | cons {i:Nat} {rest:List Nat} {a b:Value} {r r':Bool}:ai P (part elem xs (i * n)) a→ai P (part elem ys (i * n)) b→ai P (Op.equalIn d elem a b) r→JG P d elem n xs ys rest r'→JG P d elem n xs ys (i::rest) (r && r')
theorem aNK{elem:TypeId}{n:Nat}{is:List Nat}{r:Bool}(h:JG P d elem n xs ys is r) :
  ai P (forIn is ((none:Option Bool),()) λ i (_:Option Bool × Unit)=>do
      let a ← part elem xs (i * n)
      let b ← part elem ys (i * n)
      let q ← Op.equalIn d elem a b
      if (!q)=true then pure (ForInStep.done (some false,())) else pure (ForInStep.yield (none,()))) (s9 r):=by
 induction h with
 | nil=>rw [List.forIn_nil]; exact ai.bF _
 | @cons i rest a b r r' ha hb hq _ ih =>
  rw [List.forIn_cons]
  simp only [bind_assoc]
  refine ai.bL ha (ai.bL hb (ai.bL hq ?_))
  cases r with
  | false=>simp only [Bool.not_false,if_true,pure_bind,Bool.false_and]; exact ai.bF _
  | true =>
   simp only [Bool.not_true,l6,if_false,pure_bind,Bool.true_and]
   exact ih
theorem aNH{n len:Nat}{t elem:TypeId}{r:Bool}(hu:P.underlying t=some (.array len elem))(hs:ai P (sizeOf elem) n)(h:JG P d elem n xs ys (List.range len) r):ai P (Op.equalIn (d+1) t (.agg xs) (.agg ys)) r:=by
 rw [Op.equalIn]
 refine ai.bL (ai.underlying hu) ?_
 dsimp only
 refine ai.bL hs ?_
 rw [Std.Legacy.Range.forIn_eq_forIn_range']
 simp only [Std.Legacy.Range.size,Nat.sub_zero,Nat.add_sub_cancel,Nat.div_one]
 rw [← List.range_eq_range']
 refine ai.bL (aNK h) ?_
 cases r <;> exact ai.bF _
end
def iL(s:ByteArray):List Int:=s.data.toList.map λ b=>(b.toNat:Int)
def wG(s:ByteArray)(i:Int):Option Int:=idx (iL s) i
section
variable {P:Program} {B:Base} {main:Bool} {ab:Jd P B main} {c:Ctx} {R:az} {H H':ah} {st st':St} {o:Oper} {C:az→ah→St→Prop} {k:List Item}
theorem Ox.Q6{x y:Operand}{t:TypeId}{s:ByteArray}{kd:IntKind}{i z:Int}(an:o.op = .index t x y)(hx:bl st x=some (.string s))(hy:bl st y=some (.int kd i))(ht:P.underlying t=some .string)(hz:wG s i=some z)
  (hd:cx o.dst c.n) (hs:aB (cB o.dst (.int .u8 z) st) st') (h:C R H st'):bc P B c o R H st C :=
 Ox.mr (s:=λ ρ=>Instr.index t (ρ x) (ρ y)) (by rw [an]; rfl) hd (λ ρ=>by simp only [execOp,an]) (λ ρ bj=>by
  rw [bj x _ hx,bj y _ hy]
  obtain ⟨h1,h2,h3⟩:=vJ hz
  unfold iL at h3
  rw [List.getElem?_map] at h3
  obtain ⟨b,hb,rfl⟩:=Option.map_eq_some_iff.1 h3
  unfold Instr.index
  refine ai.bL (a:=(kd,i)) (ai.bF _) (ai.bL (ai.underlying ht) ?_)
  have e:(if 0≤i then s[i.toNat]? else none)=some b:=by
   rw [if_pos h1]
   have gP:s.data[i.toNat]? = some b:=by simpa using hb
   rw [← gP]
   rfl
  simp only [e]
  exact ai.bF _) hs h
def acZ(P:Program)(t:TypeId)(z:Array Value):Prop:=jF P t z∧∃ n e m,P.underlying t=some (.array n e)∧ai P (sizeOf e) m
theorem Ox.OJ{t:TypeId}{z:Array Value}(an:o.op = .build t #[])(ht:acZ P t z)
  (hd:cx o.dst c.n) (hs:aB (cB o.dst (.agg z) st) st') (h:C R H st'):bc P B c o R H st C :=
 Ox.mr (s:=λ _=>Instr.build t #[]) (by rw [an]; rfl) hd (λ ρ=>by simp [execOp,an]) (λ ρ bj=>by
  obtain ⟨⟨z0,hz,rfl⟩,n,e,m,h1,h2⟩:=ht
  unfold Instr.build
  exact ai.bL hz (ai.bL (ai.underlying h1) (ai.bL h2 (ai.bF _)))) hs h
def GK(P:Program)(t _:Nat)(v:Value)(len l h:Int)(v':Value):Prop :=
 ∀ (ρ:Operand→Value) (st:St) (x:Operand) (lo hi:Option Operand),Knows st ρ→ρ x=v→Mu st lo=some l→Lt st len.toNat hi=some h→ai P (Instr.sliceAt t (ρ x) (lo.map ρ) (hi.map ρ) none) v'
theorem dJ.cut{α:Type}{K:cQ α}{k t e:Nat}{xs ys:List α}{v:Value}{l h:Int}{H0:ah}(hS:dJ K k R H0 v xs)(ht:nU P t e k)(hc:lH xs l h=some ys):∃ v',dJ K k R H0 v' ys∧GK P t k v (xs.length:Int) l h v':=by
 obtain ⟨h1,h2,h3,rfl⟩:=Kq hc
 obtain ⟨A,cap,es,rfl,hE,y9,hm⟩:=hS
 refine ⟨(.slice (if cap=l.toNat then A else A.map (·.add (l.toNat * k))) (h.toNat - l.toNat) (cap - l.toNat)),?_,?_⟩
 ·have BN:((xs.take h.toNat).drop l.toNat).length=h.toNat - l.toNat:=by
   simp only [List.length_drop,nS]
   omega
  refine ⟨(if cap=l.toNat then A else A.map (·.add (l.toNat * k))),cap - l.toNat,(es.take (h.toNat * k)).drop (l.toNat * k),by rw [BN],hE.take.drop,by rw [BN]; omega,λ da=>?_⟩
  have bV:l.toNat < h.toNat:=by
   apply Classical.byContradiction
   intro hn
   apply da
   apply List.eq_nil_of_length_eq_zero
   simp only [List.length_drop,nS]
   omega
  obtain ⟨b,o',rfl,g2⟩:=hm (by rintro rfl; simp at h3; omega)
  refine ⟨b,o'+l.toNat * k,?_,λ j w hj=>?_⟩
  ·rw [if_neg (by omega)]; simp [tJ]
  ·rw [List.getElem?_drop,List.getElem?_take] at hj
   split at hj
   ·have:=g2 _ _ hj
    simpa [Nat.add_assoc] using this
   ·cases hj
 ·intro ρ st x lo hi bj hx hl hh
  rw [eH] at hh
  rw [hx]
  unfold Instr.sliceAt
  refine ai.bL (ai.underlying ht.1) ?_
  unfold Instr.slice
  refine ai.bL (ai.underlying ht.1) (ai.bL (SU bj hl hh ⟨h1,h2,h3⟩ y9) (ai.bL ht.2 (ai.bF _)))
theorem aa.cut{α:Type}{K:cQ α}{k t e:Nat}{xs ys:List α}{v:Value}{l h:Int}(hS:aa K k R v xs)(ht:nU P t e k)(hc:lH xs l h=some ys):∃ v',aa K k R v' ys∧GK P t k v (xs.length:Int) l h v':=by
 obtain ⟨h1,h2,h3,rfl⟩:=Kq hc
 obtain ⟨A,cap,es,rfl,hE,y9,hm⟩:=hS
 refine ⟨(.slice (if cap=l.toNat then A else A.map (·.add (l.toNat * k))) (h.toNat - l.toNat) (cap - l.toNat)),?_,?_⟩
 ·have BN:((xs.take h.toNat).drop l.toNat).length=h.toNat - l.toNat:=by
   simp only [List.length_drop,nS]
   omega
  refine ⟨(if cap=l.toNat then A else A.map (·.add (l.toNat * k))),cap - l.toNat,(es.take (h.toNat * k)).drop (l.toNat * k),by rw [BN],hE.take.drop,by rw [BN]; omega,λ da=>?_⟩
  have bV:l.toNat < h.toNat:=by
   apply Classical.byContradiction
   intro hn
   apply da
   apply List.eq_nil_of_length_eq_zero
   simp only [List.length_drop,nS]
   omega
  obtain ⟨b,o',arr,e',fz,rfl,g2,g3⟩:=hm (by rintro rfl; simp at h3; omega)
  refine ⟨b,o'+l.toNat * k,arr,e',fz,?_,g2,λ j w hj=>?_⟩
  ·rw [if_neg (by omega)]; simp [tJ]
  ·rw [List.getElem?_drop,List.getElem?_take] at hj
   split at hj
   ·have:=g3 _ _ hj
    simpa [Nat.add_assoc] using this
   ·cases hj
 ·intro ρ st x lo hi bj hx hl hh
  rw [eH] at hh
  rw [hx]
  unfold Instr.sliceAt
  refine ai.bL (ai.underlying ht.1) ?_
  unfold Instr.slice
  refine ai.bL (ai.underlying ht.1) (ai.bL (SU bj hl hh ⟨h1,h2,h3⟩ y9) (ai.bL ht.2 (ai.bF _)))
theorem Ox.Kr{x:Operand}{t k:Nat}{lo hi:Option Operand}{v v':Value}{len l h:Int}(an:o.op = .slice t x lo hi none)(hx:bl st x=some v)(hl:Mu st lo=some l)(hh:Lt st len.toNat hi=some h)(hc:GK P t k v len l h v')(hd:cx o.dst c.n)
  (hs:aB (cB o.dst v' st) st') (hC:C R H st'):bc P B c o R H st C :=
 Ox.mr (s:=λ ρ=>Instr.sliceAt t (ρ x) (lo.map ρ) (hi.map ρ) none) (by rw [an]; rfl) hd (λ ρ=>by simp only [execOp,an]; rfl) (λ ρ bj=>hc ρ st x lo hi bj (bj x _ hx) hl hh) hs hC
theorem bD.iw{α:Type}{K:cQ α}{k t e:Nat}{v:Value}{xs:List α}{Hs:ah}{i:Int}{x:α}(h:bD K k e R v xs Hs)(ht:nU P t e k)(hi:idx xs i=some x) :
  ∃ b cs es,K R x es∧Hs=[(b,.cells cs e (0,0))]∧aT R Hs b (i.toNat * k) es∧(∀ (j:Nat) (w:Value),es[j]? = some w→cs[i.toNat * k+j]? = some w)∧yN P t v i b (i.toNat * k)∧es.length=k∧i.toNat * k+k≤cs.size ∧
   ∀ x' vk,K R x' vk→vk.length=k→bD K k e R v (xs.set i.toNat x') [(b,.cells (gz cs (i.toNat * k) vk) e (0,0))]:=by
 obtain ⟨h1,h2,h3⟩:=vJ hi
 rcases h with ⟨A,rfl,rfl,rfl⟩ | ⟨b,cap,cs,es,rfl,rfl,g3,g4,g5,g6⟩
 ·simp at h3
 obtain ⟨e1,f1,f2,f3⟩:=g5.at_ _ _ h3
 have bV:i.toNat < xs.length:=(iO.1 h3).1
 have gp:i.toNat * k+k≤xs.length * k:=by
  calc i.toNat * k+k=(i.toNat+1) * k:=by rw [Nat.add_mul,Nat.one_mul]
   _≤xs.length * k:=Nat.mul_le_mul_right k bV
 have pF:xs.length * k≤cs.size:=by rw [g3]; exact Nat.mul_le_mul_right k g4
 refine ⟨b,cs,e1,f1,rfl,λ j w hj=>⟨rfl,cs,e,(0,0),.inr (by simp),g6 _ _ (f3 j w hj)⟩,λ j w hj=>g6 _ _ (f3 j w hj),λ kd=>?_,f2,by omega,λ x' vk B4 hl'=>?_⟩
 ·have:=ab9 (P:=P) (b:=b) (m:=0) (cap:=cap) (kd:=kd) ht (j:=i.toNat) (len:=xs.length) bV
  rw [Int.toNat_of_nonneg h1] at this
  simpa using this
 ·refine .inr ⟨b,cap,_,(es.take (i.toNat * k))++(vk++es.drop (i.toNat * k+k)),by rw [List.length_set],rfl,by rw [Nb]; exact g3,by rw [List.length_set]; exact g4,?_,?_⟩
  ·have mE:=g5.len
   refine ⟨?_,λ j y hy=>?_⟩
   ·simp only [ns,nS,List.length_drop,List.length_set,hl',mE]
    omega
   ·rw [List.getElem?_set] at hy
    split at hy
    ·rename_i gE
     subst gE
     cases hy
     refine ⟨vk,B4,hl',λ a w hw=>?_⟩
     have ha:=(iO.1 hw).1
     rw [p9 (by simp only [nS]; omega)]
     simp only [nS,mE]
     rw [show i.toNat * k+a - min (i.toNat * k) (xs.length * k)=a by omega,uU ha]
     exact hw
    ·rename_i gE
     obtain ⟨e2,q1,q2,q3⟩:=g5.at_ _ _ hy
     refine ⟨e2,q1,q2,λ a w hw=>?_⟩
     have ha:=(iO.1 hw).1
     rw [q2] at ha
     have hold:=q3 a w hw
     rcases Nat.lt_or_ge j i.toNat with agN | vw
     ·have:j * k+k≤i.toNat * k:=by
       calc j * k+k=(j+1) * k:=by rw [Nat.add_mul,Nat.one_mul]
        _≤i.toNat * k:=Nat.mul_le_mul_right k agN
      rw [uU (by simp only [nS,mE]; omega),List.getElem?_take,if_pos (by omega)]
      exact hold
     ·have:i.toNat * k+k≤j * k:=by
       calc i.toNat * k+k=(i.toNat+1) * k:=by rw [Nat.add_mul,Nat.one_mul]
        _≤j * k:=Nat.mul_le_mul_right k (by omega)
      rw [p9 (by simp only [nS]; omega),p9 (by simp only [nS,mE,hl']; omega),List.getElem?_drop]
      simp only [nS,mE,hl']
      rw [show i.toNat * k+k+(j * k+a - min (i.toNat * k) (xs.length * k) - k)=j * k+a by omega]
      exact hold
  ·intro j w hj
   have mE:=g5.len
   rw [FQ vk cs (i.toNat * k) j (by rw [hl']; omega)]
   rw [List.getElem?_append] at hj
   simp only [nS,mE] at hj
   split at hj
   ·rename_i agN
    rw [List.getElem?_take] at hj
    split at hj
    ·rw [if_neg (by omega)]
     exact g6 _ _ hj
    ·cases hj
   ·rw [List.getElem?_append] at hj
    split at hj
    ·rename_i h5 h6
     rw [if_pos (by omega),← hj]
     congr 1
     omega
    ·rename_i h5 h6
     rw [hl'] at h6
     rw [if_neg (by rw [hl']; omega)]
     rw [List.getElem?_drop,hl'] at hj
     have:=g6 _ _ hj
     rwa [show i.toNat * k+k+(j - min (i.toNat * k) (xs.length * k) - k)=j by omega] at this
theorem abv:∀ (vs ws:List Value) (cs:Array Value) (o:Nat),gz cs o (vs++ws)=gz (gz cs o vs) (o+vs.length) ws
 | [],ws,cs,o=>by simp [gz]
 | v::vs,ws,cs,o=>by
  simp only [List.cons_append,gz,List.length_cons]
  rw [abv vs ws]
  congr 1
  omega
theorem abw:∀ (vs:List Value) (cs:Array Value) (o:Nat),(∀ j w,vs[j]? = some w→cs[o+j]? = some w)→gz cs o vs=cs
 | [],cs,o,_=>rfl
 | v::vs,cs,o,h=>by
  have h0:cs[o]? = some v:=h 0 v rfl
  have bV:=(Array.getElem?_eq_some_iff.1 h0).1
  have e:cs.setIfInBounds o v=cs:=by
   apply Array.ext_getElem?
   intro j
   by_cases hj:o=j
   ·subst hj; rw [uT bV,h0]
   ·rw [nq hj]
  simp only [gz,e]
  exact abw vs cs (o+1) λ j w hj=>by
   have:=h (j+1) w (by simpa using hj)
   rwa [show o+(j+1)=o+1+j by omega] at this
theorem Ox.iC{α:Type}{K:cQ α}{k e t b j n:Nat}{x y:Operand}{G:ah→ah}{v w:Value}{xs:List α}{i:Int}{x':α}{cs:Array Value}{pre mid post vs:List Value}(hG:l7 G)
  (an:o.op = .store t x y) (hx:bl st x=some (.pointer (some ⟨b,i.toNat * k+j,none⟩))) (hy:bl st y=some w) (hw:w.cells.toList=vs) (ht:ai P (sizeOf t) n) (hn:vs.length=n) (h1:∀ u∈vs,u.oneCell'=true)
  (hc:∀ (j:Nat) (w:Value),(pre++(mid++post))[j]? = some w→cs[i.toNat * k+j]? = some w) (hj:pre.length=j) (hm:mid.length=n) (hk:(pre++(mid++post)).length=k) (gp:i.toNat * k+k≤cs.size)
  (hO:∀ x' vk,K R x' vk→vk.length=k→bD K k e R v (xs.set i.toNat x') [(b,.cells (gz cs (i.toNat * k) vk) e (0,0))]) (hK:K R x' (pre++(vs++post)))
  (hd:o.dst=none) (LI:aB st st') (h:∀ cN,bD K k e R v (xs.set i.toNat x') cN→C R (G cN) st'):bc P B c o R (G [(b,.cells cs e (0,0))]) st C:=by
 have nE:gz cs (i.toNat * k+j) vs=gz cs (i.toNat * k) (pre++(vs++post)):=by
  rw [abv,abw pre cs _ (λ a u ha=>hc a u (by rw [uU (iO.1 ha).1]; exact ha)),abv,hj,hn]
  rw [abw post]
  intro a u ha
  have h2:=hc (j+n+a) u (by
   rw [p9 (by omega),p9 (by omega)]
   rw [show j+n+a - pre.length - mid.length=a by omega]
   exact ha)
  have bV:=(Array.getElem?_eq_some_iff.1 h2).1
  rw [FQ vs cs (i.toNat * k+j) _ (by rw [hn]; have:=hk; simp only [ns] at this; omega),if_neg (by omega)]
  rwa [show i.toNat * k+(j+n+a)=i.toNat * k+j+n+a by omega] at h2
 have hlen:(pre++(vs++post)).length=k:=by
  simp only [ns] at hk ⊢
  omega
 have Px:=hO x' _ hK hlen
 rw [← nE] at Px
 refine Ox.RG (s:=λ ρ=>Instr.storeAt t (ρ x) (ρ y)) (by rw [an]; rfl) hd (λ ρ=>by simp only [execOp,an]) LI (λ ρ bj=>?_)
 rw [bj x _ hx,bj y _ hy]
 simp only [Instr.storeAt,Instr.sureAddr]
 refine ai.fB (ai.bF _) ?_
 have aBA:w.cells.size=n:=by rw [← hn,← hw]; simp
 refine aO.storeVar (cs:=cs) (e:=e) ht aBA (by rw [hw]; exact h1) (by simp only [ns] at hk; omega) ?_ (h _ Px)
 rw [hw]
 exact hG.set
def Ha{α:Type}(xs ys:List α):List α:=ys.take xs.length++xs.drop ys.length
end
section
variable {P:Program} {B:Base} {main:Bool} {ab:Jd P B main} {c:Ctx} {R:az} {H:ah} {st:St} {k:List Item}
theorem aO.getLoop{l:Nat}{r:Loop}{K:Loop→az→ah→Prop}(h:(l,Obj.loop r)∈H)(hk:K r R H):aO P B R H (Instr.getLoop l) K:=by
 unfold Instr.getLoop
 exact aO.dO (aO.getObj rfl (.inr h) (aO.eF hk))
theorem fN.at_{b:Nat}{o o':Obj}{T:ah}:∀ {Hs:ah},fN (Hs++(b,o)::T) b o o' (Hs++(b,o')::T)
 | []=>.here
 | _::_=>.there fN.at_
def J1(ab:Jd P B main)(v:Value)(args:Array Value)(R:az)(H:ah)(Post:Value→az→ah→Prop):Prop :=
 ∃ l r,v = .func (.yield l) #[] #[]∧(l,Obj.loop r)∈H∧r.params.size=args.size ∧
  ∀ fr cs,(∀ w R' H',Post w R' H'→ab.J R' H' (aY (fr.finish w) cs)) →
   ab.J R H (aY (Frame.round l r.fn ((r.params.zip args).foldl (λ tmps (t,a)=>tmps.setIfInBounds t a) r.tmps) r.assign r.body .normal) (fr::cs))
theorem J1.mono{v:Value}{args:Array Value}{Post JV:Value→az→ah→Prop}(h:J1 ab v args R H Post)(hp:∀ w R' H',Post w R' H'→JV w R' H'):J1 ab v args R H JV:=by
 obtain ⟨l,r,h1,h2,h3,h4⟩:=h
 exact ⟨l,r,h1,h2,h3,λ fr cs hk=>h4 fr cs λ w R' H' hw=>hk w R' H' (hp _ _ _ hw)⟩
theorem aoi{fr:Frame}{cs:List Frame}{s:Sem Next}{w w':World}{l:Nat}{f:FuncId}{tmps:Array Value}{assign body:Code}(hk:fr.kind ≠ .early)(hr:s.run P w = .ok (.round l f tmps assign body) w') :
  stepG.apply P true fr cs none s w = .go (aY (Frame.round l f tmps assign body .normal) (fr::cs)) w' (seen P fr.fn (s.events P w #[])):=by
 have ed:(fr.kind == CallKind.early)=false:=by simpa using hk
 simp [stepG.apply,hr,aY,ed,GStep.after]
theorem At.akd{ops:Array Oper}{i:Nat}{rest:List Nat}{o:Oper}{ca:Call}{x:Operand}{v:Value}{vs:List Value}(ho:ops[i]? = some o)(hw:cY ops st o=some true)(hk:(c.kind == CallKind.early)=false)
  (an:o.op = .call ca) (hc:ca.callee = .value x) (hx:bl st x=some v) (ha:jG st ca.args.toList=some vs) (mD:cx o.dst c.n)
  (h:J1 ab v vs.toArray R H λ w R' H'=>∃ st',aB (cB o.dst w st) st'∧At ab c R' H' st' (.inRegion ops rest::k)) :
  At ab c R H st (.inRegion ops (i::rest)::k):=by
 intro tmps ht
 obtain ⟨l,r,rfl,hl,gp,hj⟩:=h
 have iy:=ht.knows c (.inRegion ops (i::rest)::k)
 have hd:nG o.op=false:=by rw [an]; rfl
 have hs:aO P B R H (execOp (aX c tmps (.inRegion ops (i::rest)::k)).eval o) λ nx R' H'=>nx = .round l r.fn ((r.params.zip vs.toArray).foldl (λ tmps (t,a)=>tmps.setIfInBounds t a) r.tmps) r.assign r.body∧R'=R∧H'=H:=by
  simp only [execOp,an,resolve,hc,iy x _ hx,Deferred.ofValue]
  have e:ca.args.map (aX c tmps (.inRegion ops (i::rest)::k)).eval=vs.toArray:=by apply Array.ext'; simpa using DG iy _ _ ha
  refine ai.fB (a:=⟨.fn (.yield l) #[],#[]++vs.toArray⟩) (by rw [e]; exact ai.bF _) ?_
  simp only [invoke,Instr.yield]
  refine aO.dO (aO.getLoop hl ?_)
  simp only [Array.empty_append,gp,ne_eq,kY,if_false]
  exact aO.eF ⟨rfl,rfl,rfl⟩
 refine ab.step rfl λ w rF=>?_
 obtain ⟨nx,w',R',H',h1,h2,h3,rfl,rfl,rfl⟩:=hs w rF
 refine ⟨_,w',seen P c.fn ((execOp (aX c tmps (.inRegion ops (i::rest)::k)).eval o).events P w #[]),R',H',?_,λ e he=>h2 e (mem_seen he),h3,hj (aX c tmps (.inRegion ops (i::rest)::k)) c.cs λ u cZ eI hp=>?_⟩
 ·rw [qS ho (lu ht hw) hd]
  exact aoi (by simpa [aX] using hk) h1
 ·obtain ⟨st',hs',kK⟩:=hp
  rw [ru ho]
  exact kK _ ((ht.put u mD).sub hs')
structure mP (ab:Jd P B main) (R:az) {α S:Type} (A:oB α) (v:Value) (y:α→S→Option (S × Bool)) (Inv:S→az→ah→Prop):Prop where
 fn:∃ l,v = .func (.yield l) #[] #[]
 mono:∀ {s:S} {R1 R2:az} {Hy:ah},aS R R1→aS R1 R2→Inv s R1 Hy→Inv s R2 Hy
 call:∀ (Hf:ah) {R':az} {Hy:ah} {s:S} {x:α} {va:Value} {z:S × Bool},aS R R'→Inv s R' Hy→A R' x va→y x s=some z →
  J1 ab v #[va] R' (Hf++Hy) λ w cZ eI=>aS R' cZ∧w = .bool z.2∧∃ AY,Inv z.1 cZ AY∧eI=Hf++AY
theorem mP.up{R':az}{α S:Type}{A:oB α}{v:Value}{y:α→S→Option (S × Bool)}{Inv:S→az→ah→Prop}(h:mP ab R A v y Inv)(hR:aS R R'):mP ab R' A v y Inv :=
 ⟨h.fn,λ h1 h2=>h.mono (hR.trans h1) h2,λ Hf=>λ h1=>h.call Hf (hR.trans h1)⟩
theorem mP.cells{α S:Type}{A:oB α}{v:Value}{y:α→S→Option (S × Bool)}{Inv:S→az→ah→Prop}(h:mP ab R A v y Inv):v.cells=#[v]:=by
 obtain ⟨l,rfl⟩:=h.fn; rfl
def ic{α S O:Type}(body:α→S→Option (S ⊕ O))(x:α):S ⊕ O→Option ((S ⊕ O) × Bool)
 | .inl s=>(body x s).map λ z=>(z,z.isLeft)
 | .inr _=>none
def Shape(I:az→ah→ah→Prop):Prop:=∀ R T H,I R T H→∃ Hs,H=Hs++T∧∀ R' T',aS R R'→I R' T' (Hs++T')
theorem aMK{l:Nat}{jump:Option Code}{r:Loop}{Hs T:ah}:aO P B R (Hs++(l,.loop r)::T) (Instr.endRound l jump) λ v R' H'=>v = .bool jump.isNone∧R'=R∧H'=Hs++(l,.loop { r with state:=if jump.isNone then .ready else .done,pending:=jump })::T:=by
 unfold Instr.endRound
 exact aO.dO (aO.getLoop (by simp) (aO.dO (aO.setObj rfl rfl fN.at_ (aO.eF ⟨rfl,rfl,rfl⟩))))
theorem aMJ{l:Nat}{r:Loop}{Hs T:ah}(hb:(r.state == .busy)=false):aO P B R (Hs++(l,.loop r)::T) (Instr.endLoop l) λ v R' H'=>v=r.pending∧R'=R∧H'=Hs++(l,.loop { r with state:=.exhausted })::T:=by
 unfold Instr.endLoop
 refine aO.dO (aO.getLoop (r:=r) (by simp) ?_)
 simp only [hb]
 exact aO.dO (aO.setObj rfl rfl fN.at_ (aO.eF ⟨rfl,rfl,rfl⟩))
theorem aMI{l:Nat}{r:Loop}{H':ah}(hs:fN H l (.loop r) (.loop { r with state:=.busy }) H')(hr:r.state = .ready):aO P B R H (do Instr.beginRound l; pure Next.skip) λ v cZ eI=>v = .skip∧cZ=R∧eI=H':=by
 unfold Instr.beginRound
 refine aO.dO (aO.dO (aO.getLoop hs.mem (aO.dO (aO.setObj rfl rfl hs ?_))))
 simp only [hr]
 exact aO.eF (aO.eF ⟨rfl,rfl,rfl⟩)
theorem At.beginRound{l:Nat}{r:Loop}{H':ah}(lb:c.ro=some l)(hk:(c.kind == CallKind.early)=false)(hs:fN H l (.loop r) (.loop { r with state:=.busy }) H')(hr:r.state = .ready)(h:At ab c R H' st k):At ab c R H st (.beginRound::k):=λ tmps ht=>by
 refine ab.step rfl λ w hw=>?_
 obtain ⟨v,w',R',eI,h1,h2,h3,rfl,rfl,rfl⟩:=aMI (P:=P) hs hr w hw
 refine ⟨aY (aX c tmps k) c.cs,w',seen P c.fn ((do Instr.beginRound l; pure Next.skip:Sem Next).events P w #[]),R',eI,?_,λ e he=>h2 e (mem_seen he),h3,h tmps ht⟩
 have e:=Uo (P:=P) (fr:=aX c tmps (.beginRound::k)) (cs:=c.cs) (by simpa [aX] using hk) h1
 simpa [stepG,stepG.exec,aY,aX,lb,Frame.finish] using e
def Leaves(todo:List Item)(jump:Option Code):Prop :=
 (todo=[]∧jump=none)∨(∃ k',todo = .code .ret::k'∧jump=some .ret)∨(∃ id k',todo = .code (.exit id)::k'∧exitTo id k'=none∧jump=some (.exit id))
theorem ahI{l f:Nat}{n:Nat}{cs:List Frame}{fr:Frame}{tmps:Array Value}{todo:List Item}{jump:Option Code}{r:Loop}{Hs T:ah}(hl:Leaves todo jump)
  (h:ab.J R (Hs++(l,.loop { r with state:=if jump.isNone then .ready else .done,pending:=jump })::T) (aY (fr.finish (.bool jump.isNone)) cs)) :
  ab.J R (Hs++(l,.loop r)::T) (aY (aX ⟨f,.normal,some l,n,[],fr::cs⟩ tmps todo) (fr::cs)):=by
 refine ab.step rfl λ w hw=>?_
 obtain ⟨v,w',R',H',h1,h2,h3,rfl,rfl,rfl⟩:=aMK (P:=P) (jump:=jump) w hw
 refine ⟨aY (fr.finish (.bool jump.isNone)) cs,w',seen P f ((Instr.endRound l jump).events P w #[]),R',_,?_,λ e he=>h2 e (mem_seen he),h3,h⟩
 rcases hl with ⟨rfl,rfl⟩ | ⟨k',rfl,rfl⟩ | ⟨id,k',rfl,ed,rfl⟩
 ·simp at h1; simp [stepG,stepG.exec,aX,h1,doReturn,GStep.after,aY]
 ·simp at h1; simp [stepG,stepG.exec,aX,h1,doReturn,GStep.after,aY]
 ·simp at h1; simp [stepG,stepG.exec,aX,h1,ed,doReturn,GStep.after,aY]
def vN(fn:FuncId)(tmps:Array Value)(t:Tmp)(assign body:Code)(d:Nat):Loop:={ state:=.ready,pending:=none,fn,tmps,params:=#[t],assign,body,defers:=d }
theorem abt{p:Nat × Obj}{Hf Hs D:ah}:List.Perm (Hs++p::(Hf++D)) (Hf++(Hs++p::D)):=by
 have h1:List.Perm (Hs++p::(Hf++D)) (p::(Hs++(Hf++D))):=List.perm_middle
 have h2:List.Perm (Hf++(Hs++p::D)) (p::(Hf++(Hs++D))):=by
  rw [← List.append_assoc,← List.append_assoc]
  exact List.perm_middle
 refine h1.trans (List.Perm.trans (List.Perm.cons _ ?_) h2.symm)
 rw [← List.append_assoc,← List.append_assoc]
 exact List.perm_append_comm.append_right D
section
variable {α S O:Type} {A:oB α} {body:α→S→Option (S ⊕ O)} {t:Tmp} {assign kC:Code}
 (I:S→az→ah→ah→Prop) (E:O→az→ah→ah→Prop) (jc:O→Code)
def RInv(R:az)(l:Nat)(r:Loop)(D:ah):S ⊕ O→az→ah→Prop
 | .inl s,R',Hy=>aS R R'∧I s R' ((l,.loop r)::D) Hy
 | .inr o,R',Hy=>aS R R'∧E o R' ((l,.loop { r with state:=.done,pending:=some (jc o) })::D) Hy
def adi(ab:Jd P B main)(c:Ctx)(R:az)(H:ah)(st:St)(A:oB α)(body:α→S→Option (S ⊕ O))(t:Tmp)(assign kC:Code):Prop :=
 ∀ (va:Value) (x:α) (s:S) (z:S ⊕ O) (R':az) (T H':ah) (l:Nat) (ld:Loop) (cs:List Frame),aS R R'→List.Sublist H T→A R' x va→I s R' ((l,.loop ld)::T) H'→ld.state = .ready→body x s=some z →
  (∀ s' cZ eI o8,z = .inl s'→aS R' cZ→I s' cZ ((l,.loop { ld with state:=.busy })::T) eI→At ab ⟨c.fn,.normal,some l,c.n,[],cs⟩ cZ eI o8 []) →
  (∀ o cZ eI o8 B9,z = .inr o→aS R' cZ→E o cZ ((l,.loop { ld with state:=.busy })::T) eI→Leaves (.code (jc o)::B9) (some (jc o))→At ab ⟨c.fn,.normal,some l,c.n,[],cs⟩ cZ eI o8 (.code (jc o)::B9)) →
  At ab ⟨c.fn,.normal,some l,c.n,[],cs⟩ R' H' ((t,va)::st) [.code assign,.beginRound,.code kC]
variable {I E jc}
theorem atE{D:ah}{l:Nat}{d:Nat}{tmps:Array Value}(vo:∀ s,Shape (I s))(DV:∀ o,Shape (E o))(ht:dh c.n st tmps)(hd:Nat.blt t c.n=true)(hH:List.Sublist H D)
  (hb:adi I E jc ab c R H st A body t assign kC) :
  mP ab R A (.func (.yield l) #[] #[]) (ic body) (RInv I E jc R l (vN c.fn tmps t assign kC d) D) where
 fn:=⟨l,rfl⟩
 mono:=by
  intro s R1 R2 Hy h1 h2 hI
  cases s with
  | inl s =>
   obtain ⟨hr,hI⟩:=hI
   obtain ⟨Hs,rfl,h⟩:=vo s _ _ _ hI
   exact ⟨hr.trans h2,h _ _ h2⟩
  | inr o =>
   obtain ⟨hr,hI⟩:=hI
   obtain ⟨Hs,rfl,h⟩:=DV o _ _ _ hI
   exact ⟨hr.trans h2,h _ _ h2⟩
 call:=by
  intro Hf R' Hy s x va z hR hI hA hy
  cases s with
  | inr o=>cases hy
  | inl s =>
   simp only [ic,Option.map_eq_some_iff] at hy
   obtain ⟨z',hz,rfl⟩:=hy
   obtain ⟨hr,hI⟩:=hI
   obtain ⟨Hs,rfl,bp⟩:=vo s _ _ _ hI
   refine ⟨l,vN c.fn tmps t assign kC d,rfl,by simp,rfl,λ fr cs hk=>?_⟩
   refine J.perm (H':=Hs++(l,.loop (vN c.fn tmps t assign kC d))::(Hf++D)) abt ?_
   have XX:dh c.n ((t,va)::st) (((vN c.fn tmps t assign kC d).params.zip #[va]).foldl (λ tmps (t,a)=>tmps.setIfInBounds t a) (vN c.fn tmps t assign kC d).tmps):=by
    have:=ht.put (dst:=some t) va hd
    simpa [vN,cB,gd] using this
   refine hb va x s z' R' (Hf++D) _ l (vN c.fn tmps t assign kC d) (fr::cs) hR (hH.trans (List.sublist_append_right _ _)) hA (bp R' _ (aS.refl _)) rfl hz (λ s' cZ eI o8 hz' tS as6=>?_) (λ o cZ eI o8 B9 hz' tS as5 hl=>?_) _ XX
   ·subst hz'
    obtain ⟨cN,rfl,Es⟩:=vo s' _ _ _ as6
    intro aZ _
    refine ahI (jump:=none) (.inl ⟨rfl,rfl⟩) ?_
    refine J.perm abt.symm ?_
    exact hk _ _ _ ⟨tS,rfl,_,⟨hR.trans tS,Es cZ _ (aS.refl _)⟩,rfl⟩
   ·subst hz'
    obtain ⟨cN,rfl,Es⟩:=DV o _ _ _ as5
    intro aZ _
    refine ahI (jump:=some (jc o)) hl ?_
    refine J.perm abt.symm ?_
    exact hk _ _ _ ⟨tS,rfl,_,⟨hR.trans tS,Es cZ _ (aS.refl _)⟩,rfl⟩
theorem aML{fn:FuncId}{tmps:Array Value}{ps:Array Tmp}{assign kC:Code}:aO P B R H (Instr.enterLoop fn tmps ps assign kC none) λ q R' H'=>R'=R∧∃ r,q.2=[⟨.collected r,#[]⟩]∧H'=(q.1,.loop ⟨.ready,none,fn,tmps,ps,assign,kC,r⟩)::(r,.deferred (some []))::H:=by
 unfold Instr.enterLoop
 refine aO.dO (aO.new λ r _ _=>aO.dO (aO.eF ?_))
 refine aO.dO (aO.new λ l _ _=>aO.eF ?_)
 exact ⟨rfl,r,rfl,rfl⟩
theorem At.aq0{x:Operand}{iI:FuncId}{first cap:Array Value}(hx:bl st x=some (.func (.func iI) first cap))(he:bq P iI)(hk:(c.kind == CallKind.early)=false){K:Nat × List Deferred→az→ah→Prop}
  (PT:∀ tmps,aO P B R H (Instr.enterLoop c.fn tmps #[t] assign kC c.ro) λ q R' H'=>R'=R∧∃ d Hm,H'=(q.1,.loop (vN c.fn tmps t assign kC d))::Hm∧K q R Hm)
  (h:∀ l mark d Hm tmps,dh c.n st tmps→K (l,mark) R Hm→ab.J R ((l,.loop (vN c.fn tmps t assign kC d))::Hm) (aY (Frame.enter P iI (first++#[.func (.yield l) #[] #[]]++cap) .normal) (aX ⟨c.fn,c.kind,c.ro,c.n,mark++c.defers,c.cs⟩ tmps (.inRangeFunc l::k)::c.cs))) :
  At ab c R H st (.code (.rangeFunc x #[t] assign kC)::k):=by
 intro tmps ht
 refine ab.step rfl λ w hw=>?_
 obtain ⟨⟨l,mark⟩,w',R',H',h1,h2,h3,rfl,d,Hm,rfl,hK⟩:=PT tmps w hw
 have iy:=ht.knows ⟨c.fn,c.kind,c.ro,c.n,mark++c.defers,c.cs⟩ (.inRangeFunc l::k)
 have hv:ai P (do let d ← resolve (aX ⟨c.fn,c.kind,c.ro,c.n,mark++c.defers,c.cs⟩ tmps (.inRangeFunc l::k)).eval { callee:=.value x,args:=#[.const (.func (.yield l) #[] #[])],argTypes:=#[] } 0; invoke d.target d.args) (.enter iI (first++#[.func (.yield l) #[] #[]]++cap)):=by
  obtain ⟨fn,e1,e2,e3⟩:=he.ex
  simp only [resolve,iy x _ hx,Deferred.ofValue]
  refine ai.bL (a:=⟨.fn (.func iI) cap,first++#[.func (.yield l) #[] #[]]⟩) (by simpa [Frame.eval] using ai.bF _) ?_
  simp only [invoke]
  exact F9 e1 e2 e3
 have hj:=h l mark d Hm tmps ht hK
 refine ⟨_,w',seen P c.fn ((Instr.enterLoop c.fn tmps #[t] assign kC c.ro).events P w #[]),R',_,?_,λ e Lm=>h2 e (mem_seen Lm),h3,hj⟩
 have LU:=hv w'
 simp only [aX] at LU
 have ed:(c.kind == CallKind.early)=false:=hk
 simp [stepG,stepG.exec,stepG.apply,aY,aX,h1,LU.1,LU.2,GStep.after,ed,seen]
theorem At.ae2{l:Nat}{r:Loop}{Hs T:ah}{pend:Option Code}(hb:(r.state == .busy)=false)(hp:r.pending=pend)(h:At ab c R (Hs++T) st ((pend.map Item.code).toList++k)):At ab c R (Hs++(l,.loop r)::T) st (.endRangeFunc l::k):=λ tmps ht=>by
 subst hp
 refine ab.step rfl λ w hw=>?_
 obtain ⟨v,w',R',H',h1,h2,h3,rfl,rfl,rfl⟩:=aMJ (P:=P) hb w hw
 refine ⟨aY (aX c tmps ((r.pending.map Item.code).toList++k)) c.cs,w',seen P c.fn ((Instr.endLoop l).events P w #[]),R',_,?_,λ e he=>h2 e (mem_seen he),h3,J.drop ?_ (h tmps ht)⟩
 ·simp [stepG,stepG.exec,aY,aX,h1,GStep.after]
 ·exact (List.sublist_cons_self _ _).append_left _
theorem asG{tmps:Array Value}{l:Nat}{w:Value}:(aX c tmps (.inRangeFunc l::k)).finish w=aX c tmps (.endRangeFunc l::k):=rfl
theorem At.ajA{ρ:Type}{uz:(α→(S ⊕ O)→Option ((S ⊕ O) × Bool))→(S ⊕ O)→Option (S ⊕ O)}{cont:S ⊕ O→Option ρ}{s0:S}{rr:ρ}{x:Operand}{iI:FuncId}{first cap:Array Value}{H1:ah}
  (hM:(uz (ic body) (.inl s0)).bind cont=some rr) (hx:bl st x=some (.func (.func iI) first cap)) (he:bq P iI) (hk:(c.kind == CallKind.early)=false) (lb:c.ro=none) (hd:Nat.blt t c.n=true)
  (I:S→az→ah→ah→Prop) (E:O→az→ah→ah→Prop) (jc:O→Code) (vo:∀ s,Shape (I s)) (DV:∀ o,Shape (E o))
  (LD:∀ v Inv Hy z,mP ab R A v (ic body) Inv→Inv (.inl s0) R Hy→uz (ic body) (.inl s0)=some z→ba ab iI (first++#[v]++cap) R Hy λ _ R' H'=>aS R R'∧Inv z R' H')
  (h0:I s0 R H H1)
  (ha:∀ r s R' H',aS R R'→I s R' ((r,.deferred (some []))::H) H'→cont (.inl s)=some rr→At ab ⟨c.fn,c.kind,none,c.n,⟨.collected r,#[]⟩::c.defers,c.cs⟩ R' H' st k)
  (hz:∀ r o R' H',aS R R'→E o R' ((r,.deferred (some []))::H) H'→cont (.inr o)=some rr→At ab ⟨c.fn,c.kind,none,c.n,⟨.collected r,#[]⟩::c.defers,c.cs⟩ R' H' st (.code (jc o)::k))
  (hb:adi I E jc ab c R H st A body t assign kC) :
  At ab c R H1 st (.code (.rangeFunc x #[t] assign kC)::k):=by
 obtain ⟨z,hm,hc⟩:=ag hM
 refine At.aq0 hx he hk (K:=λ q R' Hm=>∃ r,q.2=[⟨.collected r,#[]⟩]∧Hm=(r,.deferred (some []))::H1) (λ tmps=>?_) ?_
 ·rw [lb]
  exact aML.mono λ q R' H' ⟨h1,r,h2,h3⟩=>⟨h1,r,_,h3,r,h2,rfl⟩
 rintro l mark d Hm tmps ht ⟨r,Xy,rfl⟩
 have Xy:mark=[⟨.collected r,#[]⟩]:=Xy
 subst Xy
 obtain ⟨Hs,rfl,bp⟩:=vo s0 _ _ _ h0
 have avS:mP ab R A (.func (.yield l) #[] #[]) (ic body) (RInv I E jc R l (vN c.fn tmps t assign kC d) ((r,.deferred (some []))::H)):=atE vo DV ht hd (List.sublist_cons_self _ _) hb
 refine J.perm (H':=Hs++(l,.loop (vN c.fn tmps t assign kC d))::(r,.deferred (some []))::H) ?_ ?_
 ·exact List.perm_middle.trans (List.Perm.cons _ List.perm_middle)
 refine LD _ _ _ z avS ⟨aS.refl R,bp R _ (aS.refl R)⟩ hm _ _ λ v R' H' hv=>?_
 rw [asG]
 obtain ⟨hR,hI⟩:=hv
 cases z with
 | inl s =>
  obtain ⟨_,hI⟩:=hI
  obtain ⟨cN,rfl,Es⟩:=vo s _ _ _ hI
  rw [lb]
  exact At.ae2 (c:=⟨c.fn,c.kind,none,c.n,⟨.collected r,#[]⟩::c.defers,c.cs⟩) rfl rfl (ha r s R' _ hR (Es R' _ (aS.refl R')) hc) tmps ht
 | inr o =>
  obtain ⟨_,hI⟩:=hI
  obtain ⟨cN,rfl,Es⟩:=DV o _ _ _ hI
  rw [lb]
  exact At.ae2 (c:=⟨c.fn,c.kind,none,c.n,⟨.collected r,#[]⟩::c.defers,c.cs⟩) rfl rfl (hz r o R' _ hR (Es R' _ (aS.refl R')) hc) tmps ht
theorem At.aby{ρ:Type}{body:α→S→Option (S ⊕ Empty)}(uz:(α→(S ⊕ Empty)→Option ((S ⊕ Empty) × Bool))→(S ⊕ Empty)→Option (S ⊕ Empty)){f:S→Option ρ}{g:Empty→Option ρ}{s0:S}{rr:ρ}{x:Operand}{iI:FuncId}{first cap:Array Value}{H1:ah}
  (hM:(uz (ic body) (.inl s0)).bind (Sum.elim f g)=some rr) (hx:bl st x=some (.func (.func iI) first cap)) (he:bq P iI) (hk:(c.kind == CallKind.early)=false) (lb:c.ro=none) (hd:Nat.blt t c.n=true)
  (I:S→az→ah→ah→Prop) (vo:∀ s,Shape (I s))
  (LD:∀ v Inv Hy z,mP ab R A v (ic body) Inv→Inv (.inl s0) R Hy→uz (ic body) (.inl s0)=some z→ba ab iI (first++#[v]++cap) R Hy λ _ R' H'=>aS R R'∧Inv z R' H')
  (h0:I s0 R H H1)
  (ha:∀ r s R' H',aS R R'→I s R' ((r,.deferred (some []))::H) H'→f s=some rr→At ab ⟨c.fn,c.kind,none,c.n,⟨.collected r,#[]⟩::c.defers,c.cs⟩ R' H' st k)
  (hb:∀ (va:Value) (x:α) (s:S) (R':az) (T H':ah) (l:Nat) (ld:Loop) (cs:List Frame),aS R R'→List.Sublist H T→A R' x va→I s R' ((l,.loop ld)::T) H'→ld.state = .ready→∀ z,body x s=some z →
   (∀ s',z = .inl s'→∀ cZ eI o8,aS R' cZ→I s' cZ ((l,.loop { ld with state:=.busy })::T) eI→At ab ⟨c.fn,.normal,some l,c.n,[],cs⟩ cZ eI o8 []) →
   At ab ⟨c.fn,.normal,some l,c.n,[],cs⟩ R' H' ((t,va)::st) [.code assign,.beginRound,.code kC]) :
  At ab c R H1 st (.code (.rangeFunc x #[t] assign kC)::k) :=
 At.ajA (uz:=uz) hM hx he hk lb hd I (λ o=>o.elim) (λ o=>o.elim) vo (λ o=>o.elim) LD h0 ha (λ _ o=>o.elim)
  (λ va x s z R' T H' l ld cs h1 h2 h3 h4 h5 h6 h7 _=>hb va x s R' T H' l ld cs h1 h2 h3 h4 h5 z h6 λ s' hz cZ eI o8=>h7 s' cZ eI o8 hz)
theorem At.abz{ρ:Type}(uz:(α→(S ⊕ O)→Option ((S ⊕ O) × Bool))→(S ⊕ O)→Option (S ⊕ O)){f:S→Option ρ}{g:O→Option ρ}{s0:S}{rr:ρ}{x:Operand}{iI:FuncId}{first cap:Array Value}{H1:ah}(jc:Code)
  (hM:(uz (ic body) (.inl s0)).bind (Sum.elim f g)=some rr) (hx:bl st x=some (.func (.func iI) first cap)) (he:bq P iI) (hk:(c.kind == CallKind.early)=false) (lb:c.ro=none) (hd:Nat.blt t c.n=true)
  (I:S→az→ah→ah→Prop) (E:O→az→ah→ah→Prop) (vo:∀ s,Shape (I s)) (DV:∀ s,Shape (E s))
  (LD:∀ v Inv Hy z,mP ab R A v (ic body) Inv→Inv (.inl s0) R Hy→uz (ic body) (.inl s0)=some z→ba ab iI (first++#[v]++cap) R Hy λ _ R' H'=>aS R R'∧Inv z R' H')
  (h0:I s0 R H H1)
  (ha:∀ r s R' H',aS R R'→I s R' ((r,.deferred (some []))::H) H'→f s=some rr→At ab ⟨c.fn,c.kind,none,c.n,⟨.collected r,#[]⟩::c.defers,c.cs⟩ R' H' st k)
  (hz:∀ r o R' H',aS R R'→E o R' ((r,.deferred (some []))::H) H'→g o=some rr→At ab ⟨c.fn,c.kind,none,c.n,⟨.collected r,#[]⟩::c.defers,c.cs⟩ R' H' st (.code jc::k))
  (hb:∀ (va:Value) (x:α) (s:S) (R':az) (T H':ah) (l:Nat) (ld:Loop) (cs:List Frame),aS R R'→List.Sublist H T→A R' x va→I s R' ((l,.loop ld)::T) H'→ld.state = .ready→∀ z,body x s=some z →
   (∀ s',z = .inl s'→∀ cZ eI o8,aS R' cZ→I s' cZ ((l,.loop { ld with state:=.busy })::T) eI→At ab ⟨c.fn,.normal,some l,c.n,[],cs⟩ cZ eI o8 []) →
   (∀ o,z = .inr o→∀ cZ eI o8 B9,aS R' cZ→E o cZ ((l,.loop { ld with state:=.busy })::T) eI→Leaves (.code jc::B9) (some jc)→At ab ⟨c.fn,.normal,some l,c.n,[],cs⟩ cZ eI o8 (.code jc::B9)) →
   At ab ⟨c.fn,.normal,some l,c.n,[],cs⟩ R' H' ((t,va)::st) [.code assign,.beginRound,.code kC]) :
  At ab c R H1 st (.code (.rangeFunc x #[t] assign kC)::k) :=
 At.ajA (uz:=uz) hM hx he hk lb hd I E (λ _=>jc) vo DV LD h0 ha hz
  (λ va x s z R' T H' l ld cs h1 h2 h3 h4 h5 h6 h7 h8=>hb va x s R' T H' l ld cs h1 h2 h3 h4 h5 z h6 (λ s' hz cZ eI o8=>h7 s' cZ eI o8 hz) (λ o hz cZ eI o8 B9=>h8 o cZ eI o8 B9 hz))
theorem aMN{r:Nat}{H':ah}(hs:fN H r (.deferred (some [])) (.deferred none) H'):aO P B R H (Instr.takeDeferred r) λ v cZ eI=>v=[]∧cZ=R∧eI=H':=by
 unfold Instr.takeDeferred
 exact aO.dO (aO.getObj rfl (.inr hs.mem) (aO.dO (aO.setObj rfl rfl hs (aO.eF ⟨rfl,rfl,rfl⟩))))
theorem aMc{fr:Frame}{cs:List Frame}{f:FuncId}{n r:Nat}{H':ah}{tmps:Array Value}{todo:List Item}(hs:fN H r (.deferred (some [])) (.deferred none) H')
  (h:ab.J R H' (aY { (aX ⟨f,.normal,none,n,[],fr::cs⟩ tmps todo) with mode:=.returning } (fr::cs))) :
  ab.J R H (aY { (aX ⟨f,.normal,none,n,[⟨.collected r,#[]⟩],fr::cs⟩ tmps todo) with mode:=.returning } (fr::cs)):=by
 refine ab.step rfl λ w hw=>?_
 obtain ⟨v,w',R',H',h1,h2,h3,rfl,rfl,rfl⟩:=aMN (P:=P) hs w hw
 refine ⟨_,w',seen P f ((Instr.takeDeferred r).events P w #[]),R',_,?_,λ e he=>h2 e (mem_seen he),h3,h⟩
 simp [stepG,unwind,aY,aX,h1,GStep.after]
theorem aMb{fr:Frame}{cs:List Frame}{f:FuncId}{n:Nat}{fn:Func}{vs:List Value}{tmps:Array Value}{todo:List Item}(hf:P.funcs[f]? = some fn)(ht:dh n st tmps)(hr:qg P R H st fn.results.toList vs)(hj:ab.J R H (aY (fr.finish (iY vs)) cs)) :
  ab.J R H (aY { (aX ⟨f,.normal,none,n,[],fr::cs⟩ tmps todo) with mode:=.returning } (fr::cs)):=by
 refine ab.step rfl λ w hw=>?_
 obtain ⟨v,w',R',H',h1,h2,h3,rfl,rfl,rfl⟩:=Sv (P:=P) ht hr w hw
 refine ⟨aY (fr.finish (iY vs)) cs,w',seen P f ((results fn tmps).events P w #[]),R',H',?_,λ e he=>h2 e (mem_seen he),h3,hj⟩
 simp [stepG,unwind,doReturn,aY,aX,hf,h1,GStep.after]
theorem At.Ai{fr:Frame}{cs:List Frame}{f:FuncId}{n r:Nat}{H':ah}{fn:Func}{vs:List Value}(hs:fN H r (.deferred (some [])) (.deferred none) H')(hf:P.funcs[f]? = some fn)(hr:qg P R H' st fn.results.toList vs)(hj:ab.J R H' (aY (fr.finish (iY vs)) cs)) :
  At ab ⟨f,.normal,none,n,[⟨.collected r,#[]⟩],fr::cs⟩ R H st (.code .ret::k):=λ tmps ht=>by
 refine Jd.ctl (g':=aY { (aX ⟨f,.normal,none,n,[⟨.collected r,#[]⟩],fr::cs⟩ tmps (.code .ret::k)) with mode:=.returning } (fr::cs)) rfl (λ w=>by simp [stepG,stepG.exec,aY,aX]) ?_
 exact aMc hs (aMb hf ht hr hj)
end
theorem ba.hole{f:FuncId}{args:Array Value}{G:ah→ah}{Hs:ah}(hG:l7 G){Q:Value→az→ah→Prop}(h:ba ab f args R (Hs++G []) λ v R' H'=>∃ cN,Q v R' cN∧H'=cN++G []) :
  ba ab f args R (G Hs) λ v R' H'=>∃ cN,Q v R' cN∧H'=G cN:=by
 obtain ⟨A,D,hG⟩:=hG
 have key:∀ X:ah,List.Perm (X++G []) (G X):=λ X=>by
  rw [hG,hG,List.nil_append,← List.append_assoc,← List.append_assoc]
  exact List.perm_append_comm.append_right D
 intro fr cs hk
 refine J.perm (key Hs) (h fr cs λ v R' H' hv=>?_)
 obtain ⟨cN,hq,rfl⟩:=hv
 exact J.perm (key cN).symm (hk v R' _ ⟨cN,hq,rfl⟩)
theorem Ox.xk{x y:Operand}{t u e:TypeId}{o:Oper}{C:az→ah→St→Prop}{A:Option Addr}{n cap:Nat}{b:Bool}{st':St}(an:o.op = .binOp .eql t x y u)(hx:bl st x=some (.slice A n cap))(hy:bl st y=some (.slice none 0 0))(ht:P.underlying t=some (.slice e))(hb:A.isNone=b)
  (hd:cx o.dst c.n) (hs:aB (cB o.dst (.bool b) st) st') (h:C R H st'):bc P B c o R H st C :=
 Ox.mr (s:=λ ρ=>do eqGuard .eql t x y (ρ x) (ρ y); binOp .eql t (ρ x) (ρ y)) (by rw [an]; rfl) hd (λ ρ=>by simp only [execOp,an]) (λ ρ bj=>by
  rw [bj x _ hx,bj y _ hy]
  refine ai.bL (a:=()) (ai.bF _) ?_
  simp only [binOp]
  refine ai.bL (a:=b) ?_ (ai.bF _)
  unfold Op.equal Op.maxDepth Op.equalIn
  refine ai.bL (ai.underlying ht) ?_
  cases A with
  | none=>subst hb; exact ai.bF _
  | some a=>subst hb; exact ai.bF _) hs h
theorem dJ.M3{α:Type}{K:cQ α}{k:Nat}{v:Value}{xs:List α}(h:dJ K k R H v xs):(∃ cap,v = .slice none 0 cap∧xs=[])∨∃ a n cap,v = .slice (some a) n cap:=by
 obtain ⟨A,cap,es,rfl,h2,h3,h4⟩:=h
 cases A with
 | some a=>exact .inr ⟨a,_,cap,rfl⟩
 | none =>
  cases xs with
  | nil=>exact .inl ⟨cap,rfl,rfl⟩
  | cons x xs =>
   obtain ⟨b,o,g,_⟩:=h4 (by simp)
   cases g
theorem Ox.EP{x y:Operand}{t e len:Nat}{cs:Array Value}{v:Value}{kd:IntKind}{i:Int}{o:Oper}{C:az→ah→St→Prop}{st':St}(an:o.op = .index t x y)(hx:bl st x=some (.agg cs))(hy:bl st y=some (.int kd i))(ht:w6 P t len e 1)(he:ai P (isAgg e) false)(hi:0≤i∧i < len)(hv:cs[i.toNat * 1]? = some v)
  (hd:cx o.dst c.n) (hs:aB (cB o.dst v st) st') (h:C R H st'):bc P B c o R H st C :=
 Ox.mr (s:=λ ρ=>Instr.index t (ρ x) (ρ y)) (by rw [an]; rfl) hd (λ ρ=>by simp only [execOp,an]) (λ ρ bj=>by
  rw [bj x _ hx,bj y _ hy]
  unfold Instr.index
  refine ai.bL (a:=(kd,i)) (ai.bF _) (ai.bL (ai.underlying ht.1) ?_)
  simp only [hi,and_self,if_true]
  refine ai.bL ht.2 ?_
  unfold part
  refine ai.bL he ?_
  simp only [hv]
  exact ai.bF _) hs h
theorem At.rv{todo:List Item}{b:Nat}{cs:Array Value}{e:TypeId}{fz:Nat × Nat}(G:ah→ah)(hG:l7 G){H2:ah}(h2:G []=H2)(h:∀ R',aS R R'→aT R' [] b 0 cs.toList→At ab c R' H2 st todo):At ab c R (G [(b,.cells cs e fz)]) st todo:=by
 obtain ⟨A,D,hG⟩:=hG
 refine At.perm (H':=(b,.cells cs e fz)::(A++D)) ?_ (At.freeze λ R' hR hb=>?_)
 ·rw [hG]; exact List.perm_middle.symm
 ·have e2:A++D=H2:=by rw [← h2,hG]; rfl
  rw [e2]
  exact h R' hR (aT.known (n:=cs.toList.length) hb (by rw [List.drop_zero,List.take_length]))
def DC(ab:Jd P B main)(R:az){α S:Type}(A:oB α)(v:Value)(q:(α→S→Option (S × Bool))→S→Option S):Prop :=
 ∃ iI first cap,v = .func (.func iI) first cap∧bq P iI∧∀ R',aS R R'→∀ (w:Value) (y:α→S→Option (S × Bool)) (Inv:S→az→ah→Prop) (Hy:ah) (s z:S),mP ab R' A w y Inv→Inv s R' Hy→q y s=some z →
  ba ab iI (first++#[w]++cap) R' Hy λ _ cZ H'=>aS R' cZ∧Inv z cZ H'
theorem DC.mono{R':az}{α S:Type}{A:oB α}{v:Value}{q:(α→S→Option (S × Bool))→S→Option S}(h:DC ab R A v q)(hR:aS R R'):DC ab R' A v q:=by
 obtain ⟨iI,first,cap,h1,h2,h3⟩:=h
 exact ⟨iI,first,cap,h1,h2,λ cZ KJ=>h3 cZ (hR.trans KJ)⟩
theorem mP.frame{α S:Type}{A:oB α}{v:Value}{y:α→S→Option (S × Bool)}{Inv:S→az→ah→Prop}(h:mP ab R A v y Inv)(Hf:ah):mP ab R A v y λ s R' H'=>∃ Hy,Inv s R' Hy∧H'=Hf++Hy where
 fn:=h.fn
 mono:=λ h1 h2 ⟨Hy,hi,e⟩=>⟨Hy,h.mono h1 h2 hi,e⟩
 call:=by
  intro H2 R' Hy s x va z hR hI hA hy
  obtain ⟨Hy,hI,rfl⟩:=hI
  have:=h.call (H2++Hf) hR hI hA hy
  rw [List.append_assoc] at this
  refine this.mono λ w cZ eI ⟨h1,h2,AY,h3,h4⟩=>⟨h1,h2,Hf++AY,⟨AY,h3,rfl⟩,by rw [h4,List.append_assoc]⟩
theorem Ox.nilCheck{x:Operand}{a:Addr}{o:Oper}{C:az→ah→St→Prop}{st':St}(an:o.op = .nilCheck x)(hx:bl st x=some (.pointer (some a)))(hd:cx o.dst c.n)
  (hs:aB (cB o.dst (.pointer (some a)) st) st') (h:C R H st'):bc P B c o R H st C :=
 Ox.val (by rw [an]; rfl) hd (λ ρ bj=>by simp only [execOp,an,bj x _ hx]; exact ai.bF _) hs h
def many(a:ah):List (Nat × ah)→Nat→ah
 | [],_=>a
 | (q,l)::r,j=>if j=q then l else many a r j
section
variable {a N:ah} {ex:List (Nat × ah)} {rem D:List Nat} {i q:Nat} {l H':ah}
theorem bE(ha:∀ p∈N,p∈a):∀ j∈rem,j≠i→j ∉ D→∀ p∈N,p∈many a [] j:=λ _ _ _ _ p hp=>ha p hp
theorem aR(hd:(D.contains q || q == i || !rem.contains q)=true)(h:∀ j∈rem,j≠i→j ∉ D→∀ p∈N,p∈many a ex j):∀ j∈rem,j≠i→j ∉ D→∀ p∈N,p∈many a ((q,l)::ex) j:=by
 intro j hj gE sH p hp
 unfold many
 split
 ·subst_vars
  simp only [Bool.or_eq_true,Bool.not_eq_true',List.contains_iff_mem,beq_iff_eq] at hd
  rcases hd with (x | x) | x
  ·exact absurd x sH
  ·exact absurd x gE
  ·have:rem.contains j=true:=List.contains_iff_mem.2 hj
   rw [this] at x; cases x
 ·exact h j hj gE sH p hp
theorem aiH(hl:∀ p∈N,p∈l)(h:∀ j∈rem,j≠i→j ∉ D→∀ p∈N,p∈many a ex j):∀ j∈rem,j≠i→j ∉ D→∀ p∈N,p∈many a ((q,l)::ex) j:=by
 intro j hj gE sH p hp
 unfold many
 split
 ·exact hl p hp
 ·exact h j hj gE sH p hp
theorem df(he:many a ex i=l)(h:∀ p∈l,p∈H'):∀ p∈many a ex i,p∈H→p∈H':=by
 rw [he]; exact λ p hp _=>h p hp
end
end
def gx(p:Int):Value:=.int .i64 p
theorem Q5{p p':Int}(h:gx p=gx p'):p=p':=by
 simpa [gx] using h
def nh(m:Int→Int)(p z:Int):Int→Int:=λ a=>if a=p then z else m a
structure AV (es:List MapEntry) (m:Int→Int) (clock:Nat):Prop where
 O7:∀ e∈es,∃ p,e.key=gx p∧e.val = .int .i64 (m p)
 zero:∀ p,(∀ e∈es,e.key≠gx p)→m p=0
 keys:∀ (i j:Nat) (a b:MapEntry),es[i]? = some a→es[j]? = some b→a.key=b.key→i=j
 old:∀ e∈es,e.born < clock
 ad2:∀ (i j:Nat) (a b:MapEntry),es[i]? = some a→es[j]? = some b→a.born=b.born→i=j
def Dv(v:Value)(m:Int→Int)(Hs:ah):Prop:=∃ b es clock,v = .map (some b)∧Hs=[(b,.map es clock)]∧AV es.toList m clock
structure Oi (P:Program) (t kt et:TypeId):Prop where
 ty:P.underlying t=some (.map kt et)
 key:P.underlying kt=some (.int .i64)
 iR:∀ (e:Bool) (a:Int),ai P (Instr.checkKey e 10000 kt (gx a)) ()
 zero:ai P (zeroValue et) (.int .i64 0)
section
variable {P:Program} {B:Base} {main:Bool} {ab:Jd P B main} {c:Ctx} {R:az} {H:ah} {st st':St} {o:Oper} {C:az→ah→St→Prop}
def alW(es:List MapEntry)(p:Int)(r:Option (Nat × Value)):Prop :=
 (r=none∧∀ e∈es,e.key≠gx p)∨∃ (i:Nat) (e:MapEntry),es[i]? = some e∧e.key=gx p∧r=some (i,e.val)
theorem aga(p:Int):∀ (es:List MapEntry) (i:Nat),(∀ e∈es,∃ p,e.key=gx p)→∃ r,Instr.findNow (.int .i64) (gx p) es i=some r∧((r=none∧∀ e∈es,e.key≠gx p)∨∃ (j:Nat) (e:MapEntry),es[j]? = some e∧e.key=gx p∧r=some (i+j,e.val))
 | [],i,h=>⟨none,rfl,.inl ⟨rfl,λ e he=>(by cases he)⟩⟩
 | e::es,i,h=>by
  obtain ⟨p',hk⟩:=h e (by simp)
  by_cases heq:p=p'
  ·subst heq
   refine ⟨some (i,e.val),?_,.inr ⟨0,e,rfl,hk,rfl⟩⟩
   unfold Instr.findNow
   rw [hk]
   simp [gx,Instr.sameNow]
  ·obtain ⟨r,hr,hc⟩:=aga p es (i+1) (λ e he=>h e (by simp [he]))
   refine ⟨r,?_,?_⟩
   ·unfold Instr.findNow
    rw [hk]
    simp only [gx] at hr ⊢
    have hb:(p == p')=false:=by simpa using heq
    simp [Instr.sameNow,hb,hr]
   ·rcases hc with ⟨rfl,hc⟩ | ⟨j,e',h1,h2,rfl⟩
    ·refine .inl ⟨rfl,λ x hx=>?_⟩
     rcases fy.1 hx with rfl | hx
     ·intro e2
      exact heq (Q5 (hk.symm.trans e2)).symm
     ·exact hc x hx
    ·exact .inr ⟨j+1,e',by simpa using h1,h2,by simp; omega⟩
theorem akz{t kt et:TypeId}(ht:Oi P t kt et)(p:Int){es:List MapEntry}{m:Int→Int}{cl:Nat}(h:AV es m cl):∃ r,ai P (Instr.findKey kt (gx p) es) r∧alW es p r:=by
 obtain ⟨r,hr,hc⟩:=aga p es 0 (λ e he=>let ⟨p,hk,_⟩:=h.O7 e he; ⟨p,hk⟩)
 refine ⟨r,?_,?_⟩
 ·unfold Instr.findKey
  refine ai.bL (ai.underlying ht.key) ?_
  rw [hr]
  exact ai.bF _
 ·rcases hc with hc | ⟨j,e',h1,h2,h3⟩
  ·exact .inl hc
  ·exact .inr ⟨j,e',h1,h2,by simpa using h3⟩
theorem Ox.aKg{t:TypeId}(an:o.op = .makeMap t none)(hd:cx o.dst c.n)
  (hC:∀ v Hs,Dv v (λ _=>0) Hs→∃ st',aB (cB o.dst v st) st'∧C R (Hs++H) st'):bc P B c o R H st C :=
 Ox.mem (s:=λ ρ=>Instr.makeMap t none) (by rw [an]; rfl) hd (λ ρ=>by simp only [execOp,an]; rfl) (λ ρ bj=>by
  unfold Instr.makeMap
  refine aO.dO (aO.new λ b _ _=>aO.eF ?_)
  exact hC (.map (some b)) [(b,.map #[] 0)] ⟨b,#[],0,rfl,rfl,⟨λ e he=>(by cases he),λ _ _=>rfl,λ i j a b ha=>(by simp at ha),λ e he=>(by cases he),λ i j a b ha=>(by simp at ha)⟩⟩)
theorem Ox.ahP{x y:Operand}{t kt et:TypeId}{v:Value}{m:Int→Int}{p:Int}{Hs:ah}(an:o.op = .lookup t x y false)(hx:bl st x=some v)(hy:bl st y=some (gx p))(ht:Oi P t kt et)(hm:Dv v m Hs)(hH:∀ q∈Hs,q∈H)
  (hd:cx o.dst c.n) (hs:aB (cB o.dst (.int .i64 (m p)) st) st') (h:C R H st'):bc P B c o R H st C :=
 Ox.mem (s:=λ ρ=>Instr.lookup t (ρ x) (ρ y) false) (by rw [an]; rfl) hd (λ ρ=>by simp only [execOp,an]) (λ ρ bj=>by
  rw [bj x _ hx,bj y _ hy]
  unfold Instr.lookup
  refine ai.fB (ai.underlying ht.ty) ?_
  obtain ⟨b,es,cl,rfl,rfl,he⟩:=hm
  refine aO.dO (aO.getObj rfl (.inr (hH (b,.map es cl) (by simp))) ?_)
  refine aO.dO (aO.eF ?_)
  obtain ⟨r,hr,hf⟩:=akz ht p he
  refine ai.fB (ht.iR _ p) (ai.fB hr ?_)
  rcases hf with ⟨rfl,hn⟩ | ⟨i,e,h1,h2,rfl⟩
  ·refine ai.fB ht.zero (aO.dO (aO.eF (aO.eF ?_)))
   rw [he.zero p hn] at hs
   exact ⟨st',hs,h⟩
  ·obtain ⟨p',hk,hv⟩:=he.O7 e (List.mem_of_getElem? h1)
   obtain rfl:=Q5 (hk.symm.trans h2)
   rw [hv]
   exact aO.dO (aO.eF (aO.eF ⟨st',hs,h⟩)))
theorem aMH(p:Int):Instr.sameBits 10000 (gx p) (gx p)=true:=by
 simp [Instr.sameBits,gx]
theorem AV.push{es:Array MapEntry}{m:Int→Int}{cl:Nat}{p z:Int}(h:AV es.toList m cl)(hn:∀ e∈es.toList,e.key≠gx p) :
  AV (es.push { key:=gx p,val:=.int .i64 z,born:=cl }).toList (nh m p z) (cl+1):=by
 rw [Array.toList_push]
 refine ⟨λ e he=>?_,λ p' da=>?_,λ i j a b ha hb bJ=>?_,λ e he=>?_,λ i j a b ha hb bJ=>?_⟩
 ·rcases List.mem_append.1 he with he | he
  ·obtain ⟨p',h1,h2⟩:=h.O7 e he
   refine ⟨p',h1,?_⟩
   unfold nh
   rw [if_neg (λ e2=>hn e he (by rw [h1,e2])),h2]
  ·rcases List.mem_singleton.1 he with rfl
   exact ⟨p,rfl,by simp [nh]⟩
 ·have h1:=h.zero p' λ e he=>da e (List.mem_append.2 (.inl he))
  unfold nh
  rw [if_neg,h1]
  rintro rfl
  exact da { key:=gx p',val:=.int .i64 z,born:=cl } (List.mem_append.2 (.inr (by simp))) rfl
 ·rw [List.getElem?_append] at ha hb
  split at ha <;> split at hb
  ·exact h.keys i j a b ha hb bJ
  ·have:b={ key:=gx p,val:=.int .i64 z,born:=cl }:=by
    have:=List.mem_of_getElem? hb; simpa using this
   subst this
   exact absurd bJ (hn a (List.mem_of_getElem? ha))
  ·have:a={ key:=gx p,val:=.int .i64 z,born:=cl }:=by
    have:=List.mem_of_getElem? ha; simpa using this
   subst this
   exact absurd bJ.symm (hn b (List.mem_of_getElem? hb))
  ·have h1:=(iO.1 ha).1
   have h2:=(iO.1 hb).1
   simp only [List.length_singleton,Array.length_toList] at *
   omega
 ·rcases List.mem_append.1 he with he | he
  ·have:=h.old e he; omega
  ·rcases List.mem_singleton.1 he with rfl
   exact Nat.lt_succ_self _
 ·rw [List.getElem?_append] at ha hb
  split at ha <;> split at hb
  ·exact h.ad2 i j a b ha hb bJ
  ·have:b={ key:=gx p,val:=.int .i64 z,born:=cl }:=by
    have:=List.mem_of_getElem? hb; simpa using this
   subst this
   have:=h.old a (List.mem_of_getElem? ha)
   simp only at bJ
   omega
  ·have:a={ key:=gx p,val:=.int .i64 z,born:=cl }:=by
    have:=List.mem_of_getElem? ha; simpa using this
   subst this
   have:=h.old b (List.mem_of_getElem? hb)
   simp only at bJ
   omega
  ·have h1:=(iO.1 ha).1
   have h2:=(iO.1 hb).1
   simp only [List.length_singleton,Array.length_toList] at *
   omega
theorem KF{α:Type}{a:Array α}{j:Nat}{x:α}(h:a.toList[j]? = some x):a[j]? = some x:=by rwa [Array.getElem?_toList] at h
theorem AV.uM{es:Array MapEntry}{m:Int→Int}{cl i:Nat}{p z:Int}{e:MapEntry}(he:AV es.toList m cl)(hi:es[i]? = some e)(hk:e.key=gx p) :
  AV (es.modify i λ e=>{ e with key:=gx p,val:=.int .i64 z }).toList (nh m p z) cl:=by
 have vx:∀ j a,(es.modify i λ e=>{ e with key:=gx p,val:=.int .i64 z })[j]? = some a→∃ a0,es[j]? = some a0∧a.key=a0.key∧a.born=a0.born∧a.val=if i=j then .int .i64 z else a0.val:=by
  intro j a ha
  rw [Array.getElem?_modify] at ha
  by_cases hj:i=j
  ·subst hj
   rw [hi] at ha
   simp only [if_true,Option.map_some,j8] at ha
   subst ha
   exact ⟨e,hi,hk.symm,rfl,by simp⟩
  ·simp only [hj,if_false] at ha
   exact ⟨a,ha,rfl,rfl,by simp [hj]⟩
 have nD:∀ a∈(es.modify i λ e=>{ e with key:=gx p,val:=.int .i64 z }).toList,∃ j,(es.modify i λ e=>{ e with key:=gx p,val:=.int .i64 z })[j]? = some a:=λ a ha=>by
  obtain ⟨j,hj⟩:=List.mem_iff_getElem?.1 ha
  exact ⟨j,KF hj⟩
 refine ⟨λ a ha=>?_,λ p' da=>?_,λ j k a b' ha hb bJ=>?_,λ a ha=>?_,λ j k a b' ha hb bJ=>?_⟩
 ·obtain ⟨j,hj⟩:=nD a ha
  obtain ⟨a0,h1,h2,h3,h4⟩:=vx j a hj
  obtain ⟨p',ed,LU⟩:=he.O7 a0 (by rw [← Array.mem_def]; exact Array.mem_of_getElem? h1)
  refine ⟨p',h2.trans ed,?_⟩
  rw [h4]
  by_cases gg:i=j
  ·subst gg
   rw [hi] at h1; cases h1
   obtain rfl:=Q5 (hk.symm.trans ed)
   simp [nh]
  ·rw [if_neg gg,LU]
   unfold nh
   rw [if_neg]
   rintro rfl
   exact gg (he.keys i j e a0 (by simpa using hi) (by simpa using h1) (hk.trans ed.symm))
 ·unfold nh
  by_cases XL:p'=p
  ·subst XL
   exfalso
   obtain ⟨bV,vw⟩:=Array.getElem?_eq_some_iff.1 hi
   refine da { e with key:=gx p',val:=.int .i64 z } ?_ rfl
   rw [← Array.mem_def]
   exact Array.mem_of_getElem? (i:=i) (by rw [Array.getElem?_modify]; simp [hi])
  ·rw [if_neg XL]
   refine he.zero p' λ a ha=>?_
   obtain ⟨j,hj⟩:=List.mem_iff_getElem?.1 ha
   have BL:es[j]? = some a:=by simpa using hj
   by_cases gg:i=j
   ·subst gg
    rw [hi] at BL; cases BL
    intro e2
    exact XL (Q5 (hk.symm.trans e2)).symm
   ·exact da a (by rw [← Array.mem_def]; exact Array.mem_of_getElem? (i:=j) (by rw [Array.getElem?_modify]; simp [gg,BL]))
 ·obtain ⟨a0,h1,h2,_⟩:=vx j a (KF ha)
  obtain ⟨b0,k1,k2,_⟩:=vx k b' (KF hb)
  exact he.keys j k a0 b0 (by simpa using h1) (by simpa using k1) (h2.symm.trans (bJ.trans k2))
 ·obtain ⟨j,hj⟩:=nD a ha
  obtain ⟨a0,h1,h2,h3,h4⟩:=vx j a hj
  rw [h3]
  exact he.old a0 (by rw [← Array.mem_def]; exact Array.mem_of_getElem? h1)
 ·obtain ⟨a0,h1,_,h3,_⟩:=vx j a (KF ha)
  obtain ⟨b0,k1,_,k3,_⟩:=vx k b' (KF hb)
  exact he.ad2 j k a0 b0 (by simpa using h1) (by simpa using k1) (h3.symm.trans (bJ.trans k3))
theorem Ox.aKi{x y u:Operand}{t kt et:TypeId}{v:Value}{m:Int→Int}{p z:Int}{Hs:ah}(G:ah→ah)(an:o.op = .mapUpdate t x y u)(hx:bl st x=some v)(hy:bl st y=some (gx p))(hz:bl st u=some (.int .i64 z))(ht:Oi P t kt et)(hG:l7 G)(hm:Dv v m Hs)
  (hd:o.dst=none) (de:aB st st') (hC:∀ cN,Dv v (nh m p z) cN→C R (G cN) st'):bc P B c o R (G Hs) st C :=
 Ox.RG (s:=λ ρ=>Instr.mapUpdate t (ρ x) (ρ y) (ρ u)) (by rw [an]; rfl) hd (λ ρ=>by simp only [execOp,an]) de (λ ρ bj=>by
  rw [bj x _ hx,bj y _ hy,bj u _ hz]
  unfold Instr.mapUpdate
  refine ai.fB (ai.underlying ht.ty) ?_
  obtain ⟨b,es,cl,rfl,rfl,he⟩:=hm
  refine aO.dO (aO.getObj rfl (.inr (hG.set (o':=.map es cl)).mem) ?_)
  obtain ⟨r,hr,hf⟩:=akz ht p he
  refine ai.fB (ht.iR _ p) (ai.fB hr ?_)
  rcases hf with ⟨rfl,hn⟩ | ⟨i,e,h1,h2,rfl⟩
  ·exact aO.setObj rfl rfl hG.set (hC _ ⟨b,_,_,rfl,rfl,he.push hn⟩)
  ·have xo:es[i]? = some e:=by simpa using h1
   have de:ai P (Instr.keyThatStays (((es[i]?).map (·.key)).getD (gx p)) (gx p)) (gx p):=by
    rw [xo]
    simp only [Option.map_some,oz,h2,Instr.keyThatStays,aMH,if_true]
    exact ai.bF _
   exact ai.fB de (aO.setObj rfl rfl hG.set (hC _ ⟨b,_,_,rfl,rfl,he.uM xo h2⟩)))
end
def ib{α:Type}(m:Nat)(xs:List α)(i:Int):Option (List α):=if 0≤i∧i.toNat * m+m≤xs.length then some ((xs.drop (i.toNat * m)).take m) else none
def lS{α:Type}(m:Nat)(xs:List α)(i k:Int)(x:α):List α:=xs.set (i.toNat * m+k.toNat) x
def IY{α:Type}(m:Nat)(xs:List α)(i:Int)(r:List α):List α:=xs.take (i.toNat * m)++(r++xs.drop (i.toNat * m+m))
section
variable {α:Type} {m n:Nat} {xs r g:List α} {i k:Int} {x y:α}
theorem Ak(h:ib m xs i=some r):0≤i∧i.toNat * m+m≤xs.length∧r=(xs.drop (i.toNat * m)).take m:=by
 unfold ib at h
 split at h
 ·rename_i hc; cases h; exact ⟨hc.1,hc.2,rfl⟩
 ·cases h
theorem pU(h:ib m xs i=some r):r.length=m:=by
 obtain ⟨_,h2,rfl⟩:=Ak h
 simp only [nS,List.length_drop]
 omega
theorem IZ(h:xs.length=n):(lS m xs i k x).length=n:=by simpa [lS] using h
theorem aMO(h:ib m xs i=some r)(hx:xs.length=n)(hg:g.length=m):(IY m xs i g).length=n:=by
 obtain ⟨_,h2,_⟩:=Ak h
 simp only [IY,ns,nS,List.length_drop]
 omega
theorem xW{P:Program}{t e len K b o:Nat}(ht:w6 P t len e K)(hl:xs.length=len * m)(hm:0 < m)(h:ib m xs i=some r):yN P t (.pointer (some ⟨b,o,none⟩)) i b (o+i.toNat * K):=by
 obtain ⟨h1,h2,_⟩:=Ak h
 refine aho ht ⟨h1,?_⟩
 rw [hl] at h2
 have h3:(i.toNat+1) * m≤len * m:=by rw [Nat.add_mul]; omega
 have:=Nat.le_of_mul_le_mul_right h3 hm
 omega
theorem aMD{pre post:List Value}{f:α→Value}{p:Nat}(h:ib m xs i=some r)(hp:pre.length=p):∃ a c,pre++(xs.map f++post)=a++(r.map f++c)∧a.length=p+i.toNat * m:=by
 obtain ⟨_,h2,rfl⟩:=Ak h
 refine ⟨pre++(xs.take (i.toNat * m)).map f,(xs.drop (i.toNat * m+m)).map f++post,?_,by simp [hp]; omega⟩
 have e:xs=xs.take (i.toNat * m)++((xs.drop (i.toNat * m)).take m++xs.drop (i.toNat * m+m)):=by
  rw [← List.drop_drop,List.take_append_drop,List.take_append_drop]
 conv=>lhs; rw [e]
 simp
theorem aT.row{R:az}{H:ah}{b o p:Nat}{f:α→Value}{pre post:List Value}(hc:aT R H b o (pre++(xs.map f++post)))(h:ib m xs i=some r)(hp:pre.length=p):aT R H b (o+p+i.toNat * m) ([]++(r.map f++[])):=by
 obtain ⟨a,c,e,ha⟩:=aMD (post:=post) (f:=f) h hp
 rw [e] at hc
 have:=hc.part (j:=a.length) (n:=(r.map f).length) (aNo rfl rfl)
 rw [ha] at this
 simpa [Nat.add_assoc] using this
theorem Us{pre post:List Value}{f:α→Value}{p:Nat}(h:ib m xs i=some r)(hk:idx r k=some y)(hp:pre.length=p):Nat.blt (p+i.toNat * m+k.toNat * 1) ((pre++(xs.map f++post)).toArray).size=true:=by
 obtain ⟨_,h2,_⟩:=Ak h
 obtain ⟨_,h4,h5⟩:=vJ hk
 have:=pU h
 have:=(iO.1 h5).1
 rw [Nat.blt_eq]
 simp
 omega
theorem Uu{pre post:List Value}{f:α→Value}{p:Nat}(h:ib m xs i=some r)(hk:idx r k=some y)(hp:pre.length=p):((pre++(xs.map f++post)).toArray).setIfInBounds (p+i.toNat * m+k.toNat * 1) (f x)=(pre++((lS m xs i k x).map f++post)).toArray:=by
 obtain ⟨_,h2,_⟩:=Ak h
 obtain ⟨_,h4,h5⟩:=vJ hk
 have:=pU h
 have:=(iO.1 h5).1
 subst hp
 unfold lS
 simp only [Nat.mul_one,List.setIfInBounds_toArray,List.map_set]
 congr 1
 rw [List.set_append_right _ _ (by omega),show pre.length+i.toNat * m+k.toNat - pre.length=i.toNat * m+k.toNat by omega,List.set_append_left _ _ (by simp; omega)]
theorem aMA{pre post:List Value}{f:α→Value}{p:Nat}(h:ib m xs i=some r)(hp:pre.length=p):Nat.ble (p+i.toNat * m+m) ((pre++(xs.map f++post)).toArray).size=true:=by
 obtain ⟨_,h2,_⟩:=Ak h
 rw [Nat.ble_eq]
 simp
 omega
theorem aLN{a c vs ws:List Value}{cs:Array Value}{off:Nat}(pF:cs=(a++(vs++c)).toArray)(ha:a.length=off)(hl:ws.length=vs.length):gz cs off ws=(a++(ws++c)).toArray:=by
 subst pF ha
 apply Array.ext_getElem?
 intro j
 rw [FQ ws _ _ j (by simp; omega)]
 by_cases hj:a.length≤j∧j < a.length+ws.length
 ·rw [if_pos hj]
  simp only [List.getElem?_toArray]
  rw [p9 hj.1,uU (by omega)]
 ·rw [if_neg hj]
  simp only [List.getElem?_toArray]
  by_cases h1:j < a.length
  ·rw [uU h1,uU h1]
  ·rw [p9 (by omega),p9 (by omega),p9 (by omega),p9 (by omega),hl]
theorem aMF{pre post:List Value}{f:α→Value}{p:Nat}(h:ib m xs i=some r)(hg:g.length=m)(hp:pre.length=p):gz ((pre++(xs.map f++post)).toArray) (p+i.toNat * m) (([]:List Value)++(g.map f++[]))=(pre++((IY m xs i g).map f++post)).toArray:=by
 obtain ⟨_,h2,_⟩:=Ak h
 have hr:=pU h
 have e:xs=xs.take (i.toNat * m)++(r++xs.drop (i.toNat * m+m)):=by
  obtain ⟨_,_,rfl⟩:=Ak h
  rw [← List.drop_drop,List.take_append_drop,List.take_append_drop]
 have e2:(pre++(xs.map f++post)).toArray=((pre++(xs.take (i.toNat * m)).map f)++(r.map f++((xs.drop (i.toNat * m+m)).map f++post))).toArray:=by
  conv=>lhs; rw [e]
  simp
 have:=aLN (ws:=([]:List Value)++(g.map f++[])) (off:=p+i.toNat * m) e2 (by simp [hp]; omega) (by simp [hg,hr])
 rw [this]
 simp [IY]
end
section
variable {P:Program} {B:Base} {main:Bool} {c:Ctx} {R:az} {H:ah} {st st':St} {o:Oper} {C:az→ah→St→Prop}
theorem Ox.aam{α:Type}{x y:Operand}{t e len:Nat}{f:α→Value}{xs:List α}{a:α}{kd:IntKind}{i:Int}(an:o.op = .index t x y) (hx:bl st x=some (.agg (List.toArray ([]++(xs.map f++[]))))) (hy:bl st y=some (.int kd i)) (ht:w6 P t len e 1) (he:ai P (isAgg e) false) (hl:xs.length=len) (hi:idx xs i=some a)
  (hd:cx o.dst c.n) (hs:aB (cB o.dst (f a) st) st') (h:C R H st'):bc P B c o R H st C:=by
 obtain ⟨h1,h2,h3⟩:=vJ hi
 exact Ox.EP an hx hy ht he ⟨h1,by omega⟩ (by simp [h3]) hd hs h
end
instance {n:Nat}:CM (oA Value.bool n):=⟨λ _ h=>h,λ ⟨_,h⟩ u hu=>by
 subst h
 simp only [List.nil_append,List.append_nil,List.mem_map] at hu
 obtain ⟨_,_,rfl⟩:=hu
 rfl⟩
instance {n:Nat} {kd:IntKind}:CM (oA (Value.int kd) n):=⟨λ _ h=>h,λ ⟨_,h⟩ u hu=>by
 subst h
 simp only [List.nil_append,List.append_nil,List.mem_map] at hu
 obtain ⟨_,_,rfl⟩:=hu
 rfl⟩
section
variable {P:Program} {B:Base} {main:Bool} {c:Ctx} {R:az} {H:ah} {st st':St} {o:Oper} {C:az→ah→St→Prop}
theorem Ox.aLT{t:TypeId}{x:Operand}{s:ByteArray}(an:o.op = .range t x)(hx:bl st x=some (.string s))(hu:P.underlying t=some .string)(hd:cx o.dst c.n)
  (hC:∀ b,R b=none→(∀ y,(b,y) ∉ H)→∃ st',aB (cB o.dst (.pointer (some ⟨b,0,none⟩)) st) st'∧C R ((b,.stringIter s 0)::H) st'):bc P B c o R H st C :=
 Ox.mem (s:=λ ρ=>Instr.range t (ρ x)) (by rw [an]; rfl) hd (λ ρ=>by simp only [execOp,an]) (λ ρ bj=>by
  rw [bj x _ hx]
  unfold Instr.range
  refine ai.fB (ai.underlying hu) (ai.fB (ai.bF _) ?_)
  exact aO.dO (aO.new λ b h1 h2=>aO.eF (hC b h1 h2)))
theorem Ox.aKy{x:Operand}{b:Nat}{s:ByteArray}{pos:Nat}(an:o.op = .next x true)(hx:bl st x=some (.pointer (some ⟨b,0,none⟩)))(hb:(b,Obj.stringIter s pos)∈H)(hp:¬ pos < s.size)(hd:cx o.dst c.n)
  (hs:aB (cB o.dst (.tuple #[.bool false]) st) st') (h:C R H st'):bc P B c o R H st C :=
 Ox.mem (s:=λ ρ=>Instr.next (ρ x) true o.type) (by rw [an]; rfl) hd (λ ρ=>by simp only [execOp,an]) (λ ρ bj=>by
  rw [bj x _ hx]
  unfold Instr.next
  refine aO.dO (aO.getObj rfl (.inr hb) ?_)
  simp only [hp,if_false]
  exact aO.eF ⟨st',hs,h⟩)
theorem Ox.aKz{x:Operand}{b:Nat}{s:ByteArray}{pos:Nat}{H':ah}(an:o.op = .next x true)(hx:bl st x=some (.pointer (some ⟨b,0,none⟩)))(hb:fN H b (.stringIter s pos) (.stringIter s (pos+(Utf8.decode s pos).2)) H')(hp:pos < s.size)(hd:cx o.dst c.n)
  (hs:aB (cB o.dst (.tuple #[.bool true,.int .i64 (pos:Int),.int .i32 ((Utf8.decode s pos).1:Int)]) st) st') (h:C R H' st'):bc P B c o R H st C :=
 Ox.mem (s:=λ ρ=>Instr.next (ρ x) true o.type) (by rw [an]; rfl) hd (λ ρ=>by simp only [execOp,an]) (λ ρ bj=>by
  rw [bj x _ hx]
  unfold Instr.next
  refine aO.dO (aO.getObj rfl (.inr hb.mem) ?_)
  simp only [hp,if_true]
  exact aO.dO (aO.setObj rfl rfl hb (aO.eF ⟨st',hs,h⟩)))
end
class nz (P:Program) where
 off:Nat→Nat→Option Nat
 ok:∀ s f n,off s f=some n→gU P s f n
def So(fo:Nat→Nat→Option Nat)(st:St)(o:Oper):Option Value :=
 match o.op with
 | .move x=>bl st x
 | .assign x=>bl st x
 | .pick x y z=>match bl st x with
  | some (.bool true)=>bl st y
  | some (.bool false)=>bl st z
  | _=>none
 | .extract x j=>match bl st x with
  | some (.tuple vs)=>vs[j]?
  | _=>none
 | .unOp .not _ x=>match bl st x with
  | some (.bool a)=>some (.bool (!a))
  | _=>none
 | .binOp bo _ x y _=>match bl st x,bl st y with
  | some (.int kd a),some (.int EU b)=>if kd=EU then (match U8 bo a b with
   | some r=>some (.bool r)
   | none=>match Up bo a b with
    | some z=>some (.int kd (kd.wrap z))
    | none=>none) else none
  | _,_=>none
 | .fieldAddr s x f=>match bl st x,fo s f with
  | some (.pointer (some ⟨b,n,none⟩)),some off=>some (.pointer (some ⟨b,n+off,none⟩))
  | _,_=>none
 | _=>none
section
variable {P:Program} [nz P] {B:Base} {main:Bool} {ab:Jd P B main} {c:Ctx} {R:az} {H:ah} {st st':St} {o:Oper} {C:az→ah→St→Prop} {k:List Item}
theorem ajz{v:Value}(h:So (nz.off P) st o=some v)(hd:cx o.dst c.n)(hs:aB (cB o.dst v st) st')(hC:C R H st'):bc P B c o R H st C:=by
 unfold So at h
 split at h
 ·rename_i x an; exact Ox.move an h hd hs hC
 ·rename_i x an; exact Ox.assign an h hd hs hC
 ·rename_i x y z an
  split at h
  ·rename_i hx; exact Ox.aLK an hx h hd hs hC
  ·rename_i hx; exact Ox.aLJ an hx h hd hs hC
  ·cases h
 ·rename_i x j an
  split at h
  ·rename_i hx; exact Ox.extract an hx h hd hs hC
  ·cases h
 ·rename_i t x an
  split at h
  ·rename_i hx; cases h; exact Ox.not an hx hd hs hC
  ·cases h
 ·rename_i bo t x y u an
  split at h
  ·rename_i kd a EU b hx hy
   split at h
   ·rename_i e; subst e
    split at h
    ·rename_i r hr; cases h; exact Ox.cmp an hx hy hr hd hs hC
    ·split at h
     ·rename_i z hz; cases h; exact Ox.ar an hx hy hz hd hs hC
     ·cases h
   ·cases h
  ·cases h
 ·rename_i s x f an
  split at h
  ·rename_i hx hf; cases h; exact Ox.fieldAddr an hx (nz.ok s f _ hf) hd hs hC
  ·cases h
 ·cases h
def abT(fo:Nat→Nat→Option Nat)(ops:Array Oper)(n:Nat)(st:St)(i:Nat):Option St :=
 match ops[i]? with
 | none=>none
 | some o=>match cY ops st o with
  | some true=>match So fo st o,o.dst with
   | some v,some d=>if Nat.blt d n=true then some ((d,v)::st) else none
   | _,_=>none
  | some false=>match nG o.op,o.dst with
   | false,some d=>if Nat.blt d n=true then some ((d,undef)::st) else none
   | false,none=>some st
   | _,_=>none
  | none=>none
def CQ(fo:Nat→Nat→Option Nat)(ops:Array Oper)(n:Nat):List Nat→St→Option St
 | [],st=>some st
 | i::is,st=>match abT fo ops n st i with
  | some st'=>CQ fo ops n is st'
  | none=>none
theorem akc{ops:Array Oper}{n i:Nat}{fo:Nat→Nat→Option Nat}(h:abT fo ops n st i=some st'):∃ o,ops[i]? = some o ∧
  ((cY ops st o=some true∧∃ v d,So fo st o=some v∧o.dst=some d∧cx (some d) n∧st'=(d,v)::st) ∨
   (cY ops st o=some false∧nG o.op=false∧cx o.dst n∧st'=cB o.dst undef st)):=by
 unfold abT at h
 split at h
 ·cases h
 ·rename_i o ho
  refine ⟨o,ho,?_⟩
  split at h
  ·rename_i hw
   split at h
   ·rename_i v d hv hd
    split at h
    ·rename_i hl; cases h; exact .inl ⟨hw,v,d,hv,hd,hl,rfl⟩
    ·cases h
   ·cases h
  ·rename_i hw
   split at h
   ·rename_i d mW hd
    split at h
    ·rename_i hl; cases h; exact .inr ⟨hw,mW,by rw [hd]; exact hl,by rw [hd]; rfl⟩
    ·cases h
   ·rename_i mW hd
    cases h; exact .inr ⟨hw,mW,by rw [hd]; rfl,by rw [hd]; rfl⟩
   ·cases h
  ·cases h
theorem At.run{ops:Array Oper}(hk:(c.kind == CallKind.early)=false):∀ {is rest:List Nat} {st:St},CQ (nz.off P) ops c.n is st=some st'→At ab c R H st' (.inRegion ops rest::k)→At ab c R H st (.inRegion ops (is++rest)::k)
 | [],rest,st,h,ha=>by cases h; exact ha
 | i::is,rest,st,h,ha=>by
  unfold CQ at h
  split at h
  ·rename_i ng h1
   have ih:=At.run hk h ha
   obtain ⟨o,ho,⟨hw,v,d,hv,hd,hl,rfl⟩ | ⟨hw,mW,hl,rfl⟩⟩:=akc h1
   ·exact At.jv ho hw hk (ajz hv (by rw [hd]; exact hl) (by rw [hd]; exact aB.refl _) ih)
   ·exact At.unwanted ho hw hl (aB.refl _) ih
  ·cases h
theorem At.vs(m:Nat){ops:Array Oper}{is sR:List Nat}(h:CQ (nz.off P) ops c.n (is.take m) st=some st')(hr:is.drop m=sR)(ha:At ab c R H st' (.inRegion ops sR::k))(hk:(c.kind == CallKind.early)=false:=by rfl):At ab c R H st (.inRegion ops is::k):=by
 subst hr
 have:=At.run (rest:=is.drop m) hk h ha
 rwa [List.take_append_drop] at this
def aeQ(ops:Array Oper)(rem:List Nat)(i:Nat):Nat→List Nat→List Nat
 | 0,D=>D
 | n+1,D=>aeQ ops rem i n (rem.filter λ j=>j != i && (D.contains j || match ops[j]? with | some o=>o.after.any λ e=>Region.binds .any e && (e.on == i || D.contains e.on) | none=>false))
def Kv(ops:Array Oper)(rem:List Nat)(i:Nat):List Nat:=aeQ ops rem i rem.length []
def OY(ops:Array Oper):List Nat→List Nat→Bool
 | _,[]=>true
 | rem,i::is=>decide rem.Nodup && qT ops rem i (Kv ops rem i) && OY ops (rem.erase i) is
theorem Any.vs'{S:Nat→ah}{ops:Array Oper}{n:Nat}:∀ (is:List Nat) {rem:List Nat} {st:St},CQ (nz.off P) ops c.n is st=some st'→OY ops rem is=true→Any ab c S ops k n (is.foldl List.erase rem) R H st'→Any ab c S ops k (n+is.length) rem R H st
 | [],rem,st,h,_,ha=>by cases h; exact ha
 | i::is,rem,st,h,hc,ha=>by
  unfold CQ at h
  split at h
  ·rename_i ng h1
   simp only [OY,fF,decide_eq_true_eq] at hc
   obtain ⟨⟨dR,jT⟩,hc⟩:=hc
   have ih:=Any.vs' is h hc ha
   obtain ⟨o,ho,⟨hw,v,d,hv,hd,hl,rfl⟩ | ⟨hw,mW,hl,rfl⟩⟩:=akc h1
   ·exact Any.F6 (N:=[]) _ ho hd hw jT (λ _ _ _ _ p hp=>by cases hp) (λ p hp=>by cases hp) (λ R' H' _ _=>ajz hv (by rw [hd]; exact hl) (.one hd) ⟨rfl,rfl,rfl⟩) (aB.refl _) dR rfl ih
   ·exact Any.aNm _ ho jT mW hl hw (aB.refl _) dR rfl ih
  ·cases h
theorem Any.vs{S:Nat→ah}{ops:Array Oper}{n:Nat}(m:Nat)(is:List Nat){rem:List Nat}{st:St}(h:CQ (nz.off P) ops c.n is st=some st')(ha:Any ab c S ops k n (is.foldl List.erase rem) R H st')(hc:OY ops rem is=true:=by decide +kernel)(hm:is.length=m:=by rfl):Any ab c S ops k (n+m) rem R H st:=by
 subst hm
 exact Any.vs' is h hc ha
end
section
variable {P:Program} {B:Base} {main:Bool} {ab:Jd P B main} {c:Ctx} {R:az} {H:ah} {st st':St} {o:Oper} {C:az→ah→St→Prop} {k:List Item}
theorem At.rg(is:List Nat){id:Nat}{ops:Array Oper}(h:At ab c R H st (.inRegion ops is::k))(hn:ops.size=is.length:=by rfl)(mX:List.range is.length=is:=by rfl):At ab c R H st (.code (.region id ops false)::k):=At.aL8 hn mX h
theorem At.dw(is:List Nat){id:Nat}{ops:Array Oper}(hm:P.follows .mixedOrders=true)(h:Any ab c (λ _=>H) ops k is.length is R H st)(hk:(c.kind == CallKind.early)=false:=by rfl)(hb:backward ops=true:=by decide +kernel)(hn:ops.size=is.length:=by rfl)(mX:List.range is.length=is:=by rfl):At ab c R H st (.code (.region id ops true)::k):=At.apt hm hk hb hn mX h
theorem Any.tk(i:Nat){N:ah}{ops:Array Oper}{n d:Nat}{rem:List Nat}{v:Value}(ho:ops[i]? = some o)(hS:∀ p∈N,p∈H)(hf:∀ R' H',aS R R'→(∀ p∈N,p∈H')→bc P B c o R' H' st λ R1 H1 ng=>R1=R'∧H1=H'∧ng=[(d,v)])
  (h:Any ab c (λ _=>N) ops k n (rem.erase i) R H ((d,v)::st)) (od:o.dst=some d:=by rfl) (hw:cY ops st o=some true:=by rfl) (jT:qT ops rem i (Kv ops rem i)=true:=by decide +kernel) (dR:rem.Nodup:=by decide):Any ab c (λ _=>N) ops k (n+1) rem R H st :=
 Any.F6 _ ho od hw jT (λ _ _ _ _ _ hp=>hp) hS hf (aB.refl _) dR rfl h
theorem At.cv{ops:Array Oper}{i d:Nat}{rest:List Nat}{ca:Call}{x:Operand}{f:FuncId}{first captured:Array Value}{vs:List Value}{args:Array Value}{Post:Value→az→ah→Prop}(he:bq P f)(hf:ba ab f args R H Post)
  (h:∀ v R' H',Post v R' H'→At ab c R' H' ((d,v)::st) (.inRegion ops rest::k))
  (ho:ops[i]? = some o:=by rfl) (hw:cY ops st o=some true:=by rfl) (hk:(c.kind == CallKind.early)=false:=by rfl) (an:o.op = .call ca:=by rfl) (hc:ca.callee = .value x:=by rfl) (hx:bl st x=some (.func (.func f) first captured):=by rfl)
  (ha:jG st ca.args.toList=some vs:=by rfl) (Ht:first++vs.toArray++captured=args:=by rfl) (hd:o.dst=some d:=by rfl) (hl:Nat.blt d c.n=true:=by rfl):At ab c R H st (.inRegion ops (i::rest)::k) :=
 At.step ho hw hk (Ox.dU an hc hx ha he Ht (by rw [hd]; exact hl) (hf.mono λ v R' H' hp=>⟨_,.put hd,h v R' H' hp⟩))
theorem Any.cv(i:Nat){S:Nat→ah}{ops:Array Oper}{n d:Nat}{rem:List Nat}{ca:Call}{x:Operand}{f:FuncId}{first captured:Array Value}{vs:List Value}{args:Array Value}{Post:Value→az→ah→Prop}(he:bq P f)(hf:ba ab f args R H Post)
  (h:∀ v R' H',Post v R' H'→aS R R'∧(∀ p∈S i,p∈H→p∈H')∧Any ab c S ops k n (rem.erase i) R' H' ((d,v)::st))
  (ho:ops[i]? = some o:=by rfl) (hw:cY ops st o=some true:=by rfl) (an:o.op = .call ca:=by rfl) (hc:ca.callee = .value x:=by rfl) (hx:bl st x=some (.func (.func f) first captured):=by rfl)
  (ha:jG st ca.args.toList=some vs:=by rfl) (Ht:first++vs.toArray++captured=args:=by rfl) (hd:o.dst=some d:=by rfl) (hl:Nat.blt d c.n=true:=by rfl) (lJ:rem.filter (nM ops rem)=[i]:=by decide +kernel) (dR:rem.Nodup:=by decide):Any ab c S ops k (n+1) rem R H st :=
 Any.one ho lJ hw dR rfl (Ox.dU an hc hx ha he Ht (by rw [hd]; exact hl) (hf.mono λ v R' H' hp=>⟨_,.put hd,h v R' H' hp⟩))
theorem Any.on(i:Nat){S:Nat→ah}{ops:Array Oper}{n:Nat}{rem:List Nat}(ho:ops[i]? = some o)(hw:cY ops st o=some true)
  (h:qf ab c o R H st λ R' H' st'=>aS R R'∧(∀ p∈S i,p∈H→p∈H')∧Any ab c S ops k n (rem.erase i) R' H' st') (lJ:rem.filter (nM ops rem)=[i]:=by decide +kernel) (dR:rem.Nodup:=by decide):Any ab c S ops k (n+1) rem R H st:=Any.one ho lJ hw dR rfl h
theorem At.ld{ops:Array Oper}{i d:Nat}{rest:List Nat}{x:Operand}{t:TypeId}{b off:Nat}{v:Value}(ht:gN P t)(hc:Cell R H ⟨b,off,none⟩ v)(h:At ab c R H ((d,v)::st) (.inRegion ops rest::k))
  (ho:ops[i]? = some o:=by rfl) (hw:cY ops st o=some true:=by rfl) (hk:(c.kind == CallKind.early)=false:=by rfl) (an:o.op = .load t x:=by rfl) (hx:bl st x=some (.pointer (some ⟨b,off,none⟩)):=by rfl) (hd:o.dst=some d:=by rfl) (hl:Nat.blt d c.n=true:=by rfl):At ab c R H st (.inRegion ops (i::rest)::k) :=
 At.jv ho hw hk (Ox.sU an hx ht hc (by rw [hd]; exact hl) (.put hd) h)
theorem At.kn(t:Nat){x b:Bool}{todo:List Item}(hb:x=b)(h:At ab c R H ((t,.bool b)::st) todo)(hx:st.lookup t=some (.bool x):=by rfl):At ab c R H st todo:=At.known hx hb h
theorem At.s{ops:Array Oper}{i:Nat}{rest:List Nat}(ho:ops[i]? = some o)(hw:cY ops st o=some true)(h:bc P B c o R H st λ R' H' st'=>At ab c R' H' st' (.inRegion ops rest::k))(hk:(c.kind == CallKind.early)=false:=by rfl):At ab c R H st (.inRegion ops (i::rest)::k):=At.jv ho hw hk h
end
abbrev aD:List Nat:=[0]
abbrev aP:List Nat:=[0,1]
abbrev bh:List Nat:=[0,1,2]
abbrev b8:List Nat:=[0,1,2,3]
abbrev cR:List Nat:=[0,1,2,3,4]
abbrev gj:List Nat:=[0,1,2,3,4,5]
abbrev fg:List Nat:=[0,1,2,3,4,5,6]
abbrev gH:List Nat:=[0,1,2,3,4,5,6,7]
abbrev lq:List Nat:=[0,1,2,3,4,5,6,7,8]
abbrev nN:List Nat:=[0,1,2,3,4,5,6,7,8,9]
abbrev rQ:List Nat:=[0,1,2,3,4,5,6,7,8,9,10]
abbrev FV:List Nat:=[0,1,2,3,4,5,6,7,8,9,10,11]
abbrev ajE:List Nat:=[0,1,2,3,4,5,6,7,8,9,10,11,12]
abbrev CL:List Nat:=[0,1,2,3,4,5,6,7,8,9,10,11,12,13]
abbrev CN:List Nat:=[0,1,2,3,4,5,6,7,8,9,10,11,12,13,14]
abbrev Ng:List Nat:=[0,1,2,3,4,5,6,7,8,9,10,11,12,13,14,15]
abbrev ajF:List Nat:=[0,1,2,3,4,5,6,7,8,9,10,11,12,13,14,15,16,17]
abbrev aMd:List Nat:=[0,1,2,3,4,5,6,7,8,9,10,11,12,13,14,15,16,17,18,19]
abbrev aMe:List Nat:=[0,1,2,3,4,5,6,7,8,9,10,11,12,13,14,15,16,17,18,19,20,21,22,23,24,25]
abbrev ajG:List Nat:=[0,1,2,3,4,5,6,7,8,9,10,11,12,13,14,15,16,17,18,19,20,21,22,23,24,25,26]
abbrev aMf:List Nat:=[0,1,2,3,4,5,6,7,8,9,10,11,12,13,14,15,16,17,18,19,20,21,22,23,24,25,26,27]
abbrev aMg:List Nat:=[0,1,2,3,4,5,6,7,8,9,10,11,12,13,14,15,16,17,18,19,20,21,22,23,24,25,26,27,28]
abbrev aMh:List Nat:=[0,1,2,3,4,5,6,7,8,9,10,11,12,13,14,15,16,17,18,19,20,21,22,23,24,25,26,27,28,29,30,31]
abbrev aMi:List Nat:=[0,1,2,3,4,5,6,7,8,9,10,11,12,13,14,15,16,17,18,19,20,21,22,23,24,25,26,27,28,29,30,31,32,33,34,35,36]
abbrev aMj:List Nat:=[0,1,2,3,4,5,6,7,8,9,10,11,12,13,14,15,16,17,18,19,20,21,22,23,24,25,26,27,28,29,30,31,32,33,34,35,36,37]
abbrev aMk:List Nat:=[0,1,2,3,4,5,6,7,8,9,10,11,12,13,14,15,16,17,18,19,20,21,22,23,24,25,26,27,28,29,30,31,32,33,34,35,36,37,38,39,40,41]
abbrev ajH:List Nat:=[0,1,2,3,4,5,6,7,8,9,10,11,12,13,14,15,16,17,18,19,20,21,22,23,24,25,26,27,28,29,30,31,32,33,34,35,36,37,38,39,40,41,42]
abbrev aMl:List Nat:=[0,1,2,3,4,5,6,7,8,9,10,11,12,13,14,15,16,17,18,19,20,21,22,23,24,25,26,27,28,29,30,31,32,33,34,35,36,37,38,39,40,41,42,43,44]
abbrev aMm:List Nat:=[0,1,2,3,4,5,6,7,8,9,10,11,12,13,14,15,16,17,18,19,20,21,22,23,24,25,26,27,28,29,30,31,32,33,34,35,36,37,38,39,40,41,42,43,44,45,46,47,48,49]
abbrev aMn:List Nat:=[0,1,2,3,4,5,6,7,8,9,10,11,12,13,14,15,16,17,18,19,20,21,22,23,24,25,26,27,28,29,30,31,32,33,34,35,36,37,38,39,40,41,42,43,44,45,46,47,48,49,50,51]
abbrev aMo:List Nat:=[0,1,2,3,4,5,6,7,8,9,10,11,12,13,14,15,16,17,18,19,20,21,22,23,24,25,26,27,28,29,30,31,32,33,34,35,36,37,38,39,40,41,42,43,44,45,46,47,48,49,50,51,52,53,54,55,56,57,58,59,60,61,62,63,64,65,66,67]
section
variable {α:Type} {a OK UG aeb ao4 aWN aWO aWP aWQ x:α} {l l₁ vP:List α}
theorem so(h:List.Sublist l₁ vP):List.Sublist l₁ (a::vP):=h.cons a
theorem sk(h:List.Sublist l₁ vP):List.Sublist (a::l₁) (a::vP):=List.Sublist.cons_cons a h
theorem sr:List.Sublist l l:=.refl _
theorem sn:List.Sublist [] l:=List.nil_sublist _
theorem su(h:List.Sublist l₁ vP):∀ p∈l₁,p∈vP:=λ _ hp=>h.subset hp
theorem pp:∀ p∈l,p∈l:=λ _ h=>h
theorem z0:x∈x::l:=.head _
theorem z1:x∈a::x::l:=.tail _ z0
theorem z2:x∈a::OK::x::l:=.tail _ z1
theorem z3:x∈a::OK::UG::x::l:=.tail _ z2
theorem z4:x∈a::OK::UG::aeb::x::l:=.tail _ z3
theorem z5:x∈a::OK::UG::aeb::ao4::x::l:=.tail _ z4
end
section
variable {P:Program} {B:Base} {main:Bool} {ab:Jd P B main} {c:Ctx} {R:az} {H:ah} {st st':St} {o:Oper} {k:List Item}
theorem sq{x y:Code}(h:At ab c R H st (.code x :: .code y::k)):At ab c R H st (.code (.seq x y)::k):=At.seq h
theorem er{ops:Array Oper}(h:At ab c R H st k):At ab c R H st (.inRegion ops []::k):=At.aV h
theorem es{ops:Array Oper}{x y:Code}(h:At ab c R H st (.code x :: .code y::k)):At ab c R H st (.inRegion ops [] :: .code (.seq x y)::k):=At.aV (At.seq h)
theorem sg(is:List Nat){id:Nat}{ops:Array Oper}{y:Code}(h:At ab c R H st (.inRegion ops is :: .code y::k))(hn:ops.size=is.length:=by rfl)(mX:List.range is.length=is:=by rfl):At ab c R H st (.code (.seq (.region id ops false) y)::k):=At.seq (At.rg is h hn mX)
theorem nx(is:List Nat){id:Nat}{os ops:Array Oper}{y:Code}(h:At ab c R H st (.inRegion ops is :: .code y::k))(hn:ops.size=is.length:=by rfl)(mX:List.range is.length=is:=by rfl):At ab c R H st (.inRegion os [] :: .code (.seq (.region id ops false) y)::k):=At.aV (sg is h hn mX)
theorem sp(h:At ab c R H st k):At ab c R H st (.code .skip::k):=At.skip h
theorem vs[nz P](m:Nat){ops:Array Oper}{is sR:List Nat}(ha:At ab c R H st' (.inRegion ops sR::k))(h:CQ (nz.off P) ops c.n (is.take m) st=some st':=by rfl)(hr:is.drop m=sR:=by rfl)(hk:(c.kind == CallKind.early)=false:=by rfl):At ab c R H st (.inRegion ops is::k):=At.vs m h hr ha hk
theorem ld(j:Nat){ops:Array Oper}{i d:Nat}{rest:List Nat}{x:Operand}{t e:TypeId}{b:Nat}{fz:Nat × Nat}{L:List Value}{v:Value}(ht:gN P t)(hm:(b,Obj.cells L.toArray e fz)∈H)(h:At ab c R H ((d,v)::st) (.inRegion ops rest::k))(hj:L[j]? = some v:=by rfl)
  (ho:ops[i]? = some o:=by rfl) (hw:cY ops st o=some true:=by rfl) (hk:(c.kind == CallKind.early)=false:=by rfl) (an:o.op = .load t x:=by rfl) (hx:bl st x=some (.pointer (some ⟨b,0+j,none⟩)):=by rfl) (hd:o.dst=some d:=by rfl) (hl:Nat.blt d c.n=true:=by rfl):At ab c R H st (.inRegion ops (i::rest)::k) :=
 At.ld ht ((aT.box hm).one hj) h ho hw hk an hx hd hl
theorem lN(vs:List Value)(j n:Nat){ops:Array Oper}{i d:Nat}{rest:List Nat}{x:Operand}{t e:TypeId}{b:Nat}{fz:Nat × Nat}{L:List Value}{m:Nat}(ht:nu P t m)(hm:(b,Obj.cells L.toArray e fz)∈H)(h:At ab c R H ((d,.agg vs.toArray)::st) (.inRegion ops rest::k))(hv:(L.drop j).take n=vs:=by rfl)
  (ho:ops[i]? = some o:=by rfl) (hw:cY ops st o=some true:=by rfl) (hk:(c.kind == CallKind.early)=false:=by rfl) (an:o.op = .load t x:=by rfl) (hx:bl st x=some (.pointer (some ⟨b,0+j,none⟩)):=by rfl) (hn:vs.length=m:=by rfl) (hd:o.dst=some d:=by rfl) (hl:Nat.blt d c.n=true:=by rfl):At ab c R H st (.inRegion ops (i::rest)::k) :=
 At.s ho hw (Ox.cw an hx ht hn ((aT.box hm).part hv) (by rw [hd]; exact hl) (.put hd) h) hk
theorem bx{ops:Array Oper}{i d:Nat}{rest:List Nat}{x:Operand}{t:TypeId}{vs:Array Value}(h:∀ b,At ab c R ((b,.cells vs t)::H) ((d,.pointer (some ⟨b,0,none⟩))::st) (.inRegion ops rest::k))
  (ho:ops[i]? = some o:=by rfl) (hw:cY ops st o=some true:=by rfl) (hk:(c.kind == CallKind.early)=false:=by rfl) (an:o.op = .box t x:=by rfl) (hx:bl st x=some (.agg vs):=by rfl) (hd:o.dst=some d:=by rfl) (hl:Nat.blt d c.n=true:=by rfl):At ab c R H st (.inRegion ops (i::rest)::k) :=
 At.s ho hw (Ox.ad3 an hx (by rw [hd]; exact hl) λ b _ _=>⟨_,.put hd,h b⟩) hk
theorem sc{α:Type}{t:Bool}{a b:Option α}{r:α}{x:Operand}{th el:Code}(hM:af t a b=some r)(h1:t=true→a=some r→At ab c R H st (.code th::k))(h2:t=false→b=some r→At ab c R H st (.code el::k))(hx:bl st x=some (.bool t):=by rfl):At ab c R H st (.code (.cond x th el)::k) :=
 bC hM (λ h hM=>At.gb hx h (h1 h hM)) (λ h hM=>At.eX hx h (h2 h hM))
theorem ls{α:Type}{K:cQ α}{n:Nat}{ops:Array Oper}{i d:Nat}{rest:List Nat}{x:Operand}{t e:TypeId}{v:Value}{xs:List α}(hl:aa K n R v xs)(ht:P.underlying t=some (.slice e))(h:At ab c R H ((d,.int .i64 (xs.length:Int))::st) (.inRegion ops rest::k))
  (ho:ops[i]? = some o:=by rfl) (hw:cY ops st o=some true:=by rfl) (hk:(c.kind == CallKind.early)=false:=by rfl) (an:o.op = .call ⟨.builtin .len,#[x],#[t]⟩:=by rfl) (hx:bl st x=some v:=by rfl) (hd:o.dst=some d:=by rfl) (hn:Nat.blt d c.n=true:=by rfl):At ab c R H st (.inRegion ops (i::rest)::k) :=
 At.s ho hw (Ox.sT an hx hl ht (by rw [hd]; exact hn) (.put hd) h) hk
theorem lr{α:Type}{K:cQ α}{n:Nat}{ops:Array Oper}{i d:Nat}{rest:List Nat}{x:Operand}{t e:TypeId}{v:Value}{xs:List α}{H0:ah}(hl:dJ K n R H0 v xs)(ht:P.underlying t=some (.slice e))(h:At ab c R H ((d,.int .i64 (xs.length:Int))::st) (.inRegion ops rest::k))
  (ho:ops[i]? = some o:=by rfl) (hw:cY ops st o=some true:=by rfl) (hk:(c.kind == CallKind.early)=false:=by rfl) (an:o.op = .call ⟨.builtin .len,#[x],#[t]⟩:=by rfl) (hx:bl st x=some v:=by rfl) (hd:o.dst=some d:=by rfl) (hn:Nat.blt d c.n=true:=by rfl):At ab c R H st (.inRegion ops (i::rest)::k) :=
 At.s ho hw (Ox.aav an hx hl ht (by rw [hd]; exact hn) (.put hd) h) hk
theorem rt{fr:Frame}{cs:List Frame}{f:FuncId}{n:Nat}{fn:Func}{vs:List Value}{H':ah}(hf:P.funcs[f]? = some fn)(hr:qg P R H st fn.results.toList vs)(hs:List.Sublist H' H)(hj:ab.J R H' (aY (fr.finish (iY vs)) cs)):At ab ⟨f,.normal,none,n,[],fr::cs⟩ R H st (.code .ret::k) :=
 At.FU hf hr (J.drop hs hj)
theorem ts(i:Nat){ops:Array Oper}{n d:Nat}{rem:List Nat}{S:Nat→ah}{v:Value}{N:ah}(D:List Nat)(ho:ops[i]? = some o)(y7:∀ j∈rem,j≠i→j ∉ D→∀ p∈N,p∈S j)(hS:∀ p∈N,p∈H)
  (hf:∀ R' H',aS R R'→(∀ p∈N,p∈H')→bc P B c o R' H' st λ R1 H1 ng=>R1=R'∧H1=H'∧ng=[(d,v)]) (h:Any ab c S ops k n (rem.erase i) R H ((d,v)::st))
  (od:o.dst=some d:=by rfl) (hw:cY ops st o=some true:=by rfl) (jT:qT ops rem i D=true:=by decide +kernel) (dR:rem.Nodup:=by decide):Any ab c S ops k (n+1) rem R H st :=
 Any.F6 D ho od hw jT y7 hS hf (aB.refl _) dR rfl h
theorem tl(i j:Nat){ops:Array Oper}{n d:Nat}{rem:List Nat}{x:Operand}{t e:TypeId}{b:Nat}{fz:Nat × Nat}{L:List Value}{v:Value}(ht:gN P t)(hm:(b,Obj.cells L.toArray e fz)∈H)(h:Any ab c (λ _=>H) ops k n (rem.erase i) R H ((d,v)::st))(hj:L[j]? = some v:=by rfl)
  (ho:ops[i]? = some o:=by rfl) (an:o.op = .load t x:=by rfl) (hx:bl st x=some (.pointer (some ⟨b,0+j,none⟩)):=by rfl) (od:o.dst=some d:=by rfl) (hl:Nat.blt d c.n=true:=by rfl) (hw:cY ops st o=some true:=by rfl) (jT:qT ops rem i (Kv ops rem i)=true:=by decide +kernel) (dR:rem.Nodup:=by decide):Any ab c (λ _=>H) ops k (n+1) rem R H st :=
 Any.tk i ho pp (λ _ _ _ hS=>Ox.sU an hx ht ((aT.box (hS _ hm)).one hj) (by rw [od]; exact hl) (.one od) ⟨rfl,rfl,rfl⟩) h od hw jT dR
theorem tN(i:Nat)(vs:List Value)(j m:Nat){ops:Array Oper}{n d:Nat}{rem:List Nat}{x:Operand}{t e:TypeId}{b:Nat}{fz:Nat × Nat}{L:List Value}{q:Nat}(ht:nu P t q)(hm:(b,Obj.cells L.toArray e fz)∈H)(h:Any ab c (λ _=>H) ops k n (rem.erase i) R H ((d,.agg vs.toArray)::st))(hv:(L.drop j).take m=vs:=by rfl)
  (ho:ops[i]? = some o:=by rfl) (an:o.op = .load t x:=by rfl) (hx:bl st x=some (.pointer (some ⟨b,0+j,none⟩)):=by rfl) (hq:vs.length=q:=by rfl) (od:o.dst=some d:=by rfl) (hl:Nat.blt d c.n=true:=by rfl) (hw:cY ops st o=some true:=by rfl) (jT:qT ops rem i (Kv ops rem i)=true:=by decide +kernel) (dR:rem.Nodup:=by decide):Any ab c (λ _=>H) ops k (n+1) rem R H st :=
 Any.tk i ho pp (λ _ _ _ hS=>Ox.cw an hx ht hq ((aT.box (hS _ hm)).part hv) (by rw [od]; exact hl) (.one od) ⟨rfl,rfl,rfl⟩) h od hw jT dR
theorem tw(i j:Nat){S:Nat→ah}{ops:Array Oper}{n:Nat}{rem:List Nat}{a b:Oper}(h1:qf ab c a R H st λ R' H' st'=>aS R R'∧(∀ p∈S i,p∈H→p∈H')∧Any ab c S ops k n (rem.erase i) R' H' st')
  (h2:qf ab c b R H st λ R' H' st'=>aS R R'∧(∀ p∈S j,p∈H→p∈H')∧Any ab c S ops k n (rem.erase j) R' H' st') (ha:ops[i]? = some a:=by rfl) (hb:ops[j]? = some b:=by rfl) (lJ:rem.filter (nM ops rem)=[i,j]:=by decide +kernel) (LW:cY ops st a=some true:=by rfl) (LX:cY ops st b=some true:=by rfl) (dR:rem.Nodup:=by decide):Any ab c S ops k (n+1) rem R H st :=
 Any.aNw ha hb lJ LW LX dR rfl rfl h1 h2
theorem ka{H X:ah}:∀ p∈H,p∈X→p∈H:=λ _ h _=>h
theorem kp{R:az}{H X:ah}{C:Prop}(h:C):aS R R∧(∀ p∈H,p∈X→p∈H)∧C:=⟨aS.refl _,ka,h⟩
theorem ku{H H' X:ah}(h:List.Sublist H H'):∀ p∈H,p∈X→p∈H':=λ _ hp _=>h.subset hp
theorem rr{R:az}:aS R R:=aS.refl _
end
abbrev CZ:cQ Int:=CI .i64
def uQ(v:Value)(lo k:Nat):Value:=match v with | .slice A n cap=>.slice (if cap=lo then A else A.map (·.add (lo * k))) (n - lo) (cap - lo) | v=>v
def r8(xs:List Int)(lo:Nat):List Int:=xs.take lo++List.replicate (xs.length - lo) 0
theorem aph{α:Type}{xs ys:List α}{lo hi:Int}(h:lH xs lo hi=some ys):lo.toNat≤xs.length:=by
 obtain ⟨h1,h2,h3,_⟩:=Kq h
 omega
section
variable {P:Program} {B:Base} {main:Bool} {ab:Jd P B main} {c:Ctx} {R:az} {H H':ah} {st st':St} {o:Oper} {C:az→ah→St→Prop}
theorem bD.view{α:Type}{K:cQ α}{k e:Nat}{v:Value}{xs:List α}{Hs:ah}{lo:Nat}(h:bD K k e R v xs Hs)(hs:∀ p∈Hs,p∈H):dJ K k R H (uQ v lo k) (xs.drop lo):=by
 obtain ⟨A,cap,es,rfl,hE,y9,hm⟩:=h.rd hs
 refine ⟨if cap=lo then A else A.map (·.add (lo * k)),cap - lo,es.drop (lo * k),by simp [uQ],hE.drop,by simp; omega,λ da=>?_⟩
 have bV:lo < xs.length:=by
  apply Classical.byContradiction
  intro hn
  exact da (List.drop_eq_nil_of_le (by omega))
 obtain ⟨b,o',rfl,g2⟩:=hm (by rintro rfl; simp at bV)
 refine ⟨b,o'+lo * k,?_,λ j w hj=>?_⟩
 ·rw [if_neg (by omega)]; simp [tJ]
 ·rw [List.getElem?_drop] at hj
  have:=g2 _ _ hj
  simpa [Nat.add_assoc] using this
theorem bD.akE{α:Type}{K:cQ α}{k t e e':Nat}{v:Value}{xs ys:List α}{Hs:ah}{lo:Int}(h:bD K k e R v xs Hs)(ht:nU P t e' k)(hc:lH xs lo (xs.length:Int)=some ys):GK P t k v (xs.length:Int) lo (xs.length:Int) (uQ v lo.toNat k):=by
 obtain ⟨h1,h2,h3,_⟩:=Kq hc
 obtain ⟨A,cap,es,rfl,hE,y9,hm⟩:=h.rd (H:=Hs) (λ _ h=>h)
 intro ρ st x lo' hi bj hx hl hh
 rw [eH] at hh
 rw [hx]
 unfold Instr.sliceAt
 refine ai.bL (ai.underlying ht.1) ?_
 unfold Instr.slice
 refine ai.bL (ai.underlying ht.1) (ai.bL (SU bj hl hh ⟨h1,h2,h3⟩ y9) (ai.bL ht.2 ?_))
 simp only [uQ,eH]
 exact ai.bF _
theorem bD.front{α:Type}{K:cQ α}{k t e e':Nat}{v:Value}{xs ys:List α}{Hs:ah}{hi:Int}(h:bD K k e R v xs Hs)(ht:nU P t e' k)(hc:lH xs 0 hi=some ys):∃ v',bD K k e R v' ys Hs∧GK P t k v (xs.length:Int) 0 hi v':=by
 obtain ⟨h1,h2,h3,rfl⟩:=Kq hc
 have key:∀ A cap,v = .slice A xs.length cap→xs.length≤cap→GK P t k v (xs.length:Int) 0 hi (.slice (if cap=0 then A else A.map (·.add (0 * k))) (hi.toNat - 0) (cap - 0)):=by
  rintro A cap rfl y9 ρ st x lo' qx bj hx hl hh
  rw [eH] at hh
  rw [hx]
  unfold Instr.sliceAt
  refine ai.bL (ai.underlying ht.1) ?_
  unfold Instr.slice
  exact ai.bL (ai.underlying ht.1) (ai.bL (SU bj hl hh ⟨h1,h2,h3⟩ y9) (ai.bL ht.2 (ai.bF _)))
 rcases h with ⟨A,rfl,rfl,rfl⟩ | ⟨b,cap,cs,es,rfl,rfl,g3,g4,g5,g6⟩
 ·have:=key A 0 rfl (dr _)
  have h0:hi.toNat=0:=by simp at h3; omega
  rw [h0] at this
  exact ⟨_,.inl ⟨A,rfl,by simp,rfl⟩,by simpa using this⟩
 ·refine ⟨_,?_,key _ cap rfl g4⟩
  have BN:((xs.take hi.toNat).drop (0:Int).toNat).length=hi.toNat:=by simp; omega
  refine .inr ⟨b,cap,cs,es.take (hi.toNat * k),?_,rfl,g3,by rw [BN]; omega,by simpa using g5.take,λ j w hj=>?_⟩
  ·rw [BN]
   congr 1
   split <;> simp [tJ]
  ·rw [List.getElem?_take] at hj
   split at hj
   ·exact g6 _ _ hj
   ·cases hj
theorem Ox.aHP{α:Type}{K:cQ α}{k e' lo:Nat}{x:Operand}{t e:TypeId}{v:Value}{xs:List α}{Hs:ah}(an:o.op = .call ⟨.builtin .len,#[x],#[t]⟩)(hx:bl st x=some (uQ v lo k))(hl:bD K k e' R v xs Hs)(ht:P.underlying t=some (.slice e))
  (hd:cx o.dst c.n) (hs:aB (cB o.dst (.int .i64 ((xs.drop lo).length:Int)) st) st') (h:C R H st'):bc P B c o R H st C :=
 Ox.aav an hx (hl.view (H:=Hs) (λ _ h=>h)) ht hd hs h
theorem Ox.ao9{t e lo:Nat}(G:ah→ah){x:Operand}{v:Value}{xs:List Int}{Hs:ah}(an:o.op = .call ⟨.builtin .clear,#[x],#[t]⟩)(hx:bl st x=some (uQ v lo 1))(ht:nU P t e 1)(hz:jF P e #[.int .i64 0])(hG:l7 G)
  (hO:bD (CI .i64) 1 e R v xs Hs) (hlo:lo≤xs.length) (hd:cx o.dst c.n) (hC:∀ cN,bD (CI .i64) 1 e R v (r8 xs lo) cN→∃ st',aB (cB o.dst (.tuple #[]) st) st'∧C R (G cN) st'):bc P B c o R (G Hs) st C:=by
 refine ⟨by rw [an]; rfl,hd,λ ρ bj=>?_⟩
 simp only [execOp,an]
 refine ai.fB (a:=⟨.builtin .clear #[t] o.type (#[x].map λ | .const _=>true | _=>false),#[x].map ρ⟩) (ai.bF _) ?_
 simp only [invoke,builtin]
 have e1:(#[x].map ρ)=#[uQ v lo 1]:=by simp [bj x _ hx]
 rw [e1]
 have fin:∀ cN,bD (CI .i64) 1 e R v (r8 xs lo) cN→aO P B R (G cN) (pure (Value.tuple #[])) λ a R' H'=>aO P B R' H' (pure (Next.value a)) λ nx R' H'=>∃ v,(nx = .value v∨(nx = .skip∧v=undef))∧∃ st',aB (cB o.dst v st) st'∧C R' H' st':=λ cN h=>by
  obtain ⟨st',hs,hC'⟩:=hC cN h
  exact aO.eF (aO.eF ⟨_,.inl rfl,st',hs,hC'⟩)
 refine aO.dO ?_
 unfold Builtin.clear_
 refine ai.fB (ai.underlying ht.1) ?_
 by_cases hn:xs.length - lo=0
 ·have hv:∃ A cap,uQ v lo 1 = .slice A 0 cap:=by
   obtain ⟨A,cap,es,rfl,_⟩:=hO.rd (H:=Hs) (λ _ h=>h)
   exact ⟨_,_,by simp only [uQ,hn]; rfl⟩
  obtain ⟨A,cap,hv⟩:=hv
  rw [hv]
  have Lf:r8 xs lo=xs:=by
   unfold r8
   rw [hn,List.replicate_zero,List.append_nil,List.take_of_length_le (by omega)]
  rw [Lf] at fin
  cases A with
  | none=>exact aO.dO (aO.eF (fin Hs hO))
  | some a=>exact aO.dO (aO.eF (fin Hs hO))
 ·rcases hO with ⟨A,rfl,rfl,rfl⟩ | ⟨b,cap,cs,es,rfl,rfl,g3,g4,g5,g6⟩
  ·simp at hn
  ·have hv:uQ (.slice (some ⟨b,0,none⟩) xs.length cap) lo 1 = .slice (some ⟨b,lo,none⟩) (xs.length - lo) (cap - lo):=by
    simp only [uQ]
    rw [if_neg (by omega)]
    simp [tJ]
   rw [hv]
   obtain ⟨m,hm⟩:∃ m,xs.length - lo=m+1:=⟨xs.length - lo - 1,by omega⟩
   rw [hm]
   dsimp only
   obtain ⟨z0,hz0,hzc⟩:=hz
   refine ai.fB hz0 (aO.dO ?_)
   have XX:(Builtin.zeroCells z0.cells (m+1)).toList=List.replicate (m+1) (Value.int .i64 0):=by
    rw [hzc]
    apply List.ext_getElem?
    intro j
    simp only [Builtin.zeroCells]
    by_cases hj:j < m+1
    ·simp [hj,Nat.mod_one]
    ·simp [hj]
   rw [XX]
   have gp:lo+(m+1)≤cs.size:=by omega
   refine aO.given λ dR=>aO.SC _ cs lo 0 (G [(b,.cells cs e (0,0))]) (G [(b,.cells (gz cs lo (List.replicate (m+1) (Value.int .i64 0))) e (0,0))]) (λ u hu=>by rw [List.eq_of_mem_replicate hu]; rfl) (by simp; omega) (by simpa using l7.set hG) dR ?_
   have agC:(r8 xs lo).length=xs.length:=by simp [r8]; omega
   refine fin _ (.inr ⟨b,cap,gz cs lo (List.replicate (m+1) (Value.int .i64 0)),es.take lo++List.replicate (m+1) (Value.int .i64 0),by rw [agC],rfl,by rw [Nb]; exact g3,by rw [agC]; exact g4,?_,λ j w hj=>?_⟩)
   ·have h1:=g5.take (n:=lo)
    rw [Nat.mul_one] at h1
    unfold r8
    rw [hm]
    refine h1.append ?_
    refine ⟨by simp,λ i x hx=>?_⟩
    rw [List.getElem?_replicate] at hx
    split at hx
    ·rename_i hi
     cases hx
     refine ⟨[.int .i64 0],rfl,rfl,λ j w hj=>?_⟩
     have hj1:=(iO.1 hj).1
     have hj0:j=0:=by simp at hj1; omega
     subst hj0
     rw [Nat.mul_one,List.getElem?_replicate,if_pos (by omega)]
     exact hj
    ·cases hx
   ·have mE:=g5.len
    rw [Nat.mul_one] at mE
    rw [FQ _ _ _ _ (by simp; omega)]
    rcases Nat.lt_or_ge j lo with Hv | Hv
    ·rw [uU (by simp; omega),List.getElem?_take,if_pos Hv] at hj
     rw [if_neg (by omega)]
     exact g6 _ _ hj
    ·rw [p9 (by simp; omega)] at hj
     have axV:(es.take lo).length=lo:=by simp; omega
     rw [axV] at hj
     have bV:=(iO.1 hj).1
     rw [if_pos ⟨Hv,by simp at bV ⊢; omega⟩]
     exact hj
end
def ae{α:Type}(a b:Option α):Prop:=∀ r,a=some r→b=some r
theorem ae.bK{α:Type}(a:Option α):ae a a:=λ _ h=>h
theorem ae.none{α:Type}{b:Option α}:ae none b:=λ _ h=>by cases h
theorem ae.bN{α β:Type}{a a':Option α}{f f':α→Option β}(h:ae a a')(hf:∀ x,ae (f x) (f' x)):ae (a.bind f) (a'.bind f'):=by
 intro r hr
 obtain ⟨x,hx,hr⟩:=ag hr
 rw [h x hx]
 exact hf x r hr
theorem ae.af{α:Type}{t:Bool}{a a' b b':Option α}(h:ae a a')(h':ae b b'):ae (af t a b) (af t a' b'):=by
 cases t
 ·exact h'
 ·exact h
def pO{S O:Type}(body:S→Option (S ⊕ O))(s:S):Option O:=nH body 200 s
theorem ae.nH{S O:Type}{body Kf:S→Option (S ⊕ O)}(h:∀ s,ae (body s) (Kf s)):∀ (n:Nat) (s:S),ae (Go.Lg.nH body n s) (bH Kf s)
 | 0,_=>λ _ hr=>by cases hr
 | n+1,s=>λ r hr=>by
  simp only [Go.Lg.nH] at hr
  cases hb:body s with
  | none=>rw [hb] at hr; cases hr
  | some x =>
   rw [hb] at hr
   have gP:=h s x hb
   cases x with
   | inl s'=>rw [zE gP]; exact ae.nH h n s' r hr
   | inr o=>cases hr; exact om gP
theorem ae.fZ{S O:Type}{body Kf:S→Option (S ⊕ O)}{s:S}(h:∀ s,ae (body s) (Kf s)):ae (pO body s) (bH Kf s):=ae.nH h 200 s
theorem ae.jB{α β γ:Type}{f f':α→Option γ}{g g':β→Option γ}(h:∀ x,ae (f x) (f' x))(h':∀ x,ae (g x) (g' x))(x:α ⊕ β):ae (Sum.elim f g x) (Sum.elim f' g' x):=by
 cases x
 ·exact h _
 ·exact h' _
theorem ae.ic{α S O:Type}{f f':α→S→Option (S ⊕ O)}(h:∀ x s,ae (f x s) (f' x s))(x:α)(s:S ⊕ O):ae (Go.Lg.ic f x s) (Go.Lg.ic f' x s):=by
 intro r hr
 cases s with
 | inr s=>cases hr
 | inl s =>
  simp only [Go.Lg.ic] at hr ⊢
  cases hf:f x s with
  | none=>rw [hf] at hr; cases hr
  | some z=>rw [hf] at hr; rw [h x s z hf]; exact hr
theorem ae.mapM{α β:Type}{f f':α→Option β}(h:∀ x,ae (f x) (f' x)):∀ l:List α,ae (l.mapM f) (l.mapM f')
 | []=>ae.bK _
 | a::l=>by
  intro r hr
  rw [List.mapM_cons] at hr ⊢
  cases ha:f a with
  | none=>rw [ha] at hr; simp at hr
  | some b =>
   cases hl:l.mapM f with
   | none=>rw [ha,hl] at hr; simp at hr
   | some bs =>
    rw [ha,hl] at hr
    rw [h a b ha,ae.mapM h l bs hl]
    exact hr
abbrev av:Value:=.slice none 0 0
theorem b9{α β:Sort _}{a:α}{b:β}:a=a∧b=b:=⟨rfl,rfl⟩
theorem aW{α β γ:Sort _}{a:α}{b:β}{d:γ}:a=a∧b=b∧d=d:=⟨rfl,rfl,rfl⟩
theorem ao{st st':St}(h:cz st st'):aB st st':=cz.sub h
theorem oV{a0:Option Value}:a0=a0∧True:=⟨rfl,trivial⟩
theorem eE{a0 a1:Option Value}:a0=a0∧a1=a1∧True:=⟨rfl,rfl,trivial⟩
theorem cV{a0 a1 a2:Option Value}:a0=a0∧a1=a1∧a2=a2∧True:=⟨rfl,rfl,rfl,trivial⟩
theorem cC{a0 a1 a2 a3:Option Value}:a0=a0∧a1=a1∧a2=a2∧a3=a3∧True:=⟨rfl,rfl,rfl,rfl,trivial⟩
theorem ff{a0 a1 a2 a3 a4:Option Value}:a0=a0∧a1=a1∧a2=a2∧a3=a3∧a4=a4∧True:=⟨rfl,rfl,rfl,rfl,rfl,trivial⟩
theorem iW{a0 a1 a2 a3 a4 a5:Option Value}:a0=a0∧a1=a1∧a2=a2∧a3=a3∧a4=a4∧a5=a5∧True:=⟨rfl,rfl,rfl,rfl,rfl,rfl,trivial⟩
theorem ll{a0 a1 a2 a3 a4 a5 a6:Option Value}:a0=a0∧a1=a1∧a2=a2∧a3=a3∧a4=a4∧a5=a5∧a6=a6∧True:=⟨rfl,rfl,rfl,rfl,rfl,rfl,rfl,trivial⟩
theorem uA{a0 a1 a2 a3 a4 a5 a6 a7:Option Value}:a0=a0∧a1=a1∧a2=a2∧a3=a3∧a4=a4∧a5=a5∧a6=a6∧a7=a7∧True:=⟨rfl,rfl,rfl,rfl,rfl,rfl,rfl,rfl,trivial⟩
theorem qK{a0 a1 a2 a3 a4 a5 a6 a7 a8:Option Value}:a0=a0∧a1=a1∧a2=a2∧a3=a3∧a4=a4∧a5=a5∧a6=a6∧a7=a7∧a8=a8∧True:=⟨rfl,rfl,rfl,rfl,rfl,rfl,rfl,rfl,rfl,trivial⟩
theorem Iw{a0 a1 a2 a3 a4 a5 a6 a7 a8 a9:Option Value}:a0=a0∧a1=a1∧a2=a2∧a3=a3∧a4=a4∧a5=a5∧a6=a6∧a7=a7∧a8=a8∧a9=a9∧True:=⟨rfl,rfl,rfl,rfl,rfl,rfl,rfl,rfl,rfl,rfl,trivial⟩
theorem RL{a0 a1 a2 a3 a4 a5 a6 a7 a8 a9 w9:Option Value}:a0=a0∧a1=a1∧a2=a2∧a3=a3∧a4=a4∧a5=a5∧a6=a6∧a7=a7∧a8=a8∧a9=a9∧w9=w9∧True:=⟨rfl,rfl,rfl,rfl,rfl,rfl,rfl,rfl,rfl,rfl,rfl,trivial⟩
theorem aiR{a0 a1 a2 a3 a4 a5 a6 a7 a8 a9 w9 J2:Option Value}:a0=a0∧a1=a1∧a2=a2∧a3=a3∧a4=a4∧a5=a5∧a6=a6∧a7=a7∧a8=a8∧a9=a9∧w9=w9∧J2=J2∧True:=⟨rfl,rfl,rfl,rfl,rfl,rfl,rfl,rfl,rfl,rfl,rfl,rfl,trivial⟩
theorem wc{a0 a1 a2 a3 a4 a5 a6 a7 a8 a9 w9 J2 a12 a13:Option Value}:a0=a0∧a1=a1∧a2=a2∧a3=a3∧a4=a4∧a5=a5∧a6=a6∧a7=a7∧a8=a8∧a9=a9∧w9=w9∧J2=J2∧a12=a12∧a13=a13∧True:=⟨rfl,rfl,rfl,rfl,rfl,rfl,rfl,rfl,rfl,rfl,rfl,rfl,rfl,rfl,trivial⟩
section
variable {P:Program} {B:Base} {main:Bool} {ab:Jd P B main} {c:Ctx} {R:az} {H:ah} {st st':St} {o:Oper} {k:List Item} {ops:Array Oper} {i d:Nat} {rest:List Nat} {t e:TypeId}
theorem dN{x y:Operand}{v:Value}{kd:IntKind}{j:Int}{b n:Nat}(hv:yN P t v j b n)(h:At ab c R H ((d,.pointer (some ⟨b,n,none⟩))::st) (.inRegion ops rest::k))(ho:ops[i]? = some o:=by rfl)(hw:cY ops st o=some true:=by rfl)(hk:(c.kind == CallKind.early)=false:=by rfl)
  (an:o.op = .indexAddr t x y:=by rfl) (hx:bl st x=some v:=by rfl) (hy:bl st y=some (.int kd j):=by rfl) (hd:o.dst=some d:=by rfl) (hl:Nat.blt d c.n=true:=by rfl):At ab c R H st (.inRegion ops (i::rest)::k) :=
 At.s ho hw (Ox.Q7 an hx hy hv (by rw [hd]; exact hl) (.put hd) h) hk
theorem dg(cs:Array Value)(ht:jF P t cs)(h:∀ b,At ab c R ((b,.cells cs t)::H) ((d,.pointer (some ⟨b,0,none⟩))::st) (.inRegion ops rest::k))(ho:ops[i]? = some o:=by rfl)(hw:cY ops st o=some true:=by rfl)(hk:(c.kind == CallKind.early)=false:=by rfl)
  (an:o.op = .alloc t:=by rfl) (hd:o.dst=some d:=by rfl) (hl:Nat.blt d c.n=true:=by rfl):At ab c R H st (.inRegion ops (i::rest)::k) :=
 At.s ho hw (Ox.alloc an ht (by rw [hd]; exact hl) λ b _ _=>⟨_,.put hd,h b⟩) hk
theorem fD(cells:Array Value){parts:Array (Nat × Operand)}{ps:List (Nat × Value)}{places:List (Nat × Nat)}{z:Array Value}(ht:w8 P t places z)(h:At ab c R H ((d,.agg cells)::st) (.inRegion ops rest::k))(ho:ops[i]? = some o:=by rfl)(hw:cY ops st o=some true:=by rfl)(hk:(c.kind == CallKind.early)=false:=by rfl)
  (an:o.op = .build t parts:=by rfl) (hp:CJ st parts.toList=some ps:=by rfl) (hf:Instr.fill (places.toArray[·]?) z ps=some cells:=by repeat first | refine oH rfl rfl rfl rfl ?_ | exact qn) (hd:o.dst=some d:=by rfl) (hl:Nat.blt d c.n=true:=by rfl):At ab c R H st (.inRegion ops (i::rest)::k) :=
 At.s ho hw (Ox.build an ht hp hf (by rw [hd]; exact hl) (.put hd) h) hk
theorem iV(cells:Array Value){n len:Nat}{parts:Array (Nat × Operand)}{ps:List (Nat × Value)}{z base:Array Value}(ht:uW P t e n z)(hb:(Array.range (len * n)).map (z[· % z.size]!)=base)(h:∀ b,At ab c R ((b,.cells cells e)::H) ((d,.slice (some ⟨b,0,none⟩) len len)::st) (.inRegion ops rest::k))
  (ho:ops[i]? = some o:=by rfl) (hw:cY ops st o=some true:=by rfl) (hk:(c.kind == CallKind.early)=false:=by rfl) (an:o.op = .buildSlice t len parts:=by rfl) (hp:CJ st parts.toList=some ps:=by rfl) (hlen:len * n≤16777216:=by decide) (hf:Instr.fill (λ j=>some (j * n,n)) base ps=some cells:=by repeat first | refine oH rfl rfl rfl rfl ?_ | exact qn) (hd:o.dst=some d:=by rfl) (hl:Nat.blt d c.n=true:=by rfl):At ab c R H st (.inRegion ops (i::rest)::k) :=
 At.s ho hw (Ox.buildSlice an ht hp hlen hb hf (by rw [hd]; exact hl) λ b _ _=>⟨_,.put hd,h b⟩) hk
theorem m6(cs':Array Value){x y:Operand}{b off:Nat}{v:Value}{cs:Array Value}{H':ah}(ht:gN P t)(hs:fN H b (.cells cs e (0,0)) (.cells cs' e (0,0)) H')(h:At ab c R H' st (.inRegion ops rest::k))(ho:ops[i]? = some o:=by rfl)(hw:cY ops st o=some true:=by rfl)(hk:(c.kind == CallKind.early)=false:=by rfl)
  (an:o.op = .store t x y:=by rfl) (hx:bl st x=some (.pointer (some ⟨b,off,none⟩)):=by rfl) (hy:bl st y=some v:=by rfl) (hv:v.oneCell'=true:=by rfl) (hl:Nat.blt off cs.size=true:=by rfl) (pF:cs.setIfInBounds off v=cs':=by rfl) (hd:o.dst=none:=by rfl):At ab c R H st (.inRegion ops (i::rest)::k) :=
 At.s ho hw (Ox.j5 an hx hy ht hv hs hl pF hd (.refl _) h) hk
theorem eP(cs':Array Value){x y:Operand}{b off n:Nat}{vs cs:Array Value}{H':ah}(ht:nu P t n)(hs:fN H b (.cells cs e (0,0)) (.cells cs' e (0,0)) H')(h:At ab c R H' st (.inRegion ops rest::k))(ho:ops[i]? = some o:=by rfl)(hw:cY ops st o=some true:=by rfl)(hk:(c.kind == CallKind.early)=false:=by rfl)
  (an:o.op = .store t x y:=by rfl) (hx:bl st x=some (.pointer (some ⟨b,off,none⟩)):=by rfl) (hy:bl st y=some (.agg vs):=by rfl) (hn:vs.size=n:=by rfl) (h1:∀ u∈vs.toList,u.oneCell'=true:=by repeat first | exact cJ | refine cu rfl ?_ | refine cu (aa.one (by assumption)) ?_ | refine cu (dJ.one (by assumption)) ?_ | refine cu (bD.one (by assumption)) ?_ | refine cu (aQ8.one (by assumption)) ?_ | refine cu (aQ9.one (by assumption)) ?_ | refine cu (mP.one (by assumption)) ?_) (hl:Nat.ble (off+n) cs.size=true:=by rfl) (pF:gz cs off vs.toList=cs':=by rfl) (hd:o.dst=none:=by rfl):At ab c R H st (.inRegion ops (i::rest)::k) :=
 At.s ho hw (Ox.gR an hx hy ht hn h1 hs hl pF hd (.refl _) h) hk
theorem CA{x:Operand}{u:TypeId}{kd ks k0:IntKind}{a:Int}(ht:P.underlying t=some (.int k0))(hu:P.underlying u=some (.int kd))(h:At ab c R H ((d,.int kd (kd.wrap a))::st) (.inRegion ops rest::k))(ho:ops[i]? = some o:=by rfl)(hw:cY ops st o=some true:=by rfl)(hk:(c.kind == CallKind.early)=false:=by rfl)
  (an:o.op = .convert t u x:=by rfl) (hx:bl st x=some (.int ks a):=by rfl) (hd:o.dst=some d:=by rfl) (hl:Nat.blt d c.n=true:=by rfl):At ab c R H st (.inRegion ops (i::rest)::k) :=
 At.s ho hw (Ox.O0 an hx ht hu (by rw [hd]; exact hl) (.put hd) h) hk
end
abbrev pT(b:Nat):Value:=.pointer (some ⟨b,0,none⟩)
abbrev bW(l:List Bool):Array Value:=List.toArray ([]++(l.map Value.bool++[]))
abbrev f16:List Bool:=[false,false,false,false,false,false,false,false,false,false,false,false,false,false,false,false]
theorem au{α:Type}{a b:α}(h:some a=some b):b=a:=(kz h).symm
theorem vK{α:Type}{P:Program}{s:Sem α}{a:α}(h:∀ w,(s.run P w,s.events P w #[])=(.ok a w,#[])):ai P s a:=λ w=>⟨congrArg Prod.fst (h w),congrArg Prod.snd (h w)⟩
section
variable {A1:Type} {K1:cQ A1} [CM K1] {k1:Nat} {v1:Value} {x1:List A1} {A2:Type} {K2:cQ A2} [CM K2] {k2:Nat} {v2:Value} {x2:List A2} {A3:Type} {K3:cQ A3} [CM K3] {k3:Nat} {v3:Value} {x3:List A3} {A4:Type} {K4:cQ A4} [CM K4] {k4:Nat} {v4:Value} {x4:List A4} {A5:Type} {K5:cQ A5} [CM K5] {k5:Nat} {v5:Value} {x5:List A5} {A6:Type} {K6:cQ A6} [CM K6] {k6:Nat} {v6:Value} {x6:List A6} {A7:Type} {K7:cQ A7} [CM K7] {k7:Nat} {v7:Value} {x7:List A7} {A8:Type} {K8:cQ A8} [CM K8] {k8:Nat} {v8:Value} {x8:List A8} {A9:Type} {K9:cQ A9} [CM K9] {k9:Nat} {v9:Value} {x9:List A9} {R R':az}
theorem s5(h:aS R R')(a1:aa K1 k1 R v1 x1)(a2:aa K2 k2 R v2 x2):aa K1 k1 R' v1 x1∧aa K2 k2 R' v2 x2:=⟨a1.mono h,a2.mono h⟩
theorem Iu(h:aS R R')(a1:aa K1 k1 R v1 x1)(a2:aa K2 k2 R v2 x2)(a3:aa K3 k3 R v3 x3):aa K1 k1 R' v1 x1∧aa K2 k2 R' v2 x2∧aa K3 k3 R' v3 x3:=⟨a1.mono h,a2.mono h,a3.mono h⟩
theorem vZ(h:aS R R')(a1:aa K1 k1 R v1 x1)(a2:aa K2 k2 R v2 x2)(a3:aa K3 k3 R v3 x3)(a4:aa K4 k4 R v4 x4):aa K1 k1 R' v1 x1∧aa K2 k2 R' v2 x2∧aa K3 k3 R' v3 x3∧aa K4 k4 R' v4 x4:=⟨a1.mono h,a2.mono h,a3.mono h,a4.mono h⟩
theorem fl(h:aS R R')(a1:aa K1 k1 R v1 x1)(a2:aa K2 k2 R v2 x2)(a3:aa K3 k3 R v3 x3)(a4:aa K4 k4 R v4 x4)(a5:aa K5 k5 R v5 x5):aa K1 k1 R' v1 x1∧aa K2 k2 R' v2 x2∧aa K3 k3 R' v3 x3∧aa K4 k4 R' v4 x4∧aa K5 k5 R' v5 x5:=⟨a1.mono h,a2.mono h,a3.mono h,a4.mono h,a5.mono h⟩
theorem m5(h:aS R R')(a1:aa K1 k1 R v1 x1)(a2:aa K2 k2 R v2 x2)(a3:aa K3 k3 R v3 x3)(a4:aa K4 k4 R v4 x4)(a5:aa K5 k5 R v5 x5)(a6:aa K6 k6 R v6 x6):aa K1 k1 R' v1 x1∧aa K2 k2 R' v2 x2∧aa K3 k3 R' v3 x3∧aa K4 k4 R' v4 x4∧aa K5 k5 R' v5 x5∧aa K6 k6 R' v6 x6:=⟨a1.mono h,a2.mono h,a3.mono h,a4.mono h,a5.mono h,a6.mono h⟩
theorem mo7(h:aS R R')(a1:aa K1 k1 R v1 x1)(a2:aa K2 k2 R v2 x2)(a3:aa K3 k3 R v3 x3)(a4:aa K4 k4 R v4 x4)(a5:aa K5 k5 R v5 x5)(a6:aa K6 k6 R v6 x6)(a7:aa K7 k7 R v7 x7):aa K1 k1 R' v1 x1∧aa K2 k2 R' v2 x2∧aa K3 k3 R' v3 x3∧aa K4 k4 R' v4 x4∧aa K5 k5 R' v5 x5∧aa K6 k6 R' v6 x6∧aa K7 k7 R' v7 x7:=⟨a1.mono h,a2.mono h,a3.mono h,a4.mono h,a5.mono h,a6.mono h,a7.mono h⟩
theorem gy(h:aS R R')(a1:aa K1 k1 R v1 x1)(a2:aa K2 k2 R v2 x2)(a3:aa K3 k3 R v3 x3)(a4:aa K4 k4 R v4 x4)(a5:aa K5 k5 R v5 x5)(a6:aa K6 k6 R v6 x6)(a7:aa K7 k7 R v7 x7)(a8:aa K8 k8 R v8 x8)(a9:aa K9 k9 R v9 x9):aa K1 k1 R' v1 x1∧aa K2 k2 R' v2 x2∧aa K3 k3 R' v3 x3∧aa K4 k4 R' v4 x4∧aa K5 k5 R' v5 x5∧aa K6 k6 R' v6 x6∧aa K7 k7 R' v7 x7∧aa K8 k8 R' v8 x8∧aa K9 k9 R' v9 x9:=⟨a1.mono h,a2.mono h,a3.mono h,a4.mono h,a5.mono h,a6.mono h,a7.mono h,a8.mono h,a9.mono h⟩
end
section
variable {P:Program} {B:Base} {main:Bool} {ab:Jd P B main} {c:Ctx} {R:az} {H:ah} {st st':St} {o:Oper} {k:List Item} {ops:Array Oper} {i d n:Nat} {rest rem:List Nat} {t e:TypeId}
theorem bB{f:FuncId}{fn:Func}{body:Code}{args:List Value}{Post:Value→az→ah→Prop}(hf:P.funcs[f]? = some fn)(n:Nat)
  (h:∀ fr cs,(∀ v R' H',Post v R' H'→ab.J R' H' (aY (fr.finish v) cs))→At ab ⟨f,.normal,none,n,[],fr::cs⟩ R H (u7 0 args) [.code body]) (hb:fn.body=some body:=by rfl) (qz:fn.ntmps=n:=by rfl) (hn:Nat.ble args.length n=true:=by rfl):ba ab f args.toArray R H Post:=ba.oX hf hb qz hn h
theorem kI{N:ah}{x y:Operand}{v:Value}{kd:IntKind}{j:Int}{b m:Nat}(hv:yN P t v j b m)(an:o.op = .indexAddr t x y:=by rfl)(hx:bl st x=some v:=by rfl)(hy:bl st y=some (.int kd j):=by rfl)(hd:o.dst=some d:=by rfl)(hl:Nat.blt d c.n=true:=by rfl) :
  ∀ R' H',aS R R'→(∀ p∈N,p∈H')→bc P B c o R' H' st λ R1 H1 ng=>R1=R'∧H1=H'∧ng=[(d,.pointer (some ⟨b,m,none⟩))] :=
 λ _ _ _ _=>Ox.Q7 an hx hy hv (by rw [hd]; exact hl) (.one hd) ⟨rfl,rfl,rfl⟩
theorem kA{N N':ah}{x:Operand}{b q:Nat}{v:Value}{L:List Value}(ht:gN P t)(j:Nat)(hc:aT R N' b q L)(hN:∀ p∈N',p∈N)(hj:L[j]? = some v:=by rfl)(an:o.op = .load t x:=by rfl)(hx:bl st x=some (.pointer (some ⟨b,q+j,none⟩)):=by rfl)(hd:o.dst=some d:=by rfl)(hl:Nat.blt d c.n=true:=by rfl) :
  ∀ R' H',aS R R'→(∀ p∈N,p∈H')→bc P B c o R' H' st λ R1 H1 ng=>R1=R'∧H1=H'∧ng=[(d,v)] :=
 λ _ _ hR hS=>Ox.sU an hx ht (((hc.le hR).sub λ p h=>hS p (hN p h)).one hj) (by rw [hd]; exact hl) (.one hd) ⟨rfl,rfl,rfl⟩
theorem kU{N:ah}{x:Operand}{b q:Nat}{v:Value}{L:List Value}(ht:gN P t)(j:Nat)(hc:aT R [] b q L)(hj:L[j]? = some v:=by rfl)(an:o.op = .load t x:=by rfl)(hx:bl st x=some (.pointer (some ⟨b,q+j,none⟩)):=by rfl)(hd:o.dst=some d:=by rfl)(hl:Nat.blt d c.n=true:=by rfl) :
  ∀ R' H',aS R R'→(∀ p∈N,p∈H')→bc P B c o R' H' st λ R1 H1 ng=>R1=R'∧H1=H'∧ng=[(d,v)] :=
 λ _ _ hR _=>Ox.sU an hx ht ((hc.up hR).one hj) (by rw [hd]; exact hl) (.one hd) ⟨rfl,rfl,rfl⟩
theorem kX{N:ah}{x:Operand}{b:Nat}{v:Value}{L:List Value}{fz:Nat × Nat}(ht:gN P t)(j:Nat)(hm:(b,Obj.cells L.toArray e fz)∈N)(hj:L[j]? = some v:=by rfl)(an:o.op = .load t x:=by rfl)(hx:bl st x=some (.pointer (some ⟨b,0+j,none⟩)):=by rfl)(hd:o.dst=some d:=by rfl)(hl:Nat.blt d c.n=true:=by rfl) :
  ∀ R' H',aS R R'→(∀ p∈N,p∈H')→bc P B c o R' H' st λ R1 H1 ng=>R1=R'∧H1=H'∧ng=[(d,v)] :=
 λ _ _ _ hS=>Ox.sU an hx ht ((aT.box (hS _ hm)).one hj) (by rw [hd]; exact hl) (.one hd) ⟨rfl,rfl,rfl⟩
section
variable {N:ah} {m:Nat} {v:Value}
theorem tQ(i:Nat)(ho:ops[i]? = some o)(hf:∀ R' H',aS R R'→(∀ p∈N,p∈H')→bc P B c o R' H' st λ R1 H1 ng=>R1=R'∧H1=H'∧ng=[(d,v)])(h:Any ab c (λ _=>N) ops k m (rem.erase i) R N ((d,v)::st))
  (od:o.dst=some d:=by rfl) (hw:cY ops st o=some true:=by rfl) (jT:qT ops rem i (Kv ops rem i)=true:=by decide +kernel) (dR:rem.Nodup:=by decide):Any ab c (λ _=>N) ops k (m+1) rem R N st:=Any.tk i ho pp hf h od hw jT dR
end
theorem oW(i:Nat){S:Nat→ah}{m n b:Nat}{x y:Operand}{l:List Bool}{cs:Array Value}{H':ah}(ht:nu P t n)(hl:l.length=n)(hs:fN H b (.cells cs e (0,0)) (.cells (bW l) e (0,0)) H')(hK:∀ p∈S i,p∈H→p∈H')(h:Any ab c S ops k m (rem.erase i) R H' st)(ho:ops[i]? = some o:=by rfl)(hw:cY ops st o=some true:=by rfl)
  (an:o.op = .store t x y:=by rfl) (hx:bl st x=some (.pointer (some ⟨b,0,none⟩)):=by rfl) (hy:bl st y=some (.agg (bW l)):=by rfl) (hz:cs.size=n:=by simp) (hd:o.dst=none:=by rfl) (lJ:rem.filter (nM ops rem)=[i]:=by decide +kernel) (dR:rem.Nodup:=by decide):Any ab c S ops k (m+1) rem R H st :=
 Any.on i ho hw (bc.to (Ox.gR an hx hy ht (by simp [hl]) (fK cJ (fK (mi λ _=>rfl) cJ)) hs (by simp [hz]) (lQ (by simp [hl,hz])) hd (.refl _) ⟨rr,hK,h⟩)) lJ dR
theorem oS(i:Nat)(cs':Array Value){S:Nat→ah}{m b off:Nat}{x y:Operand}{v:Value}{cs:Array Value}{H':ah}(ht:gN P t)(hs:fN H b (.cells cs e (0,0)) (.cells cs' e (0,0)) H')(hK:∀ p∈S i,p∈H→p∈H')(h:Any ab c S ops k m (rem.erase i) R H' st)(ho:ops[i]? = some o:=by rfl)(hw:cY ops st o=some true:=by rfl)
  (an:o.op = .store t x y:=by rfl) (hx:bl st x=some (.pointer (some ⟨b,off,none⟩)):=by rfl) (hy:bl st y=some v:=by rfl) (hv:v.oneCell'=true:=by rfl) (hl:Nat.blt off cs.size=true:=by rfl) (pF:cs.setIfInBounds off v=cs':=by rfl) (hd:o.dst=none:=by rfl) (lJ:rem.filter (nM ops rem)=[i]:=by decide +kernel) (dR:rem.Nodup:=by decide):Any ab c S ops k (m+1) rem R H st :=
 Any.on i ho hw (bc.to (Ox.j5 an hx hy ht hv hs hl pF hd (.refl _) ⟨rr,hK,h⟩)) lJ dR
theorem xb{α:Type}{K:cQ α}{q cap b:Nat}{es:List Value}{cs:Array Value}{fz:Nat × Nat}{tl:ah}(x:α)(hK:K R x es)(hq:es.length=q:=by rfl)(he:es++[]=cs.toList:=by rfl):q8 K q R ((b,Obj.cells cs e fz)::tl) (.slice (some ⟨b,0,none⟩) 1 cap) [x] :=
 q8.lit z0 (bu.le (bu.cons hK hq bu.nil) he) rfl
end
end Go.Lg
