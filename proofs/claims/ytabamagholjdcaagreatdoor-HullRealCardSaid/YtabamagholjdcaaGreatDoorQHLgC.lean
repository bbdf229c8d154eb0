/- Models, operations, lists, maps, ranges over functions. Conditions: none. -/
import Derived.Test.YtabamagholjdcaaGreatDoorQHLgA
namespace Go.Lg
open Go.Conc
def lb{S O:Type}(body:S→Option (S ⊕ O)):Nat→S→Option O
 | 0,_=>none
 | n+1,s=>match body s with
  | none=>none
  | some (.inl s')=>lb body n s'
  | some (.inr o)=>some o
open Classical in
noncomputable def bd{S O:Type}(body:S→Option (S ⊕ O))(s:S):Option O:=if h:∃ o n,lb body n s=some o then some h.choose else none
theorem Zu{S O:Type}{body:S→Option (S ⊕ O)}:∀ {n m:Nat} {s:S} {o:O},n≤m→lb body n s=some o→lb body m s=some o
 | 0,_,_,_,_,h=>by cases h
 | n+1,0,_,_,hm,_=>by omega
 | n+1,m+1,s,o,hm,h=>by
  simp only [lb] at h ⊢
  cases hb:body s with
  | none=>rw [hb] at h; cases h
  | some x=>cases x with
   | inl s'=>rw [hb] at h; exact Zu (by omega) h
   | inr o'=>rw [hb] at h; exact h
theorem Zw{S O:Type}{body:S→Option (S ⊕ O)}{n:Nat}{s:S}{o:O}(h:lb body n s=some o):bd body s=some o:=by
 have hex:∃ o n,lb body n s=some o:=⟨o,n,h⟩
 unfold bd
 rw [dif_pos hex]
 obtain ⟨m,hm⟩:=hex.choose_spec
 have h1:=Zu (Nat.le_max_left n m) h
 have h2:=Zu (Nat.le_max_right n m) hm
 rw [h1] at h2
 exact h2.symm
theorem Zv{S O:Type}{body:S→Option (S ⊕ O)}{s:S}{o:O}(h:bd body s=some o):∃ n,lb body n s=some o:=by
 unfold bd at h
 split at h
 ·rename_i hex
  cases h
  exact hex.choose_spec
 ·cases h
theorem gW{S O:Type}{body:S→Option (S ⊕ O)}{s:S}{o:O}(h:body s=some (.inr o)):bd body s=some o :=
 Zw (n:=1) (by simp [lb,h])
theorem si{S O:Type}{body:S→Option (S ⊕ O)}{s s':S}(h:body s=some (.inl s')):bd body s=bd body s':=by
 cases h':bd body s' with
 | some o =>
  obtain ⟨n,hn⟩:=Zv h'
  exact Zw (n:=n+1) (by simp [lb,h,hn])
 | none =>
  cases h2:bd body s with
  | none=>rfl
  | some o =>
   obtain ⟨n,hn⟩:=Zv h2
   cases n with
   | zero=>cases hn
   | succ n =>
    simp only [lb,h] at hn
    rw [Zw hn] at h'
    cases h'
theorem af{α β:Type}{o:Option α}{f:α→Option β}{r:β}(h:o.bind f=some r):∃ x,o=some x∧f x=some r:=by
 cases o with
 | none=>cases h
 | some x=>exact ⟨x,rfl,h⟩
def ae{α:Type}(t:Bool)(a b:Option α):Option α:=match t with | true=>a | false=>b
theorem bj{α:Type}{t:Bool}{a b:Option α}{r:α}{G:Prop}(h:ae t a b=some r)(h1:t=true→a=some r→G)(h2:t=false→b=some r→G):G:=by
 cases t with
 | true=>exact h1 rfl h
 | false=>exact h2 rfl h
theorem ad{α:Type}{a b:α}(h:some a=some b):a=b:=Option.some.inj h
def idx{α:Type}(xs:List α)(i:Int):Option α:=if 0≤i then xs[i.toNat]? else none
def cV{α:Type}(xs ys:List α):Option (List α):=if xs.length+ys.length≤16777216 then some (xs++ys) else none
def gQ{α:Type}(xs:List α)(lo hi:Int):Option (List α):=if 0≤lo∧lo≤hi∧hi≤xs.length then some ((xs.take hi.toNat).drop lo.toNat) else none
theorem zV{α:Type}{xs:List α}{i:Int}{x:α}(h:idx xs i=some x):0≤i∧i < xs.length∧xs[i.toNat]? = some x:=by
 unfold idx at h
 split at h
 ·have:=(List.getElem?_eq_some_iff.1 h).1
  exact ⟨‹_›,by omega,h⟩
 ·cases h
theorem aow{α:Type}{xs ys zs:List α}(h:cV xs ys=some zs):xs.length+ys.length≤16777216∧zs=xs++ys:=by
 unfold cV at h
 split at h
 ·cases h; exact ⟨‹_›,rfl⟩
 ·cases h
section
variable {P:Program} {B:Base} {main:Bool} {ag:Jd P B main} {c:Ctx} {R:aE} {H:an} {st ab:St} {k:List Item}
theorem At.bd{S O ρ:Type}{body:S→Option (S ⊕ O)}{cont:O→Option ρ}{s0:S}{r:ρ}{code:Code}(hM:(bd body s0).bind cont=some r)(I:S→aE→an→St→Prop)
  (asw:∀ s R H st,I s R H st→∀ x,body s=some x→(∀ s',x = .inl s'→∀ R' H' ab,I s' R' H' ab→At ag c R' H' ab (.inLoop code::k))→(∀ o,x = .inr o→cont o=some r)→At ag c R H st (.code code :: .inLoop code::k))
  (h0:I s0 R H st):At ag c R H st (.code (.loop code)::k):=by
 obtain ⟨o,hl,hc⟩:=af hM
 obtain ⟨n,hn⟩:=Zv hl
 clear hM hl
 have key:∀ n s R H st,lb body n s=some o→I s R H st→At ag c R H st (.code code :: .inLoop code::k):=by
  intro n
  induction n with
  | zero=>intro s R H st h; cases h
  | succ n ih =>
   intro s R H st h hI
   simp only [lb] at h
   cases hb:body s with
   | none=>rw [hb] at h; cases h
   | some x =>
    rw [hb] at h
    refine asw s R H st hI x hb (λ s' hx R' H' ab UP=>?_) (λ o' hx=>?_)
    ·subst hx; exact At.inLoop (ih s' R' H' ab h UP)
    ·subst hx; cases h; exact hc
 exact At.enterLoop (key n s0 R H st hn h0)
theorem At.known{t:Nat}{x b:Bool}{todo:List Item}(hx:st.lookup t=some (.bool x))(hb:x=b)(h:At ag c R H ((t,.bool b)::st) todo):At ag c R H st todo:=by
 subst hb; exact λ tmps ht=>h tmps (ht.ahH hx)
theorem Any.known{S:Nat→an}{ops:Array Oper}{n:Nat}{rem:List Nat}{t:Nat}{x b:Bool}(hx:st.lookup t=some (.bool x))(hb:x=b)(h:Any ag c S ops k n rem R H ((t,.bool b)::st)):Any ag c S ops k n rem R H st:=by
 subst hb; exact ⟨h.1,λ tmps ht=>h.2 tmps (ht.ahH hx)⟩
theorem At.FB{x:Operand}{th el:Code}{t:Bool}(hx:bg st x=some (.bool t))(ht:t=true)(h:At ag c R H st (.code th::k)):At ag c R H st (.code (.cond x th el)::k):=by subst ht; exact At.cond_true hx h
theorem At.FA{x:Operand}{th el:Code}{t:Bool}(hx:bg st x=some (.bool t))(ht:t=false)(h:At ag c R H st (.code el::k)):At ag c R H st (.code (.cond x th el)::k):=by subst ht; exact At.cond_false hx h
end
abbrev b9(α:Type):=aE→α→List Value→Prop
class CM {α:Type} (C:b9 α):Prop where
 mono:∀ {R R':aE} {x:α} {es:List Value},aN R R'→C R x es→C R' x es
 one:∀ {R:aE} {x:α} {es:List Value},C R x es→∀ u∈es,u.oneCell'=true
def CI(kd:IntKind):b9 Int:=λ _ x es=>es=[.int kd x]
def CS:b9 ByteArray:=λ _ x es=>es=[.string x]
instance {kd:IntKind}:CM (CI kd):=⟨λ _ h=>h,λ h=>by cases h; simp [Value.oneCell']⟩
instance:CM CS:=⟨λ _ h=>h,λ h=>by cases h; simp [Value.oneCell']⟩
structure aF {α:Type} (C:b9 α) (k:Nat) (R:aE) (xs:List α) (es:List Value):Prop where
 len:es.length=xs.length * k
 at_:∀ (i:Nat) (x:α),xs[i]? = some x→∃ e1:List Value,C R x e1∧e1.length=k∧∀ (j:Nat) (w:Value),e1[j]? = some w→es[i * k+j]? = some w
theorem aF.nil{α:Type}{C:b9 α}{k:Nat}{R:aE}:aF C k R [] []:=⟨by simp,by simp⟩
theorem aF.mono{α:Type}{C:b9 α}[CM C]{k:Nat}{R R':aE}{xs:List α}{es:List Value}(h:aF C k R xs es)(hR:aN R R'):aF C k R' xs es :=
 ⟨h.len,λ i x hx=>by obtain ⟨e1,h1,h2,h3⟩:=h.at_ i x hx; exact ⟨e1,CM.mono hR h1,h2,h3⟩⟩
theorem aF.append{α:Type}{C:b9 α}{k:Nat}{R:aE}{xs ys:List α}{es fs:List Value}(h:aF C k R xs es)(g:aF C k R ys fs):aF C k R (xs++ys) (es++fs):=by
 refine ⟨by rw [List.length_append,List.length_append,h.len,g.len,Nat.add_mul],λ i x hx=>?_⟩
 by_cases hi:i < xs.length
 ·rw [List.getElem?_append_left hi] at hx
  obtain ⟨e1,h1,h2,h3⟩:=h.at_ i x hx
  refine ⟨e1,h1,h2,λ j w hj=>?_⟩
  have:=h3 j w hj
  rw [List.getElem?_append_left (List.getElem?_eq_some_iff.1 this).1]
  exact this
 ·rw [List.getElem?_append_right (by omega)] at hx
  obtain ⟨e1,h1,h2,h3⟩:=g.at_ _ x hx
  refine ⟨e1,h1,h2,λ j w hj=>?_⟩
  have:=h3 j w hj
  have e:i * k+j=es.length+((i - xs.length) * k+j):=by
   rw [h.len]
   have:i=xs.length+(i - xs.length):=by omega
   rw [← Nat.add_assoc,← Nat.add_mul,← this]
  rw [e,List.getElem?_append_right (by omega),Nat.add_sub_cancel_left]
  exact this
theorem aF.single{α:Type}{C:b9 α}{k:Nat}{R:aE}{x:α}{es:List Value}(h:C R x es)(hk:es.length=k):aF C k R [x] es:=by
 refine ⟨by simp [hk],λ i y hy=>?_⟩
 cases i with
 | zero=>cases hy; exact ⟨es,h,hk,λ j w hj=>by simpa using hj⟩
 | succ i=>simp at hy
theorem aF.one{α:Type}{C:b9 α}[CM C]{k:Nat}{R:aE}{xs:List α}{es:List Value}(h:aF C k R xs es):∀ u∈es,u.oneCell'=true:=by
 intro u hu
 obtain ⟨j,hj⟩:=List.getElem?_of_mem hu
 have br:=(List.getElem?_eq_some_iff.1 hj).1
 rw [h.len] at br
 have hk:0 < k:=by cases k with | zero=>simp at br | succ k=>omega
 have hi:j / k < xs.length:=Nat.div_lt_of_lt_mul (by rw [Nat.mul_comm]; exact br)
 obtain ⟨e1,h1,h2,h3⟩:=h.at_ (j / k) _ (List.getElem?_eq_getElem hi)
 have hm:j % k < e1.length:=by rw [h2]; exact Nat.mod_lt _ hk
 have:=h3 (j % k) _ (List.getElem?_eq_getElem hm)
 rw [show j / k * k+j % k=j by rw [Nat.mul_comm]; exact Nat.div_add_mod j k,hj] at this
 cases this
 exact CM.one h1 _ (List.getElem_mem hm)
theorem aF.drop{α:Type}{C:b9 α}{k n:Nat}{R:aE}{xs:List α}{es:List Value}(h:aF C k R xs es):aF C k R (xs.drop n) (es.drop (n * k)):=by
 refine ⟨by simp [h.len,Nat.sub_mul],λ i x hx=>?_⟩
 rw [List.getElem?_drop] at hx
 obtain ⟨e1,h1,h2,h3⟩:=h.at_ _ x hx
 refine ⟨e1,h1,h2,λ j w hj=>?_⟩
 rw [List.getElem?_drop,← h3 j w hj,Nat.add_mul,Nat.add_assoc]
theorem aF.take{α:Type}{C:b9 α}{k n:Nat}{R:aE}{xs:List α}{es:List Value}(h:aF C k R xs es):aF C k R (xs.take n) (es.take (n * k)):=by
 refine ⟨by simp only [List.length_take,h.len]; exact Nat.mul_min_mul_right _ _ _,λ i x hx=>?_⟩
 rw [List.getElem?_take] at hx
 split at hx
 ·rename_i hi
  obtain ⟨e1,h1,h2,h3⟩:=h.at_ _ x hx
  refine ⟨e1,h1,h2,λ j w hj=>?_⟩
  have k6:j < k:=by rw [← h2]; exact (List.getElem?_eq_some_iff.1 hj).1
  rw [List.getElem?_take,if_pos,h3 j w hj]
  calc i * k+j < i * k+k:=by omega
   _=(i+1) * k:=by rw [Nat.add_mul,Nat.one_mul]
   _≤n * k:=Nat.mul_le_mul_right k hi
 ·cases hx
def au{α:Type}(C:b9 α)(k:Nat)(R:aE)(v:Value)(xs:List α):Prop :=
 ∃ A cap es,v = .slice A xs.length cap∧aF C k R xs es∧xs.length≤cap∧(xs≠[]→∃ b o arr e fz,A=some ⟨b,o,none⟩∧R b=some (.cells arr e fz)∧∀ (j:Nat) (w:Value),es[j]? = some w→arr[o+j]? = some w)
theorem au.mono{α:Type}{C:b9 α}[CM C]{k:Nat}{R R':aE}{v:Value}{xs:List α}(h:au C k R v xs)(hR:aN R R'):au C k R' v xs:=by
 obtain ⟨A,cap,es,h1,h2,hc,h3⟩:=h
 refine ⟨A,cap,es,h1,h2.mono hR,hc,λ hx=>?_⟩
 obtain ⟨b,o,arr,e,fz,g1,g2,g3⟩:=h3 hx
 exact ⟨b,o,arr,e,fz,g1,hR _ _ g2,g3⟩
theorem au.nil{α:Type}{C:b9 α}{k:Nat}{R:aE}{A:Option Addr}{cap:Nat}:au C k R (.slice A 0 cap) []:=⟨A,cap,[],rfl,.nil,Nat.zero_le _,λ h=>absurd rfl h⟩
def m7{α:Type}(C:b9 α)(k:Nat):b9 (List α):=λ R xs es=>∃ v,es=[v]∧au C k R v xs
instance {α:Type} {C:b9 α} [CM C] {k:Nat}:CM (m7 C k):=⟨λ hR ⟨v,h1,h2⟩=>⟨v,h1,h2.mono hR⟩,λ ⟨v,h1,A,cap,es,h2,_⟩=>by subst h1; subst h2; simp [Value.oneCell']⟩
def aU{α:Type}(C:b9 α)(k e:Nat)(R:aE)(v:Value)(xs:List α)(Hs:an):Prop :=
 (∃ A,v = .slice A 0 0∧xs=[]∧Hs=[])∨∃ b cap cs es,v = .slice (some ⟨b,0,none⟩) xs.length cap∧Hs=[(b,.cells cs e (0,0))]∧cs.size=cap * k∧xs.length≤cap∧aF C k R xs es∧∀ (j:Nat) (w:Value),es[j]? = some w→cs[j]? = some w
theorem aU.mono{α:Type}{C:b9 α}[CM C]{k e:Nat}{R R':aE}{v:Value}{xs:List α}{Hs:an}(h:aU C k e R v xs Hs)(hR:aN R R'):aU C k e R' v xs Hs:=by
 rcases h with h | ⟨b,cap,cs,es,h1,h2,h3,h4,h5,h6⟩
 ·exact .inl h
 ·exact .inr ⟨b,cap,cs,es,h1,h2,h3,h4,h5.mono hR,h6⟩
theorem aU.nil{α:Type}{C:b9 α}{k e:Nat}{R:aE}{A:Option Addr}:aU C k e R (.slice A 0 0) [] []:=.inl ⟨A,rfl,rfl,rfl⟩
def cZ{α:Type}(C:b9 α)(k:Nat)(R:aE)(H:an)(v:Value)(ys:List α):Prop :=
 ∃ A cap es,v = .slice A ys.length cap∧aF C k R ys es∧(ys≠[]→∃ b o,A=some ⟨b,o,none⟩∧aR R H b o es)
theorem au.arg{α:Type}{C:b9 α}{k:Nat}{R:aE}{H:an}{v:Value}{xs:List α}(h:au C k R v xs):cZ C k R H v xs:=by
 obtain ⟨A,cap,es,h1,h2,_,h3⟩:=h
 refine ⟨A,cap,es,h1,h2,λ hx=>?_⟩
 obtain ⟨b,o,arr,e,fz,g1,g2,g3⟩:=h3 hx
 exact ⟨b,o,g1,λ j w hj=>⟨rfl,arr,e,fz,.inl g2,g3 j w hj⟩⟩
theorem cZ.lit{α:Type}{C:b9 α}{k e n cap b:Nat}{R:aE}{H:an}{ys:List α}{cs:Array Value}{fz:Nat × Nat}(hm:(b,Obj.cells cs e fz)∈H)(hE:aF C k R ys cs.toList)(hn:ys.length=n):cZ C k R H (.slice (some ⟨b,0,none⟩) n cap) ys:=by
 subst hn
 exact ⟨_,cap,cs.toList,rfl,hE,λ _=>⟨b,0,rfl,λ j w hj=>⟨rfl,cs,e,fz,.inr hm,by simpa using hj⟩⟩⟩
def gF(G:an→an):Prop:=∃ A D,∀ X,G X=A++(X++D)
theorem gF.set{G:an→an}(hG:gF G){b:Nat}{o o':Obj}:dS (G [(b,o)]) b o o' (G [(b,o')]):=by
 obtain ⟨A,D,h⟩:=hG
 rw [h,h]
 clear h
 induction A with
 | nil=>exact .here
 | cons p A ih=>exact .there ih
end Go.Lg
namespace Go.Lg
open Go.Conc
section
variable {P:Program} {B:Base} {main:Bool} {ag:Jd P B main} {c:Ctx} {R:aE} {H H':an} {st ab:St} {o:Oper} {C:aE→an→St→Prop}
def BK(P:Program)(t:TypeId)(v:Value)(i:Int)(b n:Nat):Prop:=∀ kd,aq P (Instr.indexAt t v (.int kd i)) (.pointer (some ⟨b,n,none⟩))
theorem au.elem{α:Type}{K:b9 α}{k t e:Nat}{v:Value}{xs:List α}{i:Int}{x:α}(h:au K k R v xs)(ht:lC P t e k)(hi:idx xs i=some x) :
  ∃ b n es,K R x es∧aR R [] b n es∧BK P t v i b n:=by
 obtain ⟨h1,h2,h3⟩:=zV hi
 obtain ⟨A,cap,es,rfl,hE,_,hc⟩:=h
 obtain ⟨b,o,arr,e',fz,rfl,g2,g3⟩:=hc (by rintro rfl; simp at h3)
 obtain ⟨e1,f1,f2,f3⟩:=hE.at_ _ _ h3
 refine ⟨b,o+i.toNat * k,e1,f1,λ j w hj=>⟨rfl,arr,e',fz,.inl g2,?_⟩,λ kd=>?_⟩
 ·have:=g3 _ _ (f3 j w hj)
  simpa [Nat.add_assoc] using this
 ·have:=aaS (P:=P) (b:=b) (m:=o) (cap:=cap) (kd:=kd) ht (j:=i.toNat) (len:=xs.length) (by omega)
  rwa [Int.toNat_of_nonneg h1] at this
theorem Ox.bp{x y:Operand}{t:TypeId}{v:Value}{kd:IntKind}{i:Int}{b n:Nat}(aJ:o.op = .indexAddr t x y)(hx:bg st x=some v)(hy:bg st y=some (.int kd i))(hv:BK P t v i b n)
  (hd:cp o.dst c.n) (hs:aH (bR o.dst (.pointer (some ⟨b,n,none⟩)) st) ab) (h:C R H ab):aM P B c o R H st C :=
 Ox.iS (s:=λ ρ=>Instr.indexAt t (ρ x) (ρ y)) (by rw [aJ]; rfl) hd (λ ρ=>by simp only [execOp,aJ]) (λ ρ aX=>by rw [aX x _ hx,aX y _ hy]; exact hv kd) hs h
theorem aGV{t e len k b m:Nat}{i:Int}(ht:yY P t len e k)(hi:0≤i∧i < len):BK P t (.pointer (some ⟨b,m,none⟩)) i b (m+i.toNat * k):=λ kd=>by
 have:=aL3 (P:=P) (b:=b) (m:=m) (kd:=kd) ht (j:=i.toNat) (by omega)
 rwa [Int.toNat_of_nonneg hi.1] at this
theorem Ox.sm{α:Type}{K:b9 α}{k:Nat}{x:Operand}{t e:TypeId}{v:Value}{xs:List α}(aJ:o.op = .call ⟨.builtin .len,#[x],#[t]⟩)(hx:bg st x=some v)(hl:au K k R v xs)(ht:P.underlying t=some (.slice e))
  (hd:cp o.dst c.n) (hs:aH (bR o.dst (.int .i64 (xs.length:Int)) st) ab) (h:C R H ab):aM P B c o R H st C:=by
 obtain ⟨A,cap,es,rfl,_⟩:=hl
 exact Ox.len aJ hx ht hd hs h
theorem Ox.tt{α:Type}{K:b9 α}{k e':Nat}{x:Operand}{t e:TypeId}{v:Value}{xs:List α}{Hs:an}(aJ:o.op = .call ⟨.builtin .len,#[x],#[t]⟩)(hx:bg st x=some v)(hl:aU K k e' R v xs Hs)(ht:P.underlying t=some (.slice e))
  (hd:cp o.dst c.n) (hs:aH (bR o.dst (.int .i64 (xs.length:Int)) st) ab) (h:C R H ab):aM P B c o R H st C:=by
 rcases hl with ⟨A,rfl,rfl,_⟩ | ⟨b,cap,cs,es,rfl,_⟩
 ·exact Ox.len aJ hx ht hd hs h
 ·exact Ox.len aJ hx ht hd hs h
def i64(z:Int):Int:=IntKind.wrap .i64 z
theorem Zg{z:Int}(h : -9223372036854775808≤z∧z≤9223372036854775807):i64 z=z:=aNc h
theorem Ox.ar{x y:Operand}{bo:BinOp}{t u:TypeId}{a b z:Int}{kd:IntKind}(aJ:o.op = .binOp bo t x y u)(hx:bg st x=some (.int kd a))(hy:bg st y=some (.int kd b))(hr:TA bo a b=some z)
  (hd:cp o.dst c.n) (hs:aH (bR o.dst (.int kd (kd.wrap z)) st) ab) (h:C R H ab):aM P B c o R H st C :=
 Ox.iS (s:=λ ρ=>do eqGuard bo t x y (ρ x) (ρ y); binOp bo t (ρ x) (ρ y)) (by rw [aJ]; rfl) hd (λ ρ=>by simp only [execOp,aJ]) (λ ρ aX=>by
  rw [aX x _ hx,aX y _ hy]
  refine aq.bind (Ed _ _ _ _ _ _ _ _) ?_
  cases bo <;> simp only [TA,Option.some.injEq,reduceCtorEq] at hr <;> subst hr <;> simp only [binOp,ne_eq,not_true_eq_false,if_false,Op.intArith] <;> exact aq.pure _) hs h
theorem Ox.yr{x:Operand}{t:TypeId}{a:Int}{kd:IntKind}(aJ:o.op = .unOp .neg t x)(hx:bg st x=some (.int kd a))
  (hd:cp o.dst c.n) (hs:aH (bR o.dst (.int kd (kd.wrap (0 - a))) st) ab) (h:C R H ab):aM P B c o R H st C :=
 Ox.iS (s:=λ ρ=>Op.unary .neg (ρ x)) (by rw [aJ]; rfl) hd (λ ρ=>by simp only [execOp,aJ]) (λ ρ aX=>by
  rw [aX x _ hx]
  simp only [Op.unary,Op.intArith]; exact aq.pure _) hs h
def q6(a b:Int):Option Int:=if b=0 then none else some (a.tmod b)
def mF(a b:Int):Option Int:=if b=0 then none else some (i64 (a.tdiv b))
theorem Ox.rem{x y:Operand}{t u:TypeId}{a b z:Int}{kd:IntKind}(aJ:o.op = .binOp .rem t x y u)(hx:bg st x=some (.int kd a))(hy:bg st y=some (.int kd b))(hr:q6 a b=some z)
  (hd:cp o.dst c.n) (hs:aH (bR o.dst (.int kd z) st) ab) (h:C R H ab):aM P B c o R H st C :=
 Ox.iS (s:=λ ρ=>do eqGuard .rem t x y (ρ x) (ρ y); binOp .rem t (ρ x) (ρ y)) (by rw [aJ]; rfl) hd (λ ρ=>by simp only [execOp,aJ]) (λ ρ aX=>by
  rw [aX x _ hx,aX y _ hy]
  refine aq.bind (Ed _ _ _ _ _ _ _ _) ?_
  unfold q6 at hr
  split at hr
  ·cases hr
  ·cases hr; simp only [binOp,ne_eq,not_true_eq_false,if_false,Op.intDiv, *]; exact aq.pure _) hs h
theorem Ox.quo{x y:Operand}{t u:TypeId}{a b z:Int}(aJ:o.op = .binOp .quo t x y u)(hx:bg st x=some (.int .i64 a))(hy:bg st y=some (.int .i64 b))(hr:mF a b=some z)
  (hd:cp o.dst c.n) (hs:aH (bR o.dst (.int .i64 z) st) ab) (h:C R H ab):aM P B c o R H st C :=
 Ox.iS (s:=λ ρ=>do eqGuard .quo t x y (ρ x) (ρ y); binOp .quo t (ρ x) (ρ y)) (by rw [aJ]; rfl) hd (λ ρ=>by simp only [execOp,aJ]) (λ ρ aX=>by
  rw [aX x _ hx,aX y _ hy]
  refine aq.bind (Ed _ _ _ _ _ _ _ _) ?_
  unfold mF at hr
  split at hr
  ·cases hr
  ·cases hr; simp only [binOp,ne_eq,not_true_eq_false,if_false,Op.intDiv, *]; exact aq.pure _) hs h
def se(kd:IntKind)(a b:Int):Option Int:=if b < 0 then none else some (kd.wrap (a * 2 ^ (min b.toNat kd.bits)))
def qV(kd:IntKind)(a b:Int):Option Int:=if b < 0 then none else some (a.fdiv (2 ^ (min b.toNat kd.bits)))
theorem Ox.shl{x y:Operand}{t u:TypeId}{a b z:Int}{kd yk:IntKind}(aJ:o.op = .binOp .shl t x y u)(hx:bg st x=some (.int kd a))(hy:bg st y=some (.int yk b))(hr:se kd a b=some z)
  (hd:cp o.dst c.n) (hs:aH (bR o.dst (.int kd z) st) ab) (h:C R H ab):aM P B c o R H st C :=
 Ox.iS (s:=λ ρ=>do eqGuard .shl t x y (ρ x) (ρ y); binOp .shl t (ρ x) (ρ y)) (by rw [aJ]; rfl) hd (λ ρ=>by simp only [execOp,aJ]) (λ ρ aX=>by
  rw [aX x _ hx,aX y _ hy]
  refine aq.bind (Ed _ _ _ _ _ _ _ _) ?_
  unfold se at hr
  split at hr
  ·cases hr
  ·cases hr; simp only [binOp,Op.shift,if_false, *]; exact aq.pure _) hs h
theorem Ox.shr{x y:Operand}{t u:TypeId}{a b z:Int}{kd yk:IntKind}(aJ:o.op = .binOp .shr t x y u)(hx:bg st x=some (.int kd a))(hy:bg st y=some (.int yk b))(hr:qV kd a b=some z)
  (hd:cp o.dst c.n) (hs:aH (bR o.dst (.int kd z) st) ab) (h:C R H ab):aM P B c o R H st C :=
 Ox.iS (s:=λ ρ=>do eqGuard .shr t x y (ρ x) (ρ y); binOp .shr t (ρ x) (ρ y)) (by rw [aJ]; rfl) hd (λ ρ=>by simp only [execOp,aJ]) (λ ρ aX=>by
  rw [aX x _ hx,aX y _ hy]
  refine aq.bind (Ed _ _ _ _ _ _ _ _) ?_
  unfold qV at hr
  split at hr
  ·cases hr
  ·cases hr; simp only [binOp,Op.shift,if_false, *]; exact aq.pure _) hs h
def pL(bo:BinOp)(kd:IntKind)(a b:Int):Option Int :=
 let a:=BitVec.ofInt kd.bits a
 let b:=BitVec.ofInt kd.bits b
 match bo with
 | .and=>some (kd.wrap (a &&& b).toNat)
 | .or=>some (kd.wrap (a ||| b).toNat)
 | .xor=>some (kd.wrap (a ^^^ b).toNat)
 | .andNot=>some (kd.wrap (a &&& ~~~b).toNat)
 | _=>none
theorem Ox.bits{x y:Operand}{bo:BinOp}{t u:TypeId}{a b z:Int}{kd:IntKind}(aJ:o.op = .binOp bo t x y u)(hx:bg st x=some (.int kd a))(hy:bg st y=some (.int kd b))(hr:pL bo kd a b=some z)
  (hd:cp o.dst c.n) (hs:aH (bR o.dst (.int kd z) st) ab) (h:C R H ab):aM P B c o R H st C :=
 Ox.iS (s:=λ ρ=>do eqGuard bo t x y (ρ x) (ρ y); binOp bo t (ρ x) (ρ y)) (by rw [aJ]; rfl) hd (λ ρ=>by simp only [execOp,aJ]) (λ ρ aX=>by
  rw [aX x _ hx,aX y _ hy]
  refine aq.bind (Ed _ _ _ _ _ _ _ _) ?_
  cases bo <;> simp only [pL,Option.some.injEq,reduceCtorEq] at hr <;> subst hr <;> simp only [binOp,ne_eq,not_true_eq_false,if_false,Op.intBits] <;> exact aq.pure _) hs h
def ad3:BinOp→ByteArray→ByteArray→Option Bool
 | .eql,x,y=>some (x.toList == y.toList)
 | .neq,x,y=>some (!(x.toList == y.toList))
 | _,_,_=>none
theorem aL2(op:BinOp)(t:TypeId)(x y:Operand)(a b:ByteArray):aq P (eqGuard op t x y (.string a) (.string b)) ():=by
 unfold eqGuard
 cases op <;> exact aq.pure _
theorem Ox.TY{x y:Operand}{bo:BinOp}{t u:TypeId}{a b:ByteArray}{r:Bool}(aJ:o.op = .binOp bo t x y u)(hx:bg st x=some (.string a))(hy:bg st y=some (.string b))(hr:ad3 bo a b=some r)
  (hd:cp o.dst c.n) (hs:aH (bR o.dst (.bool r) st) ab) (h:C R H ab):aM P B c o R H st C :=
 Ox.iS (s:=λ ρ=>do eqGuard bo t x y (ρ x) (ρ y); binOp bo t (ρ x) (ρ y)) (by rw [aJ]; rfl) hd (λ ρ=>by simp only [execOp,aJ]) (λ ρ aX=>by
  rw [aX x _ hx,aX y _ hy]
  refine aq.bind (aL2 _ _ _ _ _ _) ?_
  cases bo <;> simp only [ad3,Option.some.injEq,reduceCtorEq] at hr <;> subst hr <;> simp only [binOp,Op.stringOp] <;> exact aq.pure _) hs h
def IZ:BinOp→Bool→Bool→Option Bool
 | .eql,x,y=>some (x == y)
 | .neq,x,y=>some (!(x == y))
 | _,_,_=>none
theorem aL1(op:BinOp)(t:TypeId)(x y:Operand)(a b:Bool):aq P (eqGuard op t x y (.bool a) (.bool b)) ():=by
 unfold eqGuard
 cases op <;> exact aq.pure _
theorem aLY{t:TypeId}(ht:P.underlying t=some .bool)(a b:Bool):aq P (Op.equal t (.bool a) (.bool b)) (a == b):=by
 unfold Op.equal Op.maxDepth
 rw [Op.equalIn]
 exact aq.bind (aq.underlying ht) (aq.pure _)
theorem Ox.aln{x y:Operand}{bo:BinOp}{t u:TypeId}{a b r:Bool}(aJ:o.op = .binOp bo t x y u)(hx:bg st x=some (.bool a))(hy:bg st y=some (.bool b))(ht:P.underlying t=some .bool)(hr:IZ bo a b=some r)
  (hd:cp o.dst c.n) (hs:aH (bR o.dst (.bool r) st) ab) (h:C R H ab):aM P B c o R H st C :=
 Ox.iS (s:=λ ρ=>do eqGuard bo t x y (ρ x) (ρ y); binOp bo t (ρ x) (ρ y)) (by rw [aJ]; rfl) hd (λ ρ=>by simp only [execOp,aJ]) (λ ρ aX=>by
  rw [aX x _ hx,aX y _ hy]
  refine aq.bind (aL1 _ _ _ _ _ _) ?_
  cases bo <;> simp only [IZ,Option.some.injEq,reduceCtorEq] at hr <;> subst hr <;> simp only [binOp] <;> exact aq.bind (aLY ht a b) (aq.pure _)) hs h
theorem Ox.HL{x y:Operand}{bo:BinOp}{t u:TypeId}{a b:Array Value}{q:Bool}(aJ:o.op = .binOp bo t x y u)(hx:bg st x=some (.agg a))(hy:bg st y=some (.agg b))(hg:P.eqGuardType P.depth t=false)(hq:aq P (Op.equal t (.agg a) (.agg b)) q){r:Bool}(hr:IZ bo q true=some r)
  (hd:cp o.dst c.n) (hs:aH (bR o.dst (.bool r) st) ab) (h:C R H ab):aM P B c o R H st C :=
 Ox.iS (s:=λ ρ=>do eqGuard bo t x y (ρ x) (ρ y); binOp bo t (ρ x) (ρ y)) (by rw [aJ]; rfl) hd (λ ρ=>by simp only [execOp,aJ]) (λ ρ aX=>by
  rw [aX x _ hx,aX y _ hy]
  have hgd:aq P (eqGuard bo t x y (.agg a) (.agg b)) ():=by
   unfold eqGuard
   cases bo <;> simp only [IZ,reduceCtorEq] at hr <;> exact aq.bind aq.program (aq.bind aq.program (by simp only [hg]; exact aq.pure _))
  refine aq.bind hgd ?_
  cases bo <;> simp only [IZ,Option.some.injEq,reduceCtorEq] at hr <;> subst hr <;> simp only [binOp]
  ·exact aq.bind hq (by cases q <;> exact aq.pure _)
  ·exact aq.bind hq (by cases q <;> exact aq.pure _)) hs h
def fH:Int→List Int→Int
 | x,[]=>x
 | x,y::r=>fH (if y > x then y else x) r
def j7:Int→List Int→Int
 | x,[]=>x
 | x,y::r=>j7 (if y < x then y else x) r
theorem ah8{kd:IntKind}:∀ (l:List Int) (x:Int),aq P ((l.map (Value.int kd)).foldlM Builtin.max2 (.int kd x)) (.int kd (fH x l))
 | [],x=>aq.pure _
 | y::r,x=>by
  simp only [List.map_cons,List.foldlM_cons,fH]
  exact aq.bind (a:=.int kd (if y > x then y else x)) (aq.pure _) (ah8 r _)
theorem ah9{kd:IntKind}:∀ (l:List Int) (x:Int),aq P ((l.map (Value.int kd)).foldlM Builtin.min2 (.int kd x)) (.int kd (j7 x l))
 | [],x=>aq.pure _
 | y::r,x=>by
  simp only [List.map_cons,List.foldlM_cons,j7]
  exact aq.bind (a:=.int kd (if y < x then y else x)) (aq.pure _) (ah9 r _)
theorem Ox.max{xs:Array Operand}{ts:Array TypeId}{kd:IntKind}{a:Int}{l:List Int}(aJ:o.op = .call ⟨.builtin .max,xs,ts⟩)(hx:sB st xs.toList=some (.int kd a::l.map (Value.int kd)))
  (hd:cp o.dst c.n) (hs:aH (bR o.dst (.int kd (fH a l)) st) ab) (h:C R H ab):aM P B c o R H st C :=
 Ox.val (by rw [aJ]; rfl) hd (λ ρ aX=>by
  simp only [execOp,aJ]
  refine aq.bind (a:=⟨.builtin .max ts o.type (xs.map λ | .const _=>true | _=>false),xs.map ρ⟩) (aq.pure _) ?_
  simp only [invoke,builtin,Builtin.max_]
  have e:(xs.map ρ).toList = .int kd a::l.map (Value.int kd):=by simpa using IP aX _ _ hx
  rw [e]
  exact aq.bind (ah8 l a) (aq.pure _)) hs h
theorem Ox.min{xs:Array Operand}{ts:Array TypeId}{kd:IntKind}{a:Int}{l:List Int}(aJ:o.op = .call ⟨.builtin .min,xs,ts⟩)(hx:sB st xs.toList=some (.int kd a::l.map (Value.int kd)))
  (hd:cp o.dst c.n) (hs:aH (bR o.dst (.int kd (j7 a l)) st) ab) (h:C R H ab):aM P B c o R H st C :=
 Ox.val (by rw [aJ]; rfl) hd (λ ρ aX=>by
  simp only [execOp,aJ]
  refine aq.bind (a:=⟨.builtin .min ts o.type (xs.map λ | .const _=>true | _=>false),xs.map ρ⟩) (aq.pure _) ?_
  simp only [invoke,builtin,Builtin.min_]
  have e:(xs.map ρ).toList = .int kd a::l.map (Value.int kd):=by simpa using IP aX _ _ hx
  rw [e]
  exact aq.bind (ah9 l a) (aq.pure _)) hs h
theorem Ox.ajL{x:Operand}{t u:TypeId}{kd ks k0:IntKind}{a:Int}(aJ:o.op = .convert t u x)(hx:bg st x=some (.int ks a))(ht:P.underlying t=some (.int k0))(hu:P.underlying u=some (.int kd))
  (hd:cp o.dst c.n) (hs:aH (bR o.dst (.int kd (kd.wrap a)) st) ab) (h:C R H ab):aM P B c o R H st C :=
 Ox.iS (s:=λ ρ=>convert t u (ρ x)) (by rw [aJ]; rfl) hd (λ ρ=>by simp only [execOp,aJ]) (λ ρ aX=>by
  rw [aX x _ hx]
  unfold convert
  refine aq.bind (aq.underlying ht) (aq.bind (aq.underlying hu) ?_)
  exact aq.pure _) hs h
theorem I0{α:Type}{xs ys:List α}{lo hi:Int}(h:gQ xs lo hi=some ys):0≤lo∧lo≤hi∧hi≤xs.length∧ys=(xs.take hi.toNat).drop lo.toNat:=by
 unfold gQ at h
 split at h
 ·cases h; rename_i h; exact ⟨h.1,h.2.1,h.2.2,rfl⟩
 ·cases h
def rK(st:St):Option Operand→Option Int
 | none=>some 0
 | some x=>match bg st x with | some (.int _ i)=>some i | _=>none
def rC(st:St)(n:Nat):Option Operand→Option Int
 | none=>some n
 | some x=>match bg st x with | some (.int _ i)=>some i | _=>none
theorem Qx{kd:IntKind}{i:Int}{y:Nat}{cd:BoundsCode}(h:0≤i∧i≤y):aq P (Instr.sliceBound (.int kd i) y cd) i.toNat:=by
 unfold Instr.sliceBound
 refine aq.bind (a:=(kd,i)) (aq.pure _) ?_
 simp only [h,and_self,if_true]
 exact aq.pure _
theorem Qy{ρ:Operand→Value}(aX:Knows st ρ){len cap:Nat}{lo hi:Option Operand}{l h:Int}(hl:rK st lo=some l)(hh:rC st len hi=some h)(hb:0≤l∧l≤h∧h≤len)(hc:len≤cap) :
  aq P (Instr.sliceBounds true len cap (lo.map ρ) (hi.map ρ) none) (l.toNat,h.toNat,cap):=by
 have h1:(lo=none∧l=0)∨∃ x kd,lo=some x∧ρ x = .int kd l:=by
  cases lo with
  | none=>simp only [rK,Option.some.injEq] at hl; exact .inl ⟨rfl,hl.symm⟩
  | some x =>
   simp only [rK] at hl
   cases hx:bg st x with
   | none=>simp [hx] at hl
   | some v =>
    cases v <;> simp [hx] at hl
    subst hl
    exact .inr ⟨x,_,rfl,aX x _ hx⟩
 have h2:(hi=none∧h=len)∨∃ x kd,hi=some x∧ρ x = .int kd h:=by
  cases hi with
  | none=>simp only [rC,Option.some.injEq] at hh; exact .inl ⟨rfl,hh.symm⟩
  | some x =>
   simp only [rC] at hh
   cases hx:bg st x with
   | none=>simp [hx] at hh
   | some v =>
    cases v <;> simp [hx] at hh
    subst hh
    exact .inr ⟨x,_,rfl,aX x _ hx⟩
 unfold Instr.sliceBounds
 rcases h1 with ⟨rfl,rfl⟩ | ⟨x,kx,rfl,hx⟩ <;> rcases h2 with ⟨rfl,rfl⟩ | ⟨y,ky,rfl,hy⟩ <;> simp only [Option.map_none,Option.map_some, *]
 ·exact aq.bind (a:=cap) (aq.pure _) (aq.bind (a:=(len:Int).toNat) (by rw [Int.toNat_natCast]; exact aq.pure _) (aq.bind (a:=(0:Int).toNat) (aq.pure _) (aq.pure _)))
 ·exact aq.bind (a:=cap) (aq.pure _) (aq.bind (a:=h.toNat) (Qx ⟨by omega,by omega⟩) (aq.bind (a:=(0:Int).toNat) (aq.pure _) (aq.pure _)))
 ·exact aq.bind (a:=cap) (aq.pure _) (aq.bind (a:=(len:Int).toNat) (by rw [Int.toNat_natCast]; exact aq.pure _) (aq.bind (a:=l.toNat) (Qx ⟨by omega,by omega⟩) (aq.pure _)))
 ·exact aq.bind (a:=cap) (aq.pure _) (aq.bind (a:=h.toNat) (Qx ⟨by omega,by omega⟩) (aq.bind (a:=l.toNat) (Qx ⟨by omega,by omega⟩) (aq.pure _)))
end
end Go.Lg
namespace Go.Lg
open Go.Conc
theorem D8:∀ (vs:List Value) (cs:Array Value) (o j:Nat),o+vs.length≤cs.size→(fb cs o vs)[j]? = if o≤j∧j < o+vs.length then vs[j - o]? else cs[j]?
 | [],cs,o,j,_=>by
  simp only [fb,List.length_nil,Nat.add_zero]
  rw [if_neg (by omega)]
 | v::r,cs,o,j,h=>by
  simp only [List.length_cons] at h
  simp only [fb]
  rw [D8 r _ (o+1) j (by simp; omega)]
  by_cases h1:o+1≤j∧j < o+1+r.length
  ·rw [if_pos h1,if_pos (by simp only [List.length_cons]; omega)]
   have:j - o=(j - (o+1))+1:=by omega
   rw [this]; simp
  ·rw [if_neg h1]
   by_cases h2:o=j
   ·subst h2
    rw [if_pos (by simp only [List.length_cons]; omega)]
    rw [Array.getElem?_setIfInBounds_self_of_lt (by omega)]
    simp
   ·rw [if_neg (by simp only [List.length_cons]; omega),Array.getElem?_setIfInBounds_ne h2]
structure yX (P:Program) (t e k:Nat):Prop where
 sl:P.underlying t=some (.slice e)
 size:aq P (sizeOf e) k
 info:∃ i,P.info? e=some i∧i.bytes≤65536
 zero:∃ z,aq P (zeroValue e) z∧z.cells.size=k
section
variable {P:Program} {B:Base} {main:Bool} {ag:Jd P B main} {c:Ctx} {R:aE} {H H':an} {st ab:St} {o:Oper}
theorem aK.weaken{α:Type}{s:Sem α}{K K':α→aE→an→Prop}(h:aK P B R H s K)(hk:∀ a R' H',K a R' H'→∃ bY cD,(∀ w,Fits B R' H' w→dU B R' H' w bY cD w)∧K' a bY cD):aK P B R H s K':=by
 intro w hw
 obtain ⟨a,w',R',H',h1,h2,h3,h4⟩:=h w hw
 obtain ⟨bY,cD,g1,g2⟩:=hk a R' H' h4
 exact ⟨a,w',bY,cD,h1,h2,h3.trans (g1 w' h3.fits),g2⟩
theorem aK.firstCells{α:Type}{K:b9 α}{k:Nat}{u:Value}{ys:List α}{Q:Array Value→aE→an→Prop}(hu:cZ K k R H u ys)(hQ:∀ es:List Value,aF K k R ys es→Q es.toArray R H):aK P B R H (Builtin.firstCells k ys.length u) Q:=by
 obtain ⟨A,cap,es,rfl,hE,hc⟩:=hu
 cases ys with
 | nil =>
  have e0:es=[]:=by have:=hE.len; simpa using this
  subst e0
  cases A with
  | none=>exact aK.pure (hQ [] hE)
  | some a =>
   simp only [Builtin.firstCells,List.length_nil,Nat.zero_mul,loadCells]
   exact aK.pure (hQ [] hE)
 | cons y ys =>
  obtain ⟨b,o,rfl,o7⟩:=hc (by simp)
  simp only [Builtin.firstCells,loadCells]
  rw [← hE.len]
  exact aK.loadCellsFrom es 0 #[] (by simpa using o7) (by simpa using hQ es hE)
theorem aU.arg{α:Type}{K:b9 α}{k e:Nat}{G:an→an}(hG:gF G){v:Value}{xs:List α}{Hs:an}(h:aU K k e R v xs Hs):cZ K k R (G Hs) v xs:=by
 rcases h with ⟨A,rfl,rfl,_⟩ | ⟨b,cap,cs,es,rfl,rfl,h3,h4,h5,h6⟩
 ·exact ⟨A,0,[],rfl,.nil,λ h=>absurd rfl h⟩
 ·refine ⟨_,cap,es,rfl,h5,λ _=>⟨b,0,rfl,λ j w hj=>⟨rfl,cs,e,(0,0),.inr ?_,by simpa using h6 j w hj⟩⟩⟩
  obtain ⟨A,D,o3⟩:=hG
  rw [o3]; simp
theorem aJP{n m:Nat}(h:m < n)(hn:n≤16777216):Builtin.nextslicecap n m≤67108864:=by
 unfold Builtin.nextslicecap
 split
 ·omega
 ·split
  ·omega
  ·have:∀ (r c:Nat),c≤16777216→Builtin.growBy n r c≤67108864:=by
    intro r
    induction r with
    | zero=>intro c hc; simp only [Builtin.growBy]; omega
    | succ r ih =>
     intro c hc
     simp only [Builtin.growBy]
     split
     ·omega
     ·rename_i hcn
      by_cases h2:c+(c+768) / 4≤16777216
      ·exact ih _ h2
      ·
       cases r with
       | zero=>simp only [Builtin.growBy]; omega
       | succ r=>simp only [Builtin.growBy]; rw [if_pos (by omega)]; omega
   exact this 4 m (by omega)
theorem aK.append{α:Type}{K:b9 α}[CM K]{k t e xT T:Nat}{G:an→an}(hG:gF G){v u:Value}{xs ys:List α}{Hs:an}{dx:TypeDesc}(ht:yX P t e k)(Y9:P.underlying xT=some dx)(VK:∀ kd,dx ≠ .int kd)
  (hO:aU K k e R v xs Hs) (hu:cZ K k R (G Hs) u ys) (hl:xs.length+ys.length≤16777216) {Q:Value→aE→an→Prop} (hk:∀ v' bF,aU K k e R v' (xs++ys) bF→Q v' R (G bF)) :
  aK P B R (G Hs) (Builtin.append_ #[t,xT] T #[v,u]) Q:=by
 obtain ⟨A2,aXD,es2,Kk⟩:=id hu
 have hv:∃ base cap,v = .slice base xs.length cap:=by
  rcases hO with ⟨A,rfl,rfl,_⟩ | ⟨b,cap,cs,es,rfl,_⟩
  ·exact ⟨A,0,rfl⟩
  ·exact ⟨_,cap,rfl⟩
 obtain ⟨base,cap,rfl⟩:=hv
 obtain ⟨i,hi,asx⟩:=ht.info
 obtain ⟨z,hz,hzs⟩:=ht.zero
 have hlen:aq P (Builtin.lenOf u) ys.length:=by rw [Kk.1]; exact aq.pure _
 have run:aK P B R (G Hs) (do
   let D2:=xs.length+ys.length
   if D2≤cap then do
    let new ← Builtin.firstCells k ys.length u
    if let some a:=base then storeCells (a.add (xs.length * k)) new.toList
    Pure.pure (Value.slice base D2 cap)
   else do
    if (D2:Int) > IntKind.i64.max∧(false=true∨(← typeInfo e).bytes=0) then runtimePanic (.error "growslice: len out of range")
    if Builtin.nextslicecap D2 cap * (← typeInfo e).bytes > 2 ^ 48 then (if false=true then runtimePanic (.error "growslice: len out of range") else do
     if !(← Builtin.mayShare k xs.length ys.length base u) then mark .noRoom
     unsupported (.resourceLimit "append: a slice or a string whose bytes no memory bears"))
    let Am ← Go.choose (Question.appendCap D2 cap e)
    askRoom (Am * (← typeInfo e).bytes)
    let old ← Builtin.firstCells k xs.length (.slice base xs.length cap)
    let new ← Builtin.firstCells k ys.length u
    let rest:=Builtin.zeroCells (← zeroValue e).cells (Am - D2)
    Pure.pure (Value.slice (some (← newRow e (old++new++rest))) D2 Am)) Q:=by
  dsimp only
  by_cases hc:xs.length+ys.length≤cap
  ·rw [if_pos hc]
   refine aK.bind (aK.firstCells hu λ es hE=>?_)
   rcases hO with ⟨A,e1,rfl,rfl⟩ | ⟨b,aXC,cs,B1,e1,rfl,h3,h4,h5,h6⟩
   ·injection e1 with e1 e2 e3
    subst e1; subst e3
    have hy:ys=[]:=by simpa using hc
    subst hy
    have e0:es=[]:=by have:=hE.len; simpa using this
    subst e0
    have key:Q (.slice base ([]:List α).length 0) R (G []):=hk _ [] (.inl ⟨base,rfl,by simp,rfl⟩)
    cases base with
    | none=>exact aK.bind (aK.pure (aK.pure key))
    | some a=>exact aK.bind (aK.pure (aK.pure key))
   ·injection e1 with e1 _ e3
    subst e1; subst e3
    dsimp only
    rw [show (⟨b,0,none⟩:Addr).add (xs.length * k)=⟨b,0+xs.length * k,none⟩ from pZ _ _ _,Nat.zero_add]
    refine aK.given λ cP=>aK.bind (aK.Li es cs (xs.length * k) 0 (G [(b,.cells cs e (0,0))]) (G [(b,.cells (fb cs (xs.length * k) es) e (0,0))]) hE.one ?_ (by simpa using gF.set hG) cP (aK.pure ?_))
    ·rw [h3,hE.len,Nat.add_zero,← Nat.add_mul]; exact Nat.mul_le_mul_right k hc
    ·have auL:xs.length * k+es.length≤cs.size:=by rw [h3,hE.len,← Nat.add_mul]; exact Nat.mul_le_mul_right k hc
     refine hk _ _ (.inr ⟨b,cap,fb cs (xs.length * k) es,B1++es,by rw [List.length_append],rfl,by rw [Ld]; exact h3,by rw [List.length_append]; exact hc,h5.append hE,λ j w hj=>?_⟩)
     rw [D8 es cs _ _ auL]
     by_cases Wb:j < B1.length
     ·rw [List.getElem?_append_left Wb] at hj
      rw [if_neg (by rw [← h5.len]; omega)]
      exact h6 j w hj
     ·rw [List.getElem?_append_right (by omega)] at hj
      have:=(List.getElem?_eq_some_iff.1 hj).1
      rw [if_pos (by rw [← h5.len]; omega),← h5.len]
      exact hj
  ·rw [if_neg hc]
   have hnb:Builtin.nextslicecap (xs.length+ys.length) cap * i.bytes≤2 ^ 48:=by
    have h1:=aJP (n:=xs.length+ys.length) (m:=cap) (by omega) hl
    calc _≤67108864 * 65536:=Nat.mul_le_mul h1 asx
     _≤2 ^ 48:=by decide
   have hni:¬ (((xs.length+ys.length:Nat):Int) > IntKind.i64.max∧(false=true∨i.bytes=0)):=by
    intro h
    have:IntKind.i64.max=9223372036854775807:=by decide
    omega
   refine aq.cG (aq.typeInfo hi) ?_
   rw [if_neg hni]
   refine aq.cG (aq.typeInfo hi) ?_
   rw [if_neg (by omega)]
   refine (aK.bind (aK.choose λ tape=>aq.cG (aq.typeInfo hi) (aK.bind ?_)))
   have asv:∀ (n:Nat) (Q':Unit→aE→an→Prop),Q' () R (G Hs)→aK P B R (G Hs) (askRoom n) Q':=by
    intro n Q' hq
    unfold askRoom
    split
    ·exact aK.aJH hq
    ·exact aK.pure hq
   refine asv _ _ ?_
   simp only [Question.forced,Bool.false_eq_true,if_false,Question.cut]
   generalize rz:xs.length+ys.length+tape % (2 ^ 63 - (xs.length+ys.length))=Am
   refine aK.bind (aK.firstCells (aU.arg hG hO) λ B1 hEx=>aK.bind (aK.firstCells hu λ Oa hEy=>aq.cG hz ?_))
   simp only [newRow]
   refine aK.bind (aK.bind (aK.weaken (aK.new (K:=λ r R' H'=>R'=R∧H'=(r,.cells (B1.toArray++Oa.toArray++Builtin.zeroCells z.cells (Am - (xs.length+ys.length))) e (0,0))::G Hs) λ r _ _=>⟨rfl,rfl⟩) λ r R' H' hrh=>?_))
   obtain ⟨rfl,rfl⟩:=hrh
   refine ⟨R',G [(r,.cells (B1.toArray++Oa.toArray++Builtin.zeroCells z.cells (Am - (xs.length+ys.length))) e (0,0))],λ w hw=>?_,aK.pure (aK.pure (hk _ _ (.inr ⟨r,Am,_,B1++Oa,by rw [List.length_append],rfl,?_,by rw [List.length_append]; omega,hEx.append hEy,λ j w hj=>?_⟩)))⟩
   ·obtain ⟨A,D,o3⟩:=hG
    rw [o3,o3] at *
    have h1:=Ll (H':=A++(Hs++((r,.cells (B1.toArray++Oa.toArray++Builtin.zeroCells z.cells (Am - (xs.length+ys.length))) e (0,0))::D))) (by simpa using List.perm_middle (l₁:=A++Hs)) hw
    refine h1.trans (Qd ?_ h1.fits)
    exact List.Sublist.append_left (List.sublist_append_right _ _) _
   ·simp only [Array.size_append,List.size_toArray,hEx.len,hEy.len,Builtin.zeroCells,Array.size_map,Array.size_range,hzs]
    rw [← Nat.add_mul,← Nat.add_mul]
    congr 1; omega
   ·have:=(List.getElem?_eq_some_iff.1 hj).1
    rw [Array.getElem?_append_left (by simpa using this)]
    simpa using hj
 unfold Builtin.append_
 refine aq.cG (aq.underlying ht.sl) (aq.cG ht.size (aq.cG (aq.underlying Y9) (aq.cG (a:=false) (by cases dx <;> first | exact aq.pure _ | exact absurd rfl (VK _)) ?_)))
 exact aq.cG hlen run
theorem Ox.append{α:Type}{K:b9 α}[CM K]{k t e xT:Nat}(G:an→an){x y:Operand}{v u:Value}{xs ys zs:List α}{Hs:an}{dx:TypeDesc}{C:aE→an→St→Prop}(aJ:o.op = .call ⟨.builtin .append,#[x,y],#[t,xT]⟩)(hx:bg st x=some v)(hy:bg st y=some u)
  (ht:yX P t e k) (Y9:P.underlying xT=some dx) (VK:∀ kd,dx ≠ .int kd) (hG:gF G) (hO:aU K k e R v xs Hs) (hu:cZ K k R (G Hs) u ys) (hl:cV xs ys=some zs) (hd:cp o.dst c.n)
  (hC:∀ v' bF,aU K k e R v' zs bF→∃ ab,aH (bR o.dst v' st) ab∧C R (G bF) ab):aM P B c o R (G Hs) st C:=by
 obtain ⟨hl1,rfl⟩:=aow hl
 refine ⟨by rw [aJ]; rfl,hd,λ ρ aX=>?_⟩
 simp only [execOp,aJ]
 refine aq.cG (a:=⟨.builtin .append #[t,xT] o.type (#[x,y].map λ | .const _=>true | _=>false),#[x,y].map ρ⟩) (aq.pure _) ?_
 simp only [invoke,builtin]
 have e:(#[x,y].map ρ)=#[v,u]:=by simp [aX x _ hx,aX y _ hy]
 rw [e]
 refine aK.bind (aK.append hG ht Y9 VK hO hu hl1 λ v' bF Oi=>aK.pure ?_)
 obtain ⟨ab,hs,h⟩:=hC v' bF Oi
 exact ⟨v',.inl rfl,ab,hs,h⟩
theorem At.eQ{α:Type}{K:b9 α}[CM K]{k e:Nat}{todo:List Item}(G:an→an)(hG:gF G){v:Value}{xs:List α}{Hs H2:an}(h2:G []=H2)(hO:aU K k e R v xs Hs)(h:∀ R',aN R R'→au K k R' v xs→At ag c R' H2 st todo):At ag c R (G Hs) st todo:=by
 subst h2
 rcases hO with ⟨A,rfl,rfl,rfl⟩ | ⟨b,cap,cs,es,rfl,rfl,h3,h4,h5,h6⟩
 ·exact h R (aN.refl R) .nil
 ·obtain ⟨A,D,o3⟩:=hG
  rw [o3] at h ⊢
  refine At.perm (H':=(b,.cells cs e (0,0))::(A++([]++D))) (by simpa using List.perm_middle.symm) (At.freeze λ R' hR hb=>h R' hR ?_)
  exact ⟨_,cap,es,rfl,h5.mono hR,h4,λ _=>⟨b,0,cs,e,(0,0),rfl,hb,λ j w hj=>by simpa using h6 j w hj⟩⟩
theorem At.sJ{α:Type}{K:b9 α}[CM K]{k e b n:Nat}{todo:List Item}(G:an→an)(hG:gF G){H2:an}(h2:G []=H2){ys:List α}{cs:Array Value}(hE:aF K k R ys cs.toList)(hn:ys.length=n)(h:∀ R',aN R R'→au K k R' (.slice (some ⟨b,0,none⟩) n n) ys→At ag c R' H2 st todo):At ag c R (G [(b,.cells cs e (0,0))]) st todo:=by
 subst hn h2
 obtain ⟨A,D,o3⟩:=hG
 rw [o3] at h ⊢
 refine At.perm (H':=(b,.cells cs e (0,0))::(A++([]++D))) (by simpa using List.perm_middle.symm) (At.freeze λ R' hR hb=>h R' hR ?_)
 exact ⟨_,ys.length,cs.toList,rfl,hE.mono hR,Nat.le_refl _,λ _=>⟨b,0,cs,e,(0,0),rfl,hb,λ j w hj=>by simpa using hj⟩⟩
theorem aU.lit{α:Type}{K:b9 α}{k e b n:Nat}{ys:List α}{cs:Array Value}(hE:aF K k R ys cs.toList)(hn:ys.length=n):aU K k e R (.slice (some ⟨b,0,none⟩) n n) ys [(b,.cells cs e (0,0))]:=by
 subst hn
 exact .inr ⟨b,_,cs,cs.toList,rfl,rfl,by simpa using hE.len,Nat.le_refl _,hE,λ j w hj=>by simpa using hj⟩
end
end Go.Lg
namespace Go.Lg
open Go.Conc
theorem aH.one{dst:Option Tmp}{d:Tmp}{v:Value}{st:St}(h:dst=some d):aH (bR dst v st) [(d,v)]:=by
 subst h
 intro t u hu
 simp only [List.lookup_cons,List.lookup_nil] at hu
 simp only [bR,List.lookup_cons]
 split at hu
 ·exact hu
 ·cases hu
theorem dS.skip{Ks H H':an}{b:Nat}{o o':Obj}(h:dS H b o o' H'):dS (Ks++H) b o o' (Ks++H'):=by
 induction Ks with
 | nil=>exact h
 | cons p Ks ih=>exact .there ih
theorem aR.box{R:aE}{H:an}{b:Nat}{e:TypeId}{fz:Nat × Nat}{L:List Value}(hm:(b,Obj.cells L.toArray e fz)∈H):aR R H b 0 L:=λ j v hj=>⟨rfl,_,e,fz,.inr hm,by simpa using hj⟩
theorem gF.id{D:an}:gF (λ X=>X++D):=⟨[],D,λ _=>rfl⟩
theorem gF.cons{p:Nat × Obj}{G:an→an}(h:gF G):gF (λ X=>p::G X):=by
 obtain ⟨A,D,h⟩:=h
 exact ⟨p::A,D,λ X=>by show p::G X=_; rw [h]; rfl⟩
theorem gF.app{L:an}{G:an→an}(h:gF G):gF (λ X=>L++G X):=by
 obtain ⟨A,D,h⟩:=h
 exact ⟨L++A,D,λ X=>by show L++G X=_; rw [h,List.append_assoc]⟩
theorem cS{place:Nat→Option (Nat × Nat)}{cells:Array Value}:Instr.fill place cells []=some cells:=rfl
theorem aKF(vc:List Value):∀ (cells:Array Value) (off j:Nat),(vc.zipIdx j).foldl (λ cs (c,i)=>cs.setIfInBounds (off+i) c) cells=fb cells (off+j) vc:=by
 induction vc with
 | nil=>intro cells off j; rfl
 | cons v r ih=>intro cells off j; simp only [List.zipIdx_cons,List.foldl_cons,fb]; rw [ih]; rfl
theorem aKG(vc cells:Array Value)(off:Nat):vc.zipIdx.foldl (λ cs (c,i)=>cs.setIfInBounds (off+i) c) cells=fb cells off vc.toList:=by
 have h:=aKF vc.toList cells off 0
 rw [Nat.add_zero] at h
 rw [← h,← Array.foldl_toList]
 simp
theorem cJ{place:Nat→Option (Nat × Nat)}{cells cells' out vc:Array Value}{i off size:Nat}{v:Value}{rest:List (Nat × Value)}(hp:place i=some (off,size))(hc:v.cells=vc)
  (hs:(vc.size == size && Nat.ble (off+vc.size) cells.size)=true) (JL:fb cells off vc.toList=cells') (h:Instr.fill place cells' rest=some out):Instr.fill place cells ((i,v)::rest)=some out:=by
 subst hc
 rw [Bool.and_eq_true] at hs
 have h1:v.cells.size=size:=by simpa using hs.1
 have h2:off+v.cells.size≤cells.size:=by simpa [Nat.ble_eq] using hs.2
 simp only [Instr.fill,hp]
 rw [if_neg (by simp [h1]; omega),aKG,JL]
 exact h
theorem bu:∀ u∈([]:List Value),u.oneCell'=true:=λ _ h=>by cases h
theorem bc{v:Value}{l:List Value}(h:v.oneCell'=true)(t:∀ u∈l,u.oneCell'=true):∀ u∈v::l,u.oneCell'=true:=λ u hu=>by
 rcases List.mem_cons.1 hu with rfl | hu
 ·exact h
 ·exact t u hu
theorem cu{l m:List Value}(h:∀ u∈l,u.oneCell'=true)(t:∀ u∈m,u.oneCell'=true):∀ u∈l++m,u.oneCell'=true:=λ u hu=>(List.mem_append.1 hu).elim (h u) (t u)
theorem eY{α:Type}{f:α→Value}{xs:List α}(h:∀ x,(f x).oneCell'=true):∀ u∈xs.map f,u.oneCell'=true:=λ u hu=>by
 obtain ⟨x,_,rfl⟩:=List.mem_map.1 hu
 exact h x
theorem aR.part{R:aE}{H:an}{b o j n:Nat}{L vs:List Value}(h:aR R H b o L)(hv:(L.drop j).take n=vs):aR R H b (o+j) vs:=by
 intro i v hi
 subst hv
 rw [List.getElem?_take] at hi
 split at hi
 ·rw [List.getElem?_drop] at hi
  have:=h _ _ hi
  simpa [Nat.add_assoc] using this
 ·cases hi
theorem aR.arr{α:Type}{R:aE}{H:an}{b o k:Nat}{f:α→Value}{pre post:List Value}{xs:List α}{i:Int}{x:α}(h:aR R H b o (pre++(xs.map f++post)))(hi:idx xs i=some x)(hk:pre.length=k):Cell R H ⟨b,o+k+i.toNat * 1,none⟩ (f x):=by
 obtain ⟨_,_,h3⟩:=zV hi
 have br:=(List.getElem?_eq_some_iff.1 h3).1
 have:=h (k+i.toNat) (f x) (by
  rw [List.getElem?_append_right (by omega),← hk,Nat.add_sub_cancel_left,List.getElem?_append_left (by simpa using br)]
  simp [h3])
 simpa [Nat.add_assoc] using this
theorem aR.sub{R:aE}{H H':an}{b o:Nat}{L:List Value}(h:aR R H b o L)(hs:∀ p∈H,p∈H'):aR R H' b o L:=λ j v hj=>by
 obtain ⟨h1,cs,e,fz,h2,h3⟩:=h j v hj
 exact ⟨h1,cs,e,fz,h2.imp id (hs _),h3⟩
theorem aR.le{R R':aE}{H:an}{b o:Nat}{L:List Value}(h:aR R H b o L)(hs:aN R R'):aR R' H b o L:=λ j v hj=>by
 obtain ⟨h1,cs,e,fz,h2,h3⟩:=h j v hj
 exact ⟨h1,cs,e,fz,h2.imp (hs _ _) id,h3⟩
theorem Nt{α:Type}{f:α→Value}{pre post:List Value}{xs:List α}{i:Int}{x y:α}{k:Nat}(hi:idx xs i=some y)(hk:pre.length=k):((pre++(xs.map f++post)).toArray).setIfInBounds (k+i.toNat * 1) (f x)=(pre++((xs.set i.toNat x).map f++post)).toArray:=by
 obtain ⟨_,_,h3⟩:=zV hi
 have br:=(List.getElem?_eq_some_iff.1 h3).1
 subst hk
 simp only [Nat.mul_one,List.setIfInBounds_toArray,List.map_set]
 congr 1
 rw [List.set_append_right _ _ (by omega),Nat.add_sub_cancel_left,List.set_append_left _ _ (by simpa using br)]
theorem Ns{α:Type}{f:α→Value}{pre post:List Value}{xs:List α}{i:Int}{y:α}{k:Nat}(hi:idx xs i=some y)(hk:pre.length=k):Nat.blt (k+i.toNat * 1) ((pre++(xs.map f++post)).toArray).size=true:=by
 obtain ⟨_,_,h3⟩:=zV hi
 have br:=(List.getElem?_eq_some_iff.1 h3).1
 rw [Nat.blt_eq]
 simp
 omega
theorem eK{L:List Value}{n:Nat}(h:L.length=n):(L.drop 0).take n=L:=by subst h; simp
theorem rJ{P:Program}{α:Type}{t e len k b m:Nat}{i:Int}{xs:List α}{x:α}(ht:yY P t len e k)(hl:xs.length=len)(hi:idx xs i=some x):BK P t (.pointer (some ⟨b,m,none⟩)) i b (m+i.toNat * k):=by
 obtain ⟨h1,h2,_⟩:=zV hi
 exact aGV ht ⟨h1,by omega⟩
theorem au.one{α:Type}{C:b9 α}{k:Nat}{R:aE}{v:Value}{xs:List α}(h:au C k R v xs):v.oneCell'=true:=by
 obtain ⟨A,cap,es,rfl,_⟩:=h; rfl
theorem au.cells{α:Type}{C:b9 α}{k:Nat}{R:aE}{v:Value}{xs:List α}(h:au C k R v xs):v.cells=#[v]:=by
 obtain ⟨A,cap,es,rfl,_⟩:=h; rfl
theorem aU.cells{α:Type}{C:b9 α}{k e:Nat}{R:aE}{v:Value}{xs:List α}{Hs:an}(h:aU C k e R v xs Hs):v.cells=#[v]:=by
 rcases h with ⟨A,rfl,_⟩ | ⟨b,cap,cs,es,rfl,_⟩ <;> rfl
theorem aU.one{α:Type}{C:b9 α}{k e:Nat}{R:aE}{v:Value}{xs:List α}{Hs:an}(h:aU C k e R v xs Hs):v.oneCell'=true:=by
 rcases h with ⟨A,rfl,_⟩ | ⟨b,cap,cs,es,rfl,_⟩ <;> rfl
theorem aF.cons{α:Type}{C:b9 α}{k:Nat}{R:aE}{x:α}{xs:List α}{e1 es:List Value}(h:C R x e1)(hk:e1.length=k)(g:aF C k R xs es):aF C k R (x::xs) (e1++es):=(aF.single h hk).append g
theorem aF.le{α:Type}{C:b9 α}{k:Nat}{R:aE}{xs:List α}{es fs:List Value}(h:aF C k R xs es)(e:es=fs):aF C k R xs fs:=by subst e; exact h
section
variable {P:Program} {B:Base} {main:Bool} {ag:Jd P B main} {c:Ctx} {R:aE} {H H':an} {st ab:St} {o:Oper} {k:List Item}
theorem aK.ghost{α:Type}{s:Sem α}{K:α→aE→an→Prop}{R':aE}(hg:∀ w,Fits B R H w→dU B R H w R' H' w)(h:aK P B R' H' s K):aK P B R H s K:=by
 intro w hw
 have h0:=hg w hw
 obtain ⟨a,w',bY,cD,h1,h2,h3,h4⟩:=h w h0.fits
 exact ⟨a,w',bY,cD,h1,λ e he=>(h2 e he).up h0,h0.trans h3,h4⟩
theorem ax.ghost{f:FuncId}{args:Array Value}{ck:Value→aE→an→Prop}{R':aE}(hg:∀ w,Fits B R H w→dU B R H w R' H' w)(h:ax ag f args R' H' ck):ax ag f args R H ck :=
 λ fr cs hk=>ag.ghost hg (h fr cs hk)
inductive nV (P:Program) (R:aE) (H:an) (st:St):List ResultVar→List Value→Prop
 | nil:nV P R H st [] []
 | tmp {t:Tmp} {v:Value} {r:List ResultVar} {vs:List Value}:st.lookup t=some v→nV P R H st r vs→nV P R H st (.tmp t::r) (v::vs)
 | one {a:Tmp} {t:TypeId} {b o:Nat} {v:Value} {r:List ResultVar} {vs:List Value}:st.lookup a=some (.pointer (some ⟨b,o,none⟩))→gG P t→Cell R H ⟨b,o,none⟩ v→nV P R H st r vs→nV P R H st (.cell a t::r) (v::vs)
 | agg {a:Tmp} {t:TypeId} {b o n:Nat} {us:List Value} {r:List ResultVar} {vs:List Value}:st.lookup a=some (.pointer (some ⟨b,o,none⟩))→kS P t n→us.length=n→aR R H b o us→nV P R H st r vs→nV P R H st (.cell a t::r) (.agg us.toArray::vs)
theorem aLa{tmps:Array Value}{n:Nat}(ht:fU n st tmps):∀ {l:List ResultVar} {vs:List Value},nV P R H st l vs→∀ {K:List Value→aE→an→Prop},K vs R H →
  aK P B R H (l.mapM (m:=Sem) λ
   | .tmp t=>pure (tmps.getD t undef)
   | .cell a t=>do loadVar t (← asAddr (tmps.getD a undef))) K:=by
 intro l vs h
 induction h with
 | nil=>intro K hk; exact aK.pure hk
 | @tmp t v r vs hl _ ih =>
  intro K hk
  rw [List.mapM_cons]
  have:tmps.getD t undef=v:=by simp [Array.getD_eq_getD_getElem?,ht.2 t v hl]
  refine aq.cG (a:=v) (by show aq P (pure (tmps.getD t undef)) v; rw [this]; exact aq.pure _) (aK.bind (ih (K:=λ us R' H'=>K (v::us) R' H') hk |>.mono λ us R' H' h=>aK.pure h))
 | @one a t b o v r vs hl OZ hc _ ih =>
  intro K hk
  rw [List.mapM_cons]
  have:tmps.getD a undef = .pointer (some ⟨b,o,none⟩):=by simp [Array.getD_eq_getD_getElem?,ht.2 a _ hl]
  simp only [this]
  refine aK.bind (aq.cG (a:=⟨b,o,none⟩) (aq.pure _) ?_)
  unfold loadVar
  refine aq.cG OZ.1 (aK.load hc (aK.bind (ih (K:=λ us R' H'=>K (v::us) R' H') hk |>.mono λ us R' H' h=>aK.pure h)))
 | @agg a t b o n us r vs hl OZ hn hc _ ih =>
  intro K hk
  rw [List.mapM_cons]
  have:tmps.getD a undef = .pointer (some ⟨b,o,none⟩):=by simp [Array.getD_eq_getD_getElem?,ht.2 a _ hl]
  simp only [this]
  refine aK.bind (aq.cG (a:=⟨b,o,none⟩) (aq.pure _) ?_)
  unfold loadVar
  refine aq.cG OZ.1 ?_
  simp only [if_true]
  subst hn
  refine aq.cG OZ.2 (aK.bind (aK.loadCellsFrom us 0 #[] (by simpa using hc) (aK.pure ?_)))
  simp only [List.append_toArray,List.nil_append]
  exact aK.bind (ih (K:=λ vs R' H'=>K (.agg us.toArray::vs) R' H') hk |>.mono λ us R' H' h=>aK.pure h)
theorem P5{fn:Func}{tmps:Array Value}{n:Nat}{vs:List Value}(ht:fU n st tmps)(h:nV P R H st fn.results.toList vs):aK P B R H (results fn tmps) λ v R' H'=>v=rQ vs∧R'=R∧H'=H:=by
 unfold results
 rw [← Array.toArray_toList (xs:=fn.results),List.mapM_toArray]
 refine aK.bind (aK.map (aLa ht h ?_))
 cases vs with
 | nil=>exact aK.pure ⟨rfl,rfl,rfl⟩
 | cons v r=>cases r with
  | nil=>exact aK.pure ⟨rfl,rfl,rfl⟩
  | cons _ _=>exact aK.pure ⟨rfl,rfl,rfl⟩
theorem At.aKU{fr:Frame}{cs:List Frame}{f:FuncId}{n:Nat}{fn:Func}{vs:List Value}(hf:P.funcs[f]? = some fn)(hr:nV P R H st fn.results.toList vs)(hj:ag.J R H (bA (fr.finish (rQ vs)) cs)) :
  At ag ⟨f,.normal,none,n,[],fr::cs⟩ R H st (.code .ret::k):=λ tmps ht=>by
 refine Jd.ctl (g':=bA { (bq ⟨f,.normal,none,n,[],fr::cs⟩ tmps (.code .ret::k)) with mode:=.returning } (fr::cs)) rfl (λ w=>by simp [stepG,stepG.exec,bA,bq])
  (ag.step rfl λ w hw=>?_)
 obtain ⟨v,w',R',H',h1,h2,h3,rfl,rfl,rfl⟩:=P5 (P:=P) ht hr w hw
 refine ⟨bA (fr.finish (rQ vs)) cs,w',seen P f ((results fn tmps).events P w #[]),R',H',?_,λ e he=>h2 e (mem_seen he),h3,hj⟩
 simp [stepG,unwind,doReturn,bA,bq,hf,h1,GStep.after]
theorem At.qe{fr:Frame}{cs:List Frame}{f:FuncId}{n:Nat}{fn:Func}{vs:List Value}(hf:P.funcs[f]? = some fn)(hr:nV P R H st fn.results.toList vs)(hj:ag.J R H (bA (fr.finish (rQ vs)) cs)) :
  At ag ⟨f,.normal,none,n,[],fr::cs⟩ R H st []:=λ tmps ht=>by
 refine Jd.ctl (g':=bA { (bq ⟨f,.normal,none,n,[],fr::cs⟩ tmps []) with mode:=.returning } (fr::cs)) rfl (λ w=>by simp [stepG,stepG.exec,bA,bq])
  (ag.step rfl λ w hw=>?_)
 obtain ⟨v,w',R',H',h1,h2,h3,rfl,rfl,rfl⟩:=P5 (P:=P) ht hr w hw
 refine ⟨bA (fr.finish (rQ vs)) cs,w',seen P f ((results fn tmps).events P w #[]),R',H',?_,λ e he=>h2 e (mem_seen he),h3,hj⟩
 simp [stepG,unwind,doReturn,bA,bq,hf,h1,GStep.after]
end
section
variable {P:Program} {B:Base} {main:Bool}
abbrev lE(α:Type):=aE→α→Value→Prop
def pV(ag:Jd P B main)(R:aE)(H:an){α β:Type}(A:lE α)(D:lE β)(v:Value)(f:α→Option β):Prop :=
 ∃ eI first captured,v = .func (.func eI) first captured∧aV P eI∧∀ R' H',aN R R'→(∀ p∈H,p∈H')→∀ x r va,A R' x va→f x=some r→ax ag eI (first++#[va]++captured) R' H' λ v bY cD=>aN R' bY∧cD=H'∧D bY r v
def VI(kd:IntKind):lE Int:=λ _ x v=>v = .int kd x
def VB:lE Bool:=λ _ x v=>v = .bool x
def II{α:Type}(C:b9 α)(k:Nat):lE (List α):=λ R xs v=>au C k R v xs
def lD{α:Type}(C:b9 α):lE α:=λ R x v=>∃ es,v = .agg (List.toArray es)∧C R x es
theorem pV.up{ag:Jd P B main}{R R':aE}{H H':an}{α β:Type}{A:lE α}{D:lE β}{v:Value}{f:α→Option β}(h:pV ag R H A D v f)(hR:aN R R')(hH:∀ p∈H,p∈H'):pV ag R' H' A D v f:=by
 obtain ⟨eI,first,captured,h1,h2,h3⟩:=h
 exact ⟨eI,first,captured,h1,h2,λ bY cD sK hH'=>h3 bY cD (hR.trans sK) (λ p hp=>hH' p (hH p hp))⟩
end
end Go.Lg
namespace Go.Lg
open Go.Conc
theorem fc{h l1 l2:an}(p:List.Sublist l1 l2):List.Sublist (h++l1) (h++l2):=List.Sublist.append (List.Sublist.refl _) p
theorem aG{h l1 l2:an}(p:List.Sublist l1 l2):List.Sublist l1 (h++l2):=by
 induction h with
 | nil=>exact p
 | cons a h ih=>exact ih.cons a
def MC{α:Type}(f:α→Value)(n:Nat):b9 (List α):=λ _ xs es=>xs.length=n∧es=[]++(xs.map f++[])
theorem eS{vs:List Value}{cs:Array Value}(h:vs.length=cs.size):fb cs 0 vs=vs.toArray:=by
 have hs:(fb cs 0 vs).size=cs.size:=Ld _ _ _
 apply Array.ext_getElem?
 intro j
 rw [D8 vs cs 0 j (by omega)]
 by_cases hj:j < vs.length
 ·rw [if_pos (by omega)]; simp
 ·rw [if_neg (by omega)]
  rw [Array.getElem?_eq_none (by omega)]
  simp [Nat.not_lt.1 hj]
section
variable {P:Program} {B:Base} {main:Bool} {ag:Jd P B main} {c:Ctx} {R:aE} {H:an} {st:St} {k:List Item} {o:Oper} {C:aE→an→St→Prop}
theorem At.aHY{S Q ρ:Type}{body:S→Option (S ⊕ Q)}{s0:S}{code:Code}{g:Q→Option ρ}{r:ρ}(hM:(Go.Lg.bd body s0).bind g=some r)(I:S→aE→an→St→Prop)(h0:I s0 R H st)(hb:∀ s R H st,I s R H st→∀ x,body s=some x→(∀ s',x=Sum.inl s'→∀ R' H' ab,I s' R' H' ab→At ag c R' H' ab (.inLoop code::k))→(∀ p,x=(Sum.inr p)→g p=some r)→At ag c R H st (.code code :: .inLoop code::k)):At ag c R H st (.code (.loop code)::k):=At.bd hM I (λ s R H st hI x hx again out=>hb s R H st hI x hx again (λ _ hp=>out _ hp)) h0
theorem At.c9{S P0 ρ:Type}{body:S→Option (S ⊕ P0)}{s0:S}{code:Code}{f0:P0→Option ρ}{r:ρ}{k0:List Item}(hM:(Go.Lg.bd body s0).bind f0=some r)(I:S→aE→an→St→Prop)(E0:P0→aE→an→St→Prop)(Zh:Nat)(_:exitTo Zh k=some k0)(h0:I s0 R H st)(Ci:∀ p R H st,E0 p R H st→f0 p=some r→At ag c R H st k0)(hb:∀ s R H st,I s R H st→∀ x,body s=some x→(∀ s',x=Sum.inl s'→∀ R' H' ab,I s' R' H' ab→At ag c R' H' ab (.inLoop code::k))→(∀ p,x=(Sum.inr p)→∀ R' H' ab,E0 p R' H' ab→At ag c R' H' ab k0)→At ag c R H st (.code code :: .inLoop code::k)):At ag c R H st (.code (.loop code)::k):=At.bd hM I (λ s R H st hI x hx again out=>hb s R H st hI x hx again (λ p hp R' H' ab hE=>Ci p R' H' ab hE (out _ hp))) h0
theorem At.e8{S P0 Q ρ:Type}{body:S→Option (S ⊕ (P0 ⊕ Q))}{s0:S}{code:Code}{f0:P0→Option ρ}{g:Q→Option ρ}{r:ρ}{k0:List Item}(hM:(Go.Lg.bd body s0).bind (Sum.elim f0 g)=some r)(I:S→aE→an→St→Prop)(E0:P0→aE→an→St→Prop)(Zh:Nat)(_:exitTo Zh k=some k0)(h0:I s0 R H st)(Ci:∀ p R H st,E0 p R H st→f0 p=some r→At ag c R H st k0)(hb:∀ s R H st,I s R H st→∀ x,body s=some x→(∀ s',x=Sum.inl s'→∀ R' H' ab,I s' R' H' ab→At ag c R' H' ab (.inLoop code::k))→(∀ p,x=(Sum.inr (Sum.inl p))→∀ R' H' ab,E0 p R' H' ab→At ag c R' H' ab k0)→(∀ p,x=(Sum.inr (Sum.inr p))→g p=some r)→At ag c R H st (.code code :: .inLoop code::k)):At ag c R H st (.code (.loop code)::k):=At.bd hM I (λ s R H st hI x hx again out=>hb s R H st hI x hx again (λ p hp R' H' ab hE=>Ci p R' H' ab hE (out _ hp)) (λ _ hp=>out _ hp)) h0
theorem At.fM{P0 ρ:Type}{A:Option P0}{it:Item}{f0:P0→Option ρ}{r:ρ}(hM:A.bind f0=some r)(E0:P0→aE→an→St→Prop)(Ci:∀ p R H st,E0 p R H st→f0 p=some r→At ag c R H st k)(hb:∀ x,A=some x→(∀ p,x=p→∀ R' H' ab,E0 p R' H' ab→At ag c R' H' ab k)→At ag c R H st (it::k)):At ag c R H st (it::k):=by
 obtain ⟨x,h1,h2⟩:=af hM
 exact hb x h1 (λ p hp R' H' ab hE=>Ci p R' H' ab hE (by subst hp; exact h2))
theorem At.aG2{P0 Q ρ:Type}{A:Option (P0 ⊕ Q)}{it:Item}{f0:P0→Option ρ}{g:Q→Option ρ}{r:ρ}(hM:A.bind (Sum.elim f0 g)=some r)(E0:P0→aE→an→St→Prop)(Ci:∀ p R H st,E0 p R H st→f0 p=some r→At ag c R H st k)(hb:∀ x,A=some x→(∀ p,x=(Sum.inl p)→∀ R' H' ab,E0 p R' H' ab→At ag c R' H' ab k)→(∀ p,x=(Sum.inr p)→g p=some r)→At ag c R H st (it::k)):At ag c R H st (it::k):=by
 obtain ⟨x,h1,h2⟩:=af hM
 exact hb x h1 (λ p hp R' H' ab hE=>Ci p R' H' ab hE (by subst hp; exact h2)) (λ p hp=>by subst hp; exact h2)
theorem Ox.Fz{α β:Type}{A:lE α}{D:lE β}{f:α→Option β}{x y:Operand}{ts:Array TypeId}{v va:Value}{a:α}{r:β}{H0:an}(h:pV ag R H0 A D v f)
  (aJ:o.op = .call ⟨.value x,#[y],ts⟩) (hx:bg st x=some v) (hy:bg st y=some va) (hA:A R a va) (hf:f a=some r) (hd:cp o.dst c.n) (hH:∀ p∈H0,p∈H)
  (hC:∀ w R',aN R R'→D R' r w→∃ ab,aH (bR o.dst w st) ab∧C R' H ab):nU ag c o R H st C:=by
 obtain ⟨eI,first,captured,rfl,he,hk⟩:=h
 refine Ox.cN (vs:=[va]) aJ rfl hx (by simp [sB,hy]) he rfl hd ((hk R H (aN.refl _) hH a r va hA hf).mono λ w R' H' h=>?_)
 obtain ⟨h1,rfl,h3⟩:=h
 exact hC w R' h1 h3
end
end Go.Lg
namespace Go.Lg
open Go.Conc
def bH{α:Type}(C:b9 α)(k:Nat)(R:aE)(H:an)(v:Value)(xs:List α):Prop :=
 ∃ A cap es,v = .slice A xs.length cap∧aF C k R xs es∧xs.length≤cap∧(xs≠[]→∃ b o,A=some ⟨b,o,none⟩∧aR R H b o es)
theorem bH.le{α:Type}{C:b9 α}[CM C]{k:Nat}{R R':aE}{H:an}{v:Value}{xs:List α}(h:bH C k R H v xs)(hR:aN R R'):bH C k R' H v xs:=by
 obtain ⟨A,cap,es,h1,h2,h3,h4⟩:=h
 refine ⟨A,cap,es,h1,h2.mono hR,h3,λ hx=>?_⟩
 obtain ⟨b,o,g1,g2⟩:=h4 hx
 exact ⟨b,o,g1,g2.le hR⟩
theorem bH.sub{α:Type}{C:b9 α}{k:Nat}{R:aE}{H H':an}{v:Value}{xs:List α}(h:bH C k R H v xs)(hs:∀ p∈H,p∈H'):bH C k R H' v xs:=by
 obtain ⟨A,cap,es,h1,h2,h3,h4⟩:=h
 refine ⟨A,cap,es,h1,h2,h3,λ hx=>?_⟩
 obtain ⟨b,o,g1,g2⟩:=h4 hx
 exact ⟨b,o,g1,g2.sub hs⟩
theorem au.rd{α:Type}{C:b9 α}{k:Nat}{R:aE}{H:an}{v:Value}{xs:List α}(h:au C k R v xs):bH C k R H v xs:=by
 obtain ⟨A,cap,es,h1,h2,hc,h3⟩:=h
 refine ⟨A,cap,es,h1,h2,hc,λ hx=>?_⟩
 obtain ⟨b,o,arr,e,fz,g1,g2,g3⟩:=h3 hx
 exact ⟨b,o,g1,λ j w hj=>⟨rfl,arr,e,fz,.inl g2,g3 j w hj⟩⟩
theorem aU.rd{α:Type}{C:b9 α}{k e:Nat}{R:aE}{H:an}{v:Value}{xs:List α}{Hs:an}(h:aU C k e R v xs Hs)(hs:∀ p∈Hs,p∈H):bH C k R H v xs:=by
 rcases h with ⟨A,rfl,rfl,rfl⟩ | ⟨b,cap,cs,es,rfl,rfl,h3,h4,h5,h6⟩
 ·exact ⟨A,0,[],rfl,.nil,Nat.le_refl _,λ h=>absurd rfl h⟩
 ·exact ⟨_,cap,es,rfl,h5,h4,λ _=>⟨b,0,rfl,λ j w hj=>⟨rfl,cs,e,(0,0),.inr (hs _ (by simp)),by simpa using h6 j w hj⟩⟩⟩
theorem bH.lit{α:Type}{C:b9 α}{k e n b:Nat}{R:aE}{H:an}{ys:List α}{cs:Array Value}{fz:Nat × Nat}(hm:(b,Obj.cells cs e fz)∈H)(hE:aF C k R ys cs.toList)(hn:ys.length=n):bH C k R H (.slice (some ⟨b,0,none⟩) n n) ys:=by
 subst hn
 exact ⟨_,ys.length,cs.toList,rfl,hE,Nat.le_refl _,λ _=>⟨b,0,rfl,λ j w hj=>⟨rfl,cs,e,fz,.inr hm,by simpa using hj⟩⟩⟩
theorem bH.arg{α:Type}{C:b9 α}{k:Nat}{R:aE}{H:an}{v:Value}{xs:List α}(h:bH C k R H v xs):cZ C k R H v xs:=by
 obtain ⟨A,cap,es,h1,h2,_,h3⟩:=h
 exact ⟨A,cap,es,h1,h2,h3⟩
theorem bH.elem{P:Program}{α:Type}{K:b9 α}{k t e:Nat}{R:aE}{H:an}{v:Value}{xs:List α}{i:Int}{x:α}(h:bH K k R H v xs)(ht:lC P t e k)(hi:idx xs i=some x) :
  ∃ b n es,K R x es∧aR R H b n es∧BK P t v i b n:=by
 obtain ⟨h1,h2,h3⟩:=zV hi
 obtain ⟨A,cap,es,rfl,hE,_,hc⟩:=h
 obtain ⟨b,o,rfl,g2⟩:=hc (by rintro rfl; simp at h3)
 obtain ⟨e1,f1,f2,f3⟩:=hE.at_ _ _ h3
 refine ⟨b,o+i.toNat * k,e1,f1,λ j w hj=>?_,λ kd=>?_⟩
 ·have:=g2 _ _ (f3 j w hj)
  simpa [Nat.add_assoc] using this
 ·have:=aaS (P:=P) (b:=b) (m:=o) (cap:=cap) (kd:=kd) ht (j:=i.toNat) (len:=xs.length) (by omega)
  rwa [Int.toNat_of_nonneg h1] at this
theorem aLN(a b:Nat × Obj)(l:an):List.Perm (a::b::l) (b::a::l):=List.Perm.swap _ _ _
theorem Qc(a:Nat × Obj)(B l:an):List.Perm (a::(B++l)) (B++(a::l)):=List.perm_middle.symm
section
variable {P:Program} {B:Base} {main:Bool} {ag:Jd P B main} {c:Ctx} {R:aE} {H H':an} {st ab:St} {o:Oper} {C:aE→an→St→Prop} {k:List Item}
theorem Ox.Zs{α:Type}{K:b9 α}{k:Nat}{x:Operand}{t e:TypeId}{v:Value}{xs:List α}{H0:an}(aJ:o.op = .call ⟨.builtin .len,#[x],#[t]⟩)(hx:bg st x=some v)(hl:bH K k R H0 v xs)(ht:P.underlying t=some (.slice e))
  (hd:cp o.dst c.n) (hs:aH (bR o.dst (.int .i64 (xs.length:Int)) st) ab) (h:C R H ab):aM P B c o R H st C:=by
 obtain ⟨A,cap,es,rfl,_⟩:=hl
 exact Ox.len aJ hx ht hd hs h
theorem At.cut{it:Item}(E:aE→an→St→Prop)(h1:∀ R' H' ab,E R' H' ab→At ag c R' H' ab k)(h2:(∀ R' H' ab,E R' H' ab→At ag c R' H' ab k)→At ag c R H st (it::k)):At ag c R H st (it::k):=h2 h1
theorem Any.aLU{S:Nat→an}{ops:Array Oper}{n:Nat}{rem ra rb:List Nat}{i j:Nat}{a b:Oper}(ha:ops[i]? = some a)(hb:ops[j]? = some b)(k8:rem.filter (mG ops rem)=[i,j])(Kl:dz ops st a=some true)(Km:dz ops st b=some true)(cP:rem.Nodup)(WH:rem.erase i=ra)(WI:rem.erase j=rb)
  (h1:nU ag c a R H st λ R' H' ab=>aN R R'∧(∀ p∈S i,p∈H→p∈H')∧Any ag c S ops k n ra R' H' ab)
  (h2:nU ag c b R H st λ R' H' ab=>aN R R'∧(∀ p∈S j,p∈H→p∈H')∧Any ag c S ops k n rb R' H' ab):Any ag c S ops k (n+1) rem R H st:=by
 subst WH WI
 refine ⟨cP,λ tmps ht=>.inr ⟨(λ e=>by rw [e] at k8; cases k8),λ _ x hx Zb=>?_⟩⟩
 have:x∈rem.filter (mG ops rem):=List.mem_filter.2 ⟨hx,Zb⟩
 rw [k8] at this
 simp only [List.mem_cons,List.not_mem_nil,or_false] at this
 rcases this with rfl | rfl
 ·exact h1.Gx ha (nE ht Kl) ht
 ·exact h2.Gx hb (nE ht Km) ht
theorem Any.ahW{S:Nat→an}{ops:Array Oper}{n:Nat}{rem ra rb rc:List Nat}{i j l:Nat}{a b d:Oper}(ha:ops[i]? = some a)(hb:ops[j]? = some b)(hd:ops[l]? = some d)(k8:rem.filter (mG ops rem)=[i,j,l])(Kl:dz ops st a=some true)(Km:dz ops st b=some true)(hwd:dz ops st d=some true)(cP:rem.Nodup)(WH:rem.erase i=ra)(WI:rem.erase j=rb)(hrc:rem.erase l=rc)
  (h1:nU ag c a R H st λ R' H' ab=>aN R R'∧(∀ p∈S i,p∈H→p∈H')∧Any ag c S ops k n ra R' H' ab)
  (h2:nU ag c b R H st λ R' H' ab=>aN R R'∧(∀ p∈S j,p∈H→p∈H')∧Any ag c S ops k n rb R' H' ab)
  (h3:nU ag c d R H st λ R' H' ab=>aN R R'∧(∀ p∈S l,p∈H→p∈H')∧Any ag c S ops k n rc R' H' ab):Any ag c S ops k (n+1) rem R H st:=by
 subst WH WI hrc
 refine ⟨cP,λ tmps ht=>.inr ⟨(λ e=>by rw [e] at k8; cases k8),λ _ x hx Zb=>?_⟩⟩
 have:x∈rem.filter (mG ops rem):=List.mem_filter.2 ⟨hx,Zb⟩
 rw [k8] at this
 simp only [List.mem_cons,List.not_mem_nil,or_false] at this
 rcases this with rfl | rfl | rfl
 ·exact h1.Gx ha (nE ht Kl) ht
 ·exact h2.Gx hb (nE ht Km) ht
 ·exact h3.Gx hd (nE ht hwd) ht
end
end Go.Lg
namespace Go.Lg
open Go.Conc
section
variable {P:Program} {d:Nat} {xs ys:Array Value}
inductive Ij (P:Program) (d:Nat) (xs ys:Array Value):List Field→Bool→Prop
 | nil:Ij P d xs ys [] true
 | cons {f:Field} {rest:List Field} {a b:Value} {r r':Bool}:(f.name == "_")=false→aq P (part f.type xs f.offset) a→aq P (part f.type ys f.offset) b→aq P (Op.equalIn d f.type a b) r→Ij P d xs ys rest r'→Ij P d xs ys (f::rest) (r && r')
def ahf(r:Bool):Option Bool × Unit:=(if r then none else some false,())
theorem aL0{fs:List Field}{r:Bool}(h:Ij P d xs ys fs r) :
  aq P (forIn fs ((none:Option Bool),()) λ f (_:Option Bool × Unit) =>
      if f.name ≠ "_" then do
       let a ← part f.type xs f.offset
       let b ← part f.type ys f.offset
       let q ← Op.equalIn d f.type a b
       if (!q)=true then pure (ForInStep.done (some false,())) else pure (ForInStep.yield (none,()))
      else pure (ForInStep.yield (none,()))) (ahf r):=by
 induction h with
 | nil=>rw [List.forIn_nil]; exact aq.pure _
 | @cons f rest a b r r' hn ha hb hq _ ih =>
  have hn':f.name ≠ "_":=by simpa using hn
  rw [List.forIn_cons]
  simp only [hn',ne_eq,not_false_iff,if_true,bind_assoc]
  refine aq.bind ha (aq.bind hb (aq.bind hq ?_))
  cases r with
  | false=>simp only [Bool.not_false,if_true,pure_bind,Bool.false_and]; exact aq.pure _
  | true =>
   simp only [Bool.not_true,Bool.false_eq_true,if_false,pure_bind,Bool.true_and]
   simpa only [ne_eq] using ih
theorem Qz{t:TypeId}{fields:Array Field}{r:Bool}(hu:P.underlying t=some (.struct fields))(ct:P.stoodInHeld t=false)(h:Ij P d xs ys fields.toList r):aq P (Op.equalIn (d+1) t (.agg xs) (.agg ys)) r:=by
 rw [Op.equalIn]
 refine aq.bind (aq.underlying hu) ?_
 dsimp only
 refine aq.bind aq.program ?_
 simp only [ct,Bool.false_eq_true,if_false]
 rw [← Array.forIn_toList]
 refine aq.bind (aL0 h) ?_
 cases r <;> exact aq.pure _
theorem rW{t:TypeId}{kd:IntKind}{a b:Int}(hu:P.underlying t=some (.int kd)):aq P (Op.equalIn (d+1) t (.int kd a) (.int kd b)) (a == b):=by
 rw [Op.equalIn]
 refine aq.bind (aq.underlying hu) ?_
 simp only [if_true]
 exact aq.pure _
theorem Ly{t:TypeId}{a b:Bool}(hu:P.underlying t=some .bool):aq P (Op.equalIn (d+1) t (.bool a) (.bool b)) (a == b):=by
 rw [Op.equalIn]
 exact aq.bind (aq.underlying hu) (aq.pure _)
inductive Ii (P:Program) (d:Nat) (elem:TypeId) (n:Nat) (xs ys:Array Value):List Nat→Bool→Prop
 | nil:Ii P d elem n xs ys [] true
 | cons {i:Nat} {rest:List Nat} {a b:Value} {r r':Bool}:aq P (part elem xs (i * n)) a→aq P (part elem ys (i * n)) b→aq P (Op.equalIn d elem a b) r→Ii P d elem n xs ys rest r'→Ii P d elem n xs ys (i::rest) (r && r')
theorem aLZ{elem:TypeId}{n:Nat}{is:List Nat}{r:Bool}(h:Ii P d elem n xs ys is r) :
  aq P (forIn is ((none:Option Bool),()) λ i (_:Option Bool × Unit)=>do
      let a ← part elem xs (i * n)
      let b ← part elem ys (i * n)
      let q ← Op.equalIn d elem a b
      if (!q)=true then pure (ForInStep.done (some false,())) else pure (ForInStep.yield (none,()))) (ahf r):=by
 induction h with
 | nil=>rw [List.forIn_nil]; exact aq.pure _
 | @cons i rest a b r r' ha hb hq _ ih =>
  rw [List.forIn_cons]
  simp only [bind_assoc]
  refine aq.bind ha (aq.bind hb (aq.bind hq ?_))
  cases r with
  | false=>simp only [Bool.not_false,if_true,pure_bind,Bool.false_and]; exact aq.pure _
  | true =>
   simp only [Bool.not_true,Bool.false_eq_true,if_false,pure_bind,Bool.true_and]
   exact ih
theorem ah1{n len:Nat}{t elem:TypeId}{r:Bool}(hu:P.underlying t=some (.array len elem))(hs:aq P (sizeOf elem) n)(h:Ii P d elem n xs ys (List.range len) r):aq P (Op.equalIn (d+1) t (.agg xs) (.agg ys)) r:=by
 rw [Op.equalIn]
 refine aq.bind (aq.underlying hu) ?_
 dsimp only
 refine aq.bind hs ?_
 rw [Std.Legacy.Range.forIn_eq_forIn_range']
 simp only [Std.Legacy.Range.size,Nat.sub_zero,Nat.add_sub_cancel,Nat.div_one]
 rw [← List.range_eq_range']
 refine aq.bind (aLZ h) ?_
 cases r <;> exact aq.pure _
end
end Go.Lg
namespace Go.Lg
open Go.Conc
def fI(s:ByteArray):List Int:=s.data.toList.map λ b=>(b.toNat:Int)
def tW(s:ByteArray)(i:Int):Option Int:=idx (fI s) i
section
variable {P:Program} {B:Base} {main:Bool} {ag:Jd P B main} {c:Ctx} {R:aE} {H H':an} {st ab:St} {o:Oper} {C:aE→an→St→Prop} {k:List Item}
theorem Ox.O8{x y:Operand}{t:TypeId}{s:ByteArray}{kd:IntKind}{i z:Int}(aJ:o.op = .index t x y)(hx:bg st x=some (.string s))(hy:bg st y=some (.int kd i))(ht:P.underlying t=some .string)(hz:tW s i=some z)
  (hd:cp o.dst c.n) (hs:aH (bR o.dst (.int .u8 z) st) ab) (h:C R H ab):aM P B c o R H st C :=
 Ox.iS (s:=λ ρ=>Instr.index t (ρ x) (ρ y)) (by rw [aJ]; rfl) hd (λ ρ=>by simp only [execOp,aJ]) (λ ρ aX=>by
  rw [aX x _ hx,aX y _ hy]
  obtain ⟨h1,h2,h3⟩:=zV hz
  unfold fI at h3
  rw [List.getElem?_map] at h3
  obtain ⟨b,hb,rfl⟩:=Option.map_eq_some_iff.1 h3
  unfold Instr.index
  refine aq.bind (a:=(kd,i)) (aq.pure _) (aq.bind (aq.underlying ht) ?_)
  have e:(if 0≤i then s[i.toNat]? else none)=some b:=by
   rw [if_pos h1]
   have lP:s.data[i.toNat]? = some b:=by simpa using hb
   rw [← lP]
   rfl
  simp only [e]
  exact aq.pure _) hs h
def acy(P:Program)(t:TypeId)(z:Array Value):Prop:=gH P t z∧∃ n e m,P.underlying t=some (.array n e)∧aq P (sizeOf e) m
theorem Ox.sF{t:TypeId}{z:Array Value}(aJ:o.op = .build t #[])(ht:acy P t z)
  (hd:cp o.dst c.n) (hs:aH (bR o.dst (.agg z) st) ab) (h:C R H ab):aM P B c o R H st C :=
 Ox.iS (s:=λ _=>Instr.build t #[]) (by rw [aJ]; rfl) hd (λ ρ=>by simp [execOp,aJ]) (λ ρ aX=>by
  obtain ⟨⟨z0,hz,rfl⟩,n,e,m,h1,h2⟩:=ht
  unfold Instr.build
  exact aq.bind hz (aq.bind (aq.underlying h1) (aq.bind h2 (aq.pure _)))) hs h
def E8(P:Program)(t _:Nat)(v:Value)(len l h:Int)(v':Value):Prop :=
 ∀ (ρ:Operand→Value) (st:St) (x:Operand) (lo hi:Option Operand),Knows st ρ→ρ x=v→rK st lo=some l→rC st len.toNat hi=some h→aq P (Instr.sliceAt t (ρ x) (lo.map ρ) (hi.map ρ) none) v'
theorem bH.cut{α:Type}{K:b9 α}{k t e:Nat}{xs ys:List α}{v:Value}{l h:Int}{H0:an}(hS:bH K k R H0 v xs)(ht:lC P t e k)(hc:gQ xs l h=some ys):∃ v',bH K k R H0 v' ys∧E8 P t k v (xs.length:Int) l h v':=by
 obtain ⟨h1,h2,h3,rfl⟩:=I0 hc
 obtain ⟨A,cap,es,rfl,hE,rz,hm⟩:=hS
 refine ⟨(.slice (if cap=l.toNat then A else A.map (·.add (l.toNat * k))) (h.toNat - l.toNat) (cap - l.toNat)),?_,?_⟩
 ·have vb:((xs.take h.toNat).drop l.toNat).length=h.toNat - l.toNat:=by
   simp only [List.length_drop,List.length_take]
   omega
  refine ⟨(if cap=l.toNat then A else A.map (·.add (l.toNat * k))),cap - l.toNat,(es.take (h.toNat * k)).drop (l.toNat * k),by rw [vb],hE.take.drop,by rw [vb]; omega,λ b7=>?_⟩
  have br:l.toNat < h.toNat:=by
   apply Classical.byContradiction
   intro hn
   apply b7
   apply List.eq_nil_of_length_eq_zero
   simp only [List.length_drop,List.length_take]
   omega
  obtain ⟨b,o',rfl,g2⟩:=hm (by rintro rfl; simp at h3; omega)
  refine ⟨b,o'+l.toNat * k,?_,λ j w hj=>?_⟩
  ·rw [if_neg (by omega)]; simp [pZ]
  ·rw [List.getElem?_drop,List.getElem?_take] at hj
   split at hj
   ·have:=g2 _ _ hj
    simpa [Nat.add_assoc] using this
   ·cases hj
 ·intro ρ st x lo hi aX hx hl hh
  rw [Int.toNat_natCast] at hh
  rw [hx]
  unfold Instr.sliceAt
  refine aq.bind (aq.underlying ht.1) ?_
  unfold Instr.slice
  refine aq.bind (aq.underlying ht.1) (aq.bind (Qy aX hl hh ⟨h1,h2,h3⟩ rz) (aq.bind ht.2 (aq.pure _)))
theorem au.cut{α:Type}{K:b9 α}{k t e:Nat}{xs ys:List α}{v:Value}{l h:Int}(hS:au K k R v xs)(ht:lC P t e k)(hc:gQ xs l h=some ys):∃ v',au K k R v' ys∧E8 P t k v (xs.length:Int) l h v':=by
 obtain ⟨h1,h2,h3,rfl⟩:=I0 hc
 obtain ⟨A,cap,es,rfl,hE,rz,hm⟩:=hS
 refine ⟨(.slice (if cap=l.toNat then A else A.map (·.add (l.toNat * k))) (h.toNat - l.toNat) (cap - l.toNat)),?_,?_⟩
 ·have vb:((xs.take h.toNat).drop l.toNat).length=h.toNat - l.toNat:=by
   simp only [List.length_drop,List.length_take]
   omega
  refine ⟨(if cap=l.toNat then A else A.map (·.add (l.toNat * k))),cap - l.toNat,(es.take (h.toNat * k)).drop (l.toNat * k),by rw [vb],hE.take.drop,by rw [vb]; omega,λ b7=>?_⟩
  have br:l.toNat < h.toNat:=by
   apply Classical.byContradiction
   intro hn
   apply b7
   apply List.eq_nil_of_length_eq_zero
   simp only [List.length_drop,List.length_take]
   omega
  obtain ⟨b,o',arr,e',fz,rfl,g2,g3⟩:=hm (by rintro rfl; simp at h3; omega)
  refine ⟨b,o'+l.toNat * k,arr,e',fz,?_,g2,λ j w hj=>?_⟩
  ·rw [if_neg (by omega)]; simp [pZ]
  ·rw [List.getElem?_drop,List.getElem?_take] at hj
   split at hj
   ·have:=g3 _ _ hj
    simpa [Nat.add_assoc] using this
   ·cases hj
 ·intro ρ st x lo hi aX hx hl hh
  rw [Int.toNat_natCast] at hh
  rw [hx]
  unfold Instr.sliceAt
  refine aq.bind (aq.underlying ht.1) ?_
  unfold Instr.slice
  refine aq.bind (aq.underlying ht.1) (aq.bind (Qy aX hl hh ⟨h1,h2,h3⟩ rz) (aq.bind ht.2 (aq.pure _)))
theorem Ox.sG{x:Operand}{t k:Nat}{lo hi:Option Operand}{v v':Value}{len l h:Int}(aJ:o.op = .slice t x lo hi none)(hx:bg st x=some v)(hl:rK st lo=some l)(hh:rC st len.toNat hi=some h)(hc:E8 P t k v len l h v')(hd:cp o.dst c.n)
  (hs:aH (bR o.dst v' st) ab) (hC:C R H ab):aM P B c o R H st C :=
 Ox.iS (s:=λ ρ=>Instr.sliceAt t (ρ x) (lo.map ρ) (hi.map ρ) none) (by rw [aJ]; rfl) hd (λ ρ=>by simp only [execOp,aJ]; rfl) (λ ρ aX=>hc ρ st x lo hi aX (aX x _ hx) hl hh) hs hC
theorem aU.fj{α:Type}{K:b9 α}{k t e:Nat}{v:Value}{xs:List α}{Hs:an}{i:Int}{x:α}(h:aU K k e R v xs Hs)(ht:lC P t e k)(hi:idx xs i=some x) :
  ∃ b cs es,K R x es∧Hs=[(b,.cells cs e (0,0))]∧aR R Hs b (i.toNat * k) es∧(∀ (j:Nat) (w:Value),es[j]? = some w→cs[i.toNat * k+j]? = some w)∧BK P t v i b (i.toNat * k)∧es.length=k∧i.toNat * k+k≤cs.size ∧
   ∀ x' sI,K R x' sI→sI.length=k→aU K k e R v (xs.set i.toNat x') [(b,.cells (fb cs (i.toNat * k) sI) e (0,0))]:=by
 obtain ⟨h1,h2,h3⟩:=zV hi
 rcases h with ⟨A,rfl,rfl,rfl⟩ | ⟨b,cap,cs,es,rfl,rfl,g3,g4,g5,g6⟩
 ·simp at h3
 obtain ⟨e1,f1,f2,f3⟩:=g5.at_ _ _ h3
 have br:i.toNat < xs.length:=(List.getElem?_eq_some_iff.1 h3).1
 have rF:i.toNat * k+k≤xs.length * k:=by
  calc i.toNat * k+k=(i.toNat+1) * k:=by rw [Nat.add_mul,Nat.one_mul]
   _≤xs.length * k:=Nat.mul_le_mul_right k br
 have o7:xs.length * k≤cs.size:=by rw [g3]; exact Nat.mul_le_mul_right k g4
 refine ⟨b,cs,e1,f1,rfl,λ j w hj=>⟨rfl,cs,e,(0,0),.inr (by simp),g6 _ _ (f3 j w hj)⟩,λ j w hj=>g6 _ _ (f3 j w hj),λ kd=>?_,f2,by omega,λ x' sI q8 lx=>?_⟩
 ·have:=aaS (P:=P) (b:=b) (m:=0) (cap:=cap) (kd:=kd) ht (j:=i.toNat) (len:=xs.length) br
  rw [Int.toNat_of_nonneg h1] at this
  simpa using this
 ·refine .inr ⟨b,cap,_,(es.take (i.toNat * k))++(sI++es.drop (i.toNat * k+k)),by rw [List.length_set],rfl,by rw [Ld]; exact g3,by rw [List.length_set]; exact g4,?_,?_⟩
  ·have kY:=g5.len
   refine ⟨?_,λ j y hy=>?_⟩
   ·simp only [List.length_append,List.length_take,List.length_drop,List.length_set,lx,kY]
    omega
   ·rw [List.getElem?_set] at hy
    split at hy
    ·rename_i dA
     subst dA
     cases hy
     refine ⟨sI,q8,lx,λ a w hw=>?_⟩
     have ha:=(List.getElem?_eq_some_iff.1 hw).1
     rw [List.getElem?_append_right (by simp only [List.length_take]; omega)]
     simp only [List.length_take,kY]
     rw [show i.toNat * k+a - min (i.toNat * k) (xs.length * k)=a by omega,List.getElem?_append_left ha]
     exact hw
    ·rename_i dA
     obtain ⟨e2,q1,q2,q3⟩:=g5.at_ _ _ hy
     refine ⟨e2,q1,q2,λ a w hw=>?_⟩
     have ha:=(List.getElem?_eq_some_iff.1 hw).1
     rw [q2] at ha
     have hold:=q3 a w hw
     rcases Nat.lt_or_ge j i.toNat with afA | l3
     ·have:j * k+k≤i.toNat * k:=by
       calc j * k+k=(j+1) * k:=by rw [Nat.add_mul,Nat.one_mul]
        _≤i.toNat * k:=Nat.mul_le_mul_right k afA
      rw [List.getElem?_append_left (by simp only [List.length_take,kY]; omega),List.getElem?_take,if_pos (by omega)]
      exact hold
     ·have:i.toNat * k+k≤j * k:=by
       calc i.toNat * k+k=(i.toNat+1) * k:=by rw [Nat.add_mul,Nat.one_mul]
        _≤j * k:=Nat.mul_le_mul_right k (by omega)
      rw [List.getElem?_append_right (by simp only [List.length_take]; omega),List.getElem?_append_right (by simp only [List.length_take,kY,lx]; omega),List.getElem?_drop]
      simp only [List.length_take,kY,lx]
      rw [show i.toNat * k+k+(j * k+a - min (i.toNat * k) (xs.length * k) - k)=j * k+a by omega]
      exact hold
  ·intro j w hj
   have kY:=g5.len
   rw [D8 sI cs (i.toNat * k) j (by rw [lx]; omega)]
   rw [List.getElem?_append] at hj
   simp only [List.length_take,kY] at hj
   split at hj
   ·rename_i afA
    rw [List.getElem?_take] at hj
    split at hj
    ·rw [if_neg (by omega)]
     exact g6 _ _ hj
    ·cases hj
   ·rw [List.getElem?_append] at hj
    split at hj
    ·rename_i h5 h6
     rw [if_pos (by omega),← hj]
     congr 1
     omega
    ·rename_i h5 h6
     rw [lx] at h6
     rw [if_neg (by rw [lx]; omega)]
     rw [List.getElem?_drop,lx] at hj
     have:=g6 _ _ hj
     rwa [show i.toNat * k+k+(j - min (i.toNat * k) (xs.length * k) - k)=j by omega] at this
theorem aai:∀ (vs ws:List Value) (cs:Array Value) (o:Nat),fb cs o (vs++ws)=fb (fb cs o vs) (o+vs.length) ws
 | [],ws,cs,o=>by simp [fb]
 | v::vs,ws,cs,o=>by
  simp only [List.cons_append,fb,List.length_cons]
  rw [aai vs ws]
  congr 1
  omega
theorem aaj:∀ (vs:List Value) (cs:Array Value) (o:Nat),(∀ j w,vs[j]? = some w→cs[o+j]? = some w)→fb cs o vs=cs
 | [],cs,o,_=>rfl
 | v::vs,cs,o,h=>by
  have h0:cs[o]? = some v:=h 0 v rfl
  have br:=(Array.getElem?_eq_some_iff.1 h0).1
  have e:cs.setIfInBounds o v=cs:=by
   apply Array.ext_getElem?
   intro j
   by_cases hj:o=j
   ·subst hj; rw [Array.getElem?_setIfInBounds_self_of_lt br,h0]
   ·rw [Array.getElem?_setIfInBounds_ne hj]
  simp only [fb,e]
  exact aaj vs cs (o+1) λ j w hj=>by
   have:=h (j+1) w (by simpa using hj)
   rwa [show o+(j+1)=o+1+j by omega] at this
theorem Ox.fu{α:Type}{K:b9 α}{k e t b j n:Nat}{x y:Operand}{G:an→an}{v w:Value}{xs:List α}{i:Int}{x':α}{cs:Array Value}{pre mid post vs:List Value}(hG:gF G)
  (aJ:o.op = .store t x y) (hx:bg st x=some (.pointer (some ⟨b,i.toNat * k+j,none⟩))) (hy:bg st y=some w) (hw:w.cells.toList=vs) (ht:aq P (sizeOf t) n) (hn:vs.length=n) (h1:∀ u∈vs,u.oneCell'=true)
  (hc:∀ (j:Nat) (w:Value),(pre++(mid++post))[j]? = some w→cs[i.toNat * k+j]? = some w) (hj:pre.length=j) (hm:mid.length=n) (hk:(pre++(mid++post)).length=k) (rF:i.toNat * k+k≤cs.size)
  (hO:∀ x' sI,K R x' sI→sI.length=k→aU K k e R v (xs.set i.toNat x') [(b,.cells (fb cs (i.toNat * k) sI) e (0,0))]) (hK:K R x' (pre++(vs++post)))
  (hd:o.dst=none) (yP:aH st ab) (h:∀ bF,aU K k e R v (xs.set i.toNat x') bF→C R (G bF) ab):aM P B c o R (G [(b,.cells cs e (0,0))]) st C:=by
 have JL:fb cs (i.toNat * k+j) vs=fb cs (i.toNat * k) (pre++(vs++post)):=by
  rw [aai,aaj pre cs _ (λ a u ha=>hc a u (by rw [List.getElem?_append_left (List.getElem?_eq_some_iff.1 ha).1]; exact ha)),aai,hj,hn]
  rw [aaj post]
  intro a u ha
  have h2:=hc (j+n+a) u (by
   rw [List.getElem?_append_right (by omega),List.getElem?_append_right (by omega)]
   rw [show j+n+a - pre.length - mid.length=a by omega]
   exact ha)
  have br:=(Array.getElem?_eq_some_iff.1 h2).1
  rw [D8 vs cs (i.toNat * k+j) _ (by rw [hn]; have:=hk; simp only [List.length_append] at this; omega),if_neg (by omega)]
  rwa [show i.toNat * k+(j+n+a)=i.toNat * k+j+n+a by omega] at h2
 have hlen:(pre++(vs++post)).length=k:=by
  simp only [List.length_append] at hk ⊢
  omega
 have Oi:=hO x' _ hK hlen
 rw [← JL] at Oi
 refine Ox.K5 (s:=λ ρ=>Instr.storeAt t (ρ x) (ρ y)) (by rw [aJ]; rfl) hd (λ ρ=>by simp only [execOp,aJ]) yP (λ ρ aX=>?_)
 rw [aX x _ hx,aX y _ hy]
 simp only [Instr.storeAt,Instr.sureAddr]
 refine aq.cG (aq.pure _) ?_
 have aBG:w.cells.size=n:=by rw [← hn,← hw]; simp
 refine aK.storeVar (cs:=cs) (e:=e) ht aBG (by rw [hw]; exact h1) (by simp only [List.length_append] at hk; omega) ?_ (h _ Oi)
 rw [hw]
 exact hG.set
theorem aK.arC{b n off:Nat}{cs:Array Value}{e:TypeId}{fz:Nat × Nat}{K:Unit→aE→an→Prop}(hk:∀ zq,K () R ((b,.cells cs e zq)::H)):aK P B R ((b,.cells cs e fz)::H) (Go.freeze ⟨b,off,none⟩ n) K:=by
 intro w hw
 have hb:w.heap[b]? = some (.cells cs e fz):=hw.h _ _ (by simp)
 have fS:(Go.freeze ⟨b,off,none⟩ n).run P w = .ok () (w.freeze ⟨b,off,none⟩ n):=rfl
 have zB:(Go.freeze ⟨b,off,none⟩ n).events P w #[]=#[]:=rfl
 by_cases hn:n=0
 ·refine ⟨(),w,R,(b,.cells cs e fz)::H,by rw [fS]; simp [World.freeze,hn],by rw [zB]; simp,dU.refl hw,hk fz⟩
 ·obtain ⟨lo,hi⟩:=fz
  have F4:w.freeze ⟨b,off,none⟩ n={ w with heap:=w.heap.setIfInBounds b (.cells cs e (if lo == hi then (off,off+n) else (min lo off,max hi (off+n)))) }:=by
   simp only [World.freeze,hn,if_false]
   congr 1
   apply Array.ext_getElem?
   intro i
   rw [Array.getElem?_modify]
   by_cases rB:b=i
   ·subst rB
    rw [Array.getElem?_setIfInBounds_self_of_lt (ir hb),hb]
    simp
   ·simp [rB,Array.getElem?_setIfInBounds_ne rB]
  refine ⟨(),_,R,_,fS,by rw [zB]; simp,?_,hk (if lo == hi then (off,off+n) else (min lo off,max hi (off+n)))⟩
  rw [F4]
  exact hw.yO .here
theorem Ox.aLJ{x:Operand}{t u e:TypeId}{s:ByteArray}(aJ:o.op = .convert t u x)(hx:bg st x=some (.string s))(ht:P.underlying t=some .string)(hu:P.underlying u=some (.slice e))(he:P.underlying e=some (.int .u8))
  (hd:cp o.dst c.n) (hC:∀ v Hs,bH (CI .u8) 1 R (Hs++H) v (fI s)→∃ ab,aH (bR o.dst v st) ab∧C R (Hs++H) ab):aM P B c o R H st C :=
 Ox.mem (s:=λ ρ=>convert t u (ρ x)) (by rw [aJ]; rfl) hd (λ ρ=>by simp only [execOp,aJ]) (λ ρ aX=>by
  rw [aX x _ hx]
  unfold convert
  refine aq.cG (aq.underlying ht) (aq.cG (aq.underlying hu) ?_)
  dsimp only
  refine aq.cG (aq.underlying he) ?_
  dsimp only
  unfold Conv.stringToBytes
  refine aK.bind (aK.choose λ t'=>?_)
  generalize rz:(if (Question.appendCap s.size 0 e).forced then 0 else (Question.appendCap s.size 0 e).cut t')=cap
  have l3:s.size≤cap:=by
   rw [← rz]
   simp [Question.forced,Question.cut]
  refine aK.bind ?_
  simp only [newRow]
  refine aK.bind (aK.new λ b h1 h2=>aK.pure ?_)
  refine aK.bind ?_
  unfold markStringish
  have fin:∀ zq,∃ ab,aH (bR o.dst (.slice (some ⟨b,0,none⟩) s.size cap) st) ab∧C R ((b,.cells ((s.data.map λ b=>Value.int .u8 b.toNat)++Array.replicate (cap - s.size) (.int .u8 0)) e zq)::H) ab:=λ zq=>by
   refine hC (.slice (some ⟨b,0,none⟩) s.size cap) [(b,.cells ((s.data.map λ b=>Value.int .u8 b.toNat)++Array.replicate (cap - s.size) (.int .u8 0)) e zq)] ⟨some ⟨b,0,none⟩,cap,(fI s).map (Value.int .u8),by simp [fI],?_,by simpa [fI] using l3,λ _=>⟨b,0,rfl,λ j w hj=>⟨rfl,_,e,zq,.inr (List.mem_cons_self ..),?_⟩⟩⟩
   ·refine ⟨by simp,λ i y hy=>⟨[.int .u8 y],rfl,rfl,λ j w hj=>?_⟩⟩
    cases j with
    | zero=>cases hj; simp [hy]
    | succ j=>simp at hj
   ·have br:=(List.getElem?_eq_some_iff.1 hj).1
    simp only [List.length_map,fI,Array.length_toList] at br
    simp only [Nat.zero_add]
    rw [Array.getElem?_append_left (by simpa using br)]
    rw [List.getElem?_map] at hj
    obtain ⟨z,hz,rfl⟩:=Option.map_eq_some_iff.1 hj
    unfold fI at hz
    rw [List.getElem?_map] at hz
    obtain ⟨q,hq,rfl⟩:=Option.map_eq_some_iff.1 hz
    rw [Array.getElem?_map]
    rw [Array.getElem?_toList] at hq
    rw [hq]
    rfl
  refine aK.bind (aK.shape λ y=>?_)
  cases y with
  | none=>exact aK.pure (aK.pure (fin _))
  | some y =>
   obtain ⟨y1,y2⟩:=y
   exact aK.arC λ zq=>aK.pure (fin zq))
def fC{α:Type}(xs ys:List α):List α:=ys.take xs.length++xs.drop ys.length
theorem FC{α:Type}{xs ys:List α}{n:Nat}(h:xs.length=n):(fC xs ys).length=n:=by
 simp only [fC,List.length_append,List.length_take,List.length_drop]; omega
theorem Ox.aLi{x:Operand}{t len e n b off:Nat}(aJ:o.op = .slice t x none none none)(hx:bg st x=some (.pointer (some ⟨b,off,none⟩)))(ht:yY P t len e n)
  (hd:cp o.dst c.n) (hs:aH (bR o.dst (.slice (some ⟨b,off,none⟩) len len) st) ab) (h:C R H ab):aM P B c o R H st C :=
 Ox.iS (s:=λ ρ=>Instr.sliceAt t (ρ x) none none none) (by rw [aJ]; rfl) hd (λ ρ=>by simp only [execOp,aJ]; rfl) (λ ρ aX=>by
  rw [aX x _ hx]
  unfold Instr.sliceAt
  refine aq.bind (aq.underlying ht.1) ?_
  dsimp only
  unfold Instr.sliceBounds
  refine aq.bind (a:=(⟨b,off,none⟩:Addr)) (aq.pure _) (aq.bind (a:=((0:Nat),len,len)) (aq.bind (a:=len) (aq.pure _) (aq.bind (a:=len) (aq.pure _) (aq.bind (a:=(0:Nat)) (aq.pure _) (aq.pure _)))) (aq.bind ht.2 ?_))
  dsimp only
  rw [Nat.zero_mul,pZ]
  simp only [Nat.add_zero,ite_self,Nat.sub_zero]
  exact aq.pure _) hs h
theorem Ox.apb{x y:Operand}{t e t2 b off n T:Nat}{dx:TypeDesc}{v:Value}{xs ys:List Int}{pre post:List Value}(aJ:o.op = .call ⟨.builtin .copy,#[x,y],#[t,t2]⟩)(hx:bg st x=some (.slice (some ⟨b,off,none⟩) n n))(hy:bg st y=some v)(ht:lC P t e 1)(_:P.underlying t2=some dx)
  (hR:bH (CI .i64) 1 R H v ys) (hl:xs.length=n) (hs:dS H b (.cells ((pre++(xs.map (Value.int .i64)++post)).toArray) T (0,0)) (.cells ((pre++((fC xs ys).map (Value.int .i64)++post)).toArray) T (0,0)) H') (H6:pre.length=off)
  (hd:cp o.dst c.n) (yP:aH (bR o.dst (goInt (Nat.min ys.length n)) st) ab) (h:C R H' ab):aM P B c o R H st C:=by
 refine ⟨by rw [aJ]; rfl,hd,λ ρ aX=>?_⟩
 simp only [execOp,aJ]
 refine aq.cG (a:=⟨.builtin .copy #[t,t2] o.type (#[x,y].map λ | .const _=>true | _=>false),#[x,y].map ρ⟩) (aq.pure _) ?_
 simp only [invoke,builtin]
 have e1:(#[x,y].map ρ)=#[.slice (some ⟨b,off,none⟩) n n,v]:=by simp [aX x _ hx,aX y _ hy]
 rw [e1]
 obtain ⟨A,cap,es,rfl,hE,rz,hm⟩:=hR
 have Cn:es=ys.map (Value.int .i64):=by
  apply List.ext_getElem?
  intro j
  rw [List.getElem?_map]
  rcases Nat.lt_or_ge j ys.length with hj | hj
  ·obtain ⟨q,zO,JM,hq3⟩:=hE.at_ j _ (List.getElem?_eq_getElem hj)
   have azc:q=[.int .i64 ys[j]]:=zO
   subst azc
   have:=hq3 0 _ rfl
   rw [Nat.mul_one,Nat.add_zero] at this
   rw [this,List.getElem?_eq_getElem hj]
   rfl
  ·rw [List.getElem?_eq_none (by rw [hE.len]; omega),List.getElem?_eq_none hj]
   rfl
 subst Cn
 have JL:fb ((pre++(xs.map (Value.int .i64)++post)).toArray) off ((ys.map (Value.int .i64)).take n)=(pre++((fC xs ys).map (Value.int .i64)++post)).toArray:=by
  subst H6
  apply Array.ext_getElem?
  intro j
  rw [D8 _ _ _ _ (by simp; omega)]
  simp only [List.length_take,List.length_map,fC,List.map_append,List.map_take,List.map_drop,List.getElem?_toArray,hl]
  by_cases h1:pre.length≤j∧j < pre.length+Min.min n ys.length
  ·rw [if_pos h1,List.getElem?_append_right h1.1,List.getElem?_append_left (by simp; omega),List.getElem?_append_left (by simp; omega)]
  ·rw [if_neg h1]
   rcases Nat.lt_or_ge j pre.length with h2 | h2
   ·rw [List.getElem?_append_left h2,List.getElem?_append_left h2]
   ·rw [List.getElem?_append_right h2,List.getElem?_append_right h2]
    rcases Nat.lt_or_ge (j - pre.length) n with h3 | h3
    ·rw [List.getElem?_append_left (by simp; omega),List.getElem?_append_left (by simp; omega),List.getElem?_append_right (by simp; omega),List.getElem?_drop]
     simp only [List.length_take,List.length_map]
     congr 1
     omega
    ·rw [List.getElem?_append_right (by simp; omega),List.getElem?_append_right (by simp; omega)]
     simp only [List.length_append,List.length_take,List.length_map,List.length_drop]
     congr 1
     omega
 have fin:∀ K:Unit→aE→an→Prop,K () R H'→aK P B R H (storeCells ⟨b,off,none⟩ ((ys.map (Value.int .i64)).take n)) K:=λ K hK=>by
  refine aK.given λ cP=>aK.Li _ ((pre++(xs.map (Value.int .i64)++post)).toArray) off 0 H H' (λ u hu=>?_) (by subst H6; simp; omega) (by rw [Nat.add_zero,JL]; exact hs) cP hK
  obtain ⟨z,_,rfl⟩:=List.mem_map.1 (List.mem_of_mem_take hu)
  rfl
 refine aK.bind ?_
 unfold Builtin.copy_
 refine aq.cG (aq.underlying ht.1) ?_
 dsimp only
 refine aq.cG (a:=ys.length) (aq.pure _) (aq.cG ht.2 ?_)
 have last:aK P B R H (do storeCells ⟨b,off,none⟩ ((ys.map (Value.int .i64)).take n); pure (goInt (Nat.min ys.length n))) λ a R' H'=>aK P B R' H' (pure (Next.value a)) λ nx R' H'=>∃ v,(nx = .value v∨(nx = .skip∧v=undef))∧∃ ab,aH (bR o.dst v st) ab∧C R' H' ab :=
  aK.bind (fin _ (aK.pure (aK.pure ⟨_,.inl rfl,ab,yP,h⟩)))
 have aCD:(ys.map (Value.int .i64)).take n=(ys.map (Value.int .i64)).take (Nat.min ys.length n * 1):=by
  rw [Nat.mul_one]
  rcases Nat.le_total ys.length n with h1 | h1
  ·rw [show Nat.min ys.length n=ys.length from Nat.min_eq_left h1,List.take_of_length_le (by simpa using h1),List.take_of_length_le (by simp)]
  ·rw [show Nat.min ys.length n=n from Nat.min_eq_right h1]
 cases A with
 | none =>
  have tp:ys=[]:=by
   apply Classical.byContradiction
   intro hn
   obtain ⟨b',o',h1,_⟩:=hm hn
   cases h1
  subst tp
  simp only [Builtin.firstCells]
  refine aq.cG (a:=#[]) (aq.pure _) ?_
  simpa using last
 | some A =>
  have afo:aR R H A.block A.off ((ys.map (Value.int .i64)).take n)∧(ys≠[]→A=⟨A.block,A.off,none⟩):=by
   by_cases hn:ys=[]
   ·subst hn; exact ⟨λ j u hj=>by simp at hj,λ h=>absurd rfl h⟩
   ·obtain ⟨b',o',h1,h2⟩:=hm hn
    cases h1
    refine ⟨λ j u hj=>?_,λ _=>rfl⟩
    rw [List.getElem?_take] at hj
    split at hj
    ·exact h2 j u hj
    ·cases hj
  simp only [Builtin.firstCells,loadCells]
  by_cases hn:ys=[]
  ·subst hn
   simp only [List.length_nil,Nat.zero_mul,show Nat.min 0 n=0 from Nat.zero_min n]
   refine aq.cG (a:=#[]) (aq.pure _) ?_
   simpa using last
  ·rw [afo.2 hn]
   have vb:((ys.map (Value.int .i64)).take n).length=Nat.min ys.length n * 1:=by rw [aCD]; simp [Nat.min_le_left]
   refine aK.bind ?_
   rw [← vb]
   refine aK.loadCellsFrom _ 0 #[] (by simpa using afo.1) ?_
   simpa using last
end
end Go.Lg
namespace Go.Lg
open Go.Conc
section
variable {P:Program} {B:Base} {main:Bool} {ag:Jd P B main} {c:Ctx} {R:aE} {H:an} {st:St} {k:List Item}
theorem aK.getLoop{l:Nat}{r:Loop}{K:Loop→aE→an→Prop}(h:(l,Obj.loop r)∈H)(hk:K r R H):aK P B R H (Instr.getLoop l) K:=by
 unfold Instr.getLoop
 exact aK.bind (aK.getObj rfl (.inr h) (aK.pure hk))
theorem dS.at_{b:Nat}{o o':Obj}{T:an}:∀ {Hs:an},dS (Hs++(b,o)::T) b o o' (Hs++(b,o')::T)
 | []=>.here
 | _::_=>.there dS.at_
def IJ(ag:Jd P B main)(v:Value)(args:Array Value)(R:aE)(H:an)(ck:Value→aE→an→Prop):Prop :=
 ∃ l r,v = .func (.yield l) #[] #[]∧(l,Obj.loop r)∈H∧r.params.size=args.size ∧
  ∀ fr cs,(∀ w R' H',ck w R' H'→ag.J R' H' (bA (fr.finish w) cs)) →
   ag.J R H (bA (Frame.round l r.fn ((r.params.zip args).foldl (λ tmps (t,a)=>tmps.setIfInBounds t a) r.tmps) r.assign r.body .normal) (fr::cs))
theorem IJ.mono{v:Value}{args:Array Value}{ck IE:Value→aE→an→Prop}(h:IJ ag v args R H ck)(hp:∀ w R' H',ck w R' H'→IE w R' H'):IJ ag v args R H IE:=by
 obtain ⟨l,r,h1,h2,h3,h4⟩:=h
 exact ⟨l,r,h1,h2,h3,λ fr cs hk=>h4 fr cs λ w R' H' hw=>hk w R' H' (hp _ _ _ hw)⟩
theorem aox{fr:Frame}{cs:List Frame}{s:Sem Next}{w w':World}{l:Nat}{f:FuncId}{tmps:Array Value}{assign body:Code}(hk:fr.kind ≠ .early)(hr:s.run P w = .ok (.round l f tmps assign body) w') :
  stepG.apply P true fr cs none s w = .go (bA (Frame.round l f tmps assign body .normal) (fr::cs)) w' (seen P fr.fn (s.events P w #[])):=by
 have eR:(fr.kind == CallKind.early)=false:=by simpa using hk
 simp [stepG.apply,hr,bA,eR,GStep.after]
theorem At.aaE{ops:Array Oper}{i:Nat}{rest:List Nat}{o:Oper}{ca:Call}{x:Operand}{v:Value}{vs:List Value}(ho:ops[i]? = some o)(hw:dz ops st o=some true)(hk:(c.kind == CallKind.early)=false)
  (aJ:o.op = .call ca) (hc:ca.callee = .value x) (hx:bg st x=some v) (ha:sB st ca.args.toList=some vs) (mn:cp o.dst c.n)
  (h:IJ ag v vs.toArray R H λ w R' H'=>∃ ab,aH (bR o.dst w st) ab∧At ag c R' H' ab (.inRegion ops rest::k)) :
  At ag c R H st (.inRegion ops (i::rest)::k):=by
 intro tmps ht
 obtain ⟨l,r,rfl,hl,rF,hj⟩:=h
 have jm:=ht.knows c (.inRegion ops (i::rest)::k)
 have hd:ns o.op=false:=by rw [aJ]; rfl
 have hs:aK P B R H (execOp (bq c tmps (.inRegion ops (i::rest)::k)).eval o) λ nx R' H'=>nx = .round l r.fn ((r.params.zip vs.toArray).foldl (λ tmps (t,a)=>tmps.setIfInBounds t a) r.tmps) r.assign r.body∧R'=R∧H'=H:=by
  simp only [execOp,aJ,resolve,hc,jm x _ hx,Deferred.ofValue]
  have e:ca.args.map (bq c tmps (.inRegion ops (i::rest)::k)).eval=vs.toArray:=by apply Array.ext'; simpa using IP jm _ _ ha
  refine aq.cG (a:=⟨.fn (.yield l) #[],#[]++vs.toArray⟩) (by rw [e]; exact aq.pure _) ?_
  simp only [invoke,Instr.yield]
  refine aK.bind (aK.getLoop hl ?_)
  simp only [Array.empty_append,rF,ne_eq,not_true_eq_false,if_false]
  exact aK.pure ⟨rfl,rfl,rfl⟩
 refine ag.step rfl λ w oh=>?_
 obtain ⟨nx,w',R',H',h1,h2,h3,rfl,rfl,rfl⟩:=hs w oh
 refine ⟨_,w',seen P c.fn ((execOp (bq c tmps (.inRegion ops (i::rest)::k)).eval o).events P w #[]),R',H',?_,λ e he=>h2 e (mem_seen he),h3,hj (bq c tmps (.inRegion ops (i::rest)::k)) c.cs λ u bY cD hp=>?_⟩
 ·rw [xX ho (nE ht hw) hd]
  exact aox (by simpa [bq] using hk) h1
 ·obtain ⟨ab,H7,Jl⟩:=hp
  rw [uY ho]
  exact Jl _ ((ht.put u mn).sub H7)
structure jb (ag:Jd P B main) (R:aE) {α S:Type} (A:lE α) (v:Value) (y:α→S→Option (S × Bool)) (Inv:S→aE→an→Prop):Prop where
 fn:∃ l,v = .func (.yield l) #[] #[]
 mono:∀ {s:S} {R1 R2:aE} {Hy:an},aN R R1→aN R1 R2→Inv s R1 Hy→Inv s R2 Hy
 call:∀ (Hf:an) {R':aE} {Hy:an} {s:S} {x:α} {va:Value} {z:S × Bool},aN R R'→Inv s R' Hy→A R' x va→y x s=some z →
  IJ ag v #[va] R' (Hf++Hy) λ w bY cD=>aN R' bY∧w = .bool z.2∧∃ IC,Inv z.1 bY IC∧cD=Hf++IC
theorem jb.up{R':aE}{α S:Type}{A:lE α}{v:Value}{y:α→S→Option (S × Bool)}{Inv:S→aE→an→Prop}(h:jb ag R A v y Inv)(hR:aN R R'):jb ag R' A v y Inv :=
 ⟨h.fn,λ h1 h2=>h.mono (hR.trans h1) h2,λ Hf=>λ h1=>h.call Hf (hR.trans h1)⟩
theorem jb.cells{α S:Type}{A:lE α}{v:Value}{y:α→S→Option (S × Bool)}{Inv:S→aE→an→Prop}(h:jb ag R A v y Inv):v.cells=#[v]:=by
 obtain ⟨l,rfl⟩:=h.fn; rfl
def dq{α S O:Type}(body:α→S→Option (S ⊕ O))(x:α):S ⊕ O→Option ((S ⊕ O) × Bool)
 | .inl s=>(body x s).map λ z=>(z,z.isLeft)
 | .inr _=>none
def Shape(I:aE→an→an→Prop):Prop:=∀ R T H,I R T H→∃ Hs,H=Hs++T∧∀ R' T',aN R R'→I R' T' (Hs++T')
theorem aK7{l:Nat}{jump:Option Code}{r:Loop}{Hs T:an}:aK P B R (Hs++(l,.loop r)::T) (Instr.endRound l jump) λ v R' H'=>v = .bool jump.isNone∧R'=R∧H'=Hs++(l,.loop { r with state:=if jump.isNone then .ready else .done,pending:=jump })::T:=by
 unfold Instr.endRound
 exact aK.bind (aK.getLoop (by simp) (aK.bind (aK.setObj rfl rfl dS.at_ (aK.pure ⟨rfl,rfl,rfl⟩))))
theorem aK6{l:Nat}{r:Loop}{Hs T:an}(hb:(r.state == .busy)=false):aK P B R (Hs++(l,.loop r)::T) (Instr.endLoop l) λ v R' H'=>v=r.pending∧R'=R∧H'=Hs++(l,.loop { r with state:=.exhausted })::T:=by
 unfold Instr.endLoop
 refine aK.bind (aK.getLoop (r:=r) (by simp) ?_)
 simp only [hb]
 exact aK.bind (aK.setObj rfl rfl dS.at_ (aK.pure ⟨rfl,rfl,rfl⟩))
theorem aK5{l:Nat}{r:Loop}{H':an}(hs:dS H l (.loop r) (.loop { r with state:=.busy }) H')(hr:r.state = .ready):aK P B R H (do Instr.beginRound l; pure Next.skip) λ v bY cD=>v = .skip∧bY=R∧cD=H':=by
 unfold Instr.beginRound
 refine aK.bind (aK.bind (aK.getLoop hs.mem (aK.bind (aK.setObj rfl rfl hs ?_))))
 simp only [hr]
 exact aK.pure (aK.pure ⟨rfl,rfl,rfl⟩)
theorem At.beginRound{l:Nat}{r:Loop}{H':an}(qj:c.ro=some l)(hk:(c.kind == CallKind.early)=false)(hs:dS H l (.loop r) (.loop { r with state:=.busy }) H')(hr:r.state = .ready)(h:At ag c R H' st k):At ag c R H st (.beginRound::k):=λ tmps ht=>by
 refine ag.step rfl λ w hw=>?_
 obtain ⟨v,w',R',cD,h1,h2,h3,rfl,rfl,rfl⟩:=aK5 (P:=P) hs hr w hw
 refine ⟨bA (bq c tmps k) c.cs,w',seen P c.fn ((do Instr.beginRound l; pure Next.skip:Sem Next).events P w #[]),R',cD,?_,λ e he=>h2 e (mem_seen he),h3,h tmps ht⟩
 have e:=Ty (P:=P) (fr:=bq c tmps (.beginRound::k)) (cs:=c.cs) (by simpa [bq] using hk) h1
 simpa [stepG,stepG.exec,bA,bq,qj,Frame.finish] using e
def Leaves(todo:List Item)(jump:Option Code):Prop :=
 (todo=[]∧jump=none)∨(∃ k',todo = .code .ret::k'∧jump=some .ret)∨(∃ id k',todo = .code (.exit id)::k'∧exitTo id k'=none∧jump=some (.exit id))
theorem agx{l f:Nat}{n:Nat}{cs:List Frame}{fr:Frame}{tmps:Array Value}{todo:List Item}{jump:Option Code}{r:Loop}{Hs T:an}(hl:Leaves todo jump)
  (h:ag.J R (Hs++(l,.loop { r with state:=if jump.isNone then .ready else .done,pending:=jump })::T) (bA (fr.finish (.bool jump.isNone)) cs)) :
  ag.J R (Hs++(l,.loop r)::T) (bA (bq ⟨f,.normal,some l,n,[],fr::cs⟩ tmps todo) (fr::cs)):=by
 refine ag.step rfl λ w hw=>?_
 obtain ⟨v,w',R',H',h1,h2,h3,rfl,rfl,rfl⟩:=aK7 (P:=P) (jump:=jump) w hw
 refine ⟨bA (fr.finish (.bool jump.isNone)) cs,w',seen P f ((Instr.endRound l jump).events P w #[]),R',_,?_,λ e he=>h2 e (mem_seen he),h3,h⟩
 rcases hl with ⟨rfl,rfl⟩ | ⟨k',rfl,rfl⟩ | ⟨id,k',rfl,eR,rfl⟩
 ·simp at h1; simp [stepG,stepG.exec,bq,h1,doReturn,GStep.after,bA]
 ·simp at h1; simp [stepG,stepG.exec,bq,h1,doReturn,GStep.after,bA]
 ·simp at h1; simp [stepG,stepG.exec,bq,h1,eR,doReturn,GStep.after,bA]
def qC(fn:FuncId)(tmps:Array Value)(t:Tmp)(assign body:Code)(d:Nat):Loop:={ state:=.ready,pending:=none,fn,tmps,params:=#[t],assign,body,defers:=d }
theorem aag{p:Nat × Obj}{Hf Hs D:an}:List.Perm (Hs++p::(Hf++D)) (Hf++(Hs++p::D)):=by
 have h1:List.Perm (Hs++p::(Hf++D)) (p::(Hs++(Hf++D))):=List.perm_middle
 have h2:List.Perm (Hf++(Hs++p::D)) (p::(Hf++(Hs++D))):=by
  rw [← List.append_assoc,← List.append_assoc]
  exact List.perm_middle
 refine h1.trans (List.Perm.trans (List.Perm.cons _ ?_) h2.symm)
 rw [← List.append_assoc,← List.append_assoc]
 exact List.perm_append_comm.append_right D
section
variable {α S O:Type} {A:lE α} {body:α→S→Option (S ⊕ O)} {t:Tmp} {assign fi:Code}
 (I:S→aE→an→an→Prop) (E:O→aE→an→an→Prop) (jc:O→Code)
def Tf(R:aE)(l:Nat)(r:Loop)(D:an):S ⊕ O→aE→an→Prop
 | .inl s,R',Hy=>aN R R'∧I s R' ((l,.loop r)::D) Hy
 | .inr o,R',Hy=>aN R R'∧E o R' ((l,.loop { r with state:=.done,pending:=some (jc o) })::D) Hy
def Te(ag:Jd P B main)(c:Ctx)(R:aE)(H:an)(st:St)(A:lE α)(body:α→S→Option (S ⊕ O))(t:Tmp)(assign fi:Code):Prop :=
 ∀ (va:Value) (x:α) (s:S) (z:S ⊕ O) (R':aE) (T H':an) (l:Nat) (ld:Loop) (cs:List Frame),aN R R'→List.Sublist H T→A R' x va→I s R' ((l,.loop ld)::T) H'→ld.state = .ready→body x s=some z →
  (∀ s' bY cD iz,z = .inl s'→aN R' bY→I s' bY ((l,.loop { ld with state:=.busy })::T) cD→At ag ⟨c.fn,.normal,some l,c.n,[],cs⟩ bY cD iz []) →
  (∀ o bY cD iz ot,z = .inr o→aN R' bY→E o bY ((l,.loop { ld with state:=.busy })::T) cD→Leaves (.code (jc o)::ot) (some (jc o))→At ag ⟨c.fn,.normal,some l,c.n,[],cs⟩ bY cD iz (.code (jc o)::ot)) →
  At ag ⟨c.fn,.normal,some l,c.n,[],cs⟩ R' H' ((t,va)::st) [.code assign,.beginRound,.code fi]
variable {I E jc}
theorem afn{D:an}{l:Nat}{d:Nat}{tmps:Array Value}(mg:∀ s,Shape (I s))(ru:∀ o,Shape (E o))(ht:fU c.n st tmps)(hd:Nat.blt t c.n=true)(hH:List.Sublist H D)
  (hb:Te I E jc ag c R H st A body t assign fi) :
  jb ag R A (.func (.yield l) #[] #[]) (dq body) (Tf I E jc R l (qC c.fn tmps t assign fi d) D) where
 fn:=⟨l,rfl⟩
 mono:=by
  intro s R1 R2 Hy h1 h2 hI
  cases s with
  | inl s =>
   obtain ⟨hr,hI⟩:=hI
   obtain ⟨Hs,rfl,h⟩:=mg s _ _ _ hI
   exact ⟨hr.trans h2,h _ _ h2⟩
  | inr o =>
   obtain ⟨hr,hI⟩:=hI
   obtain ⟨Hs,rfl,h⟩:=ru o _ _ _ hI
   exact ⟨hr.trans h2,h _ _ h2⟩
 call:=by
  intro Hf R' Hy s x va z hR hI hA hy
  cases s with
  | inr o=>cases hy
  | inl s =>
   simp only [dq,Option.map_eq_some_iff] at hy
   obtain ⟨z',hz,rfl⟩:=hy
   obtain ⟨hr,hI⟩:=hI
   obtain ⟨Hs,rfl,pI⟩:=mg s _ _ _ hI
   refine ⟨l,qC c.fn tmps t assign fi d,rfl,by simp,rfl,λ fr cs hk=>?_⟩
   refine J.perm (H':=Hs++(l,.loop (qC c.fn tmps t assign fi d))::(Hf++D)) aag ?_
   have WJ:fU c.n ((t,va)::st) (((qC c.fn tmps t assign fi d).params.zip #[va]).foldl (λ tmps (t,a)=>tmps.setIfInBounds t a) (qC c.fn tmps t assign fi d).tmps):=by
    have:=ht.put (dst:=some t) va hd
    simpa [qC,bR,fq] using this
   refine hb va x s z' R' (Hf++D) _ l (qC c.fn tmps t assign fi d) (fr::cs) hR (hH.trans (List.sublist_append_right _ _)) hA (pI R' _ (aN.refl _)) rfl hz (λ s' bY cD iz Zd B7 arP=>?_) (λ o bY cD iz ot Zd B7 arO hl=>?_) _ WJ
   ·subst Zd
    obtain ⟨bF,rfl,sY⟩:=mg s' _ _ _ arP
    intro lU _
    refine agx (jump:=none) (.inl ⟨rfl,rfl⟩) ?_
    refine J.perm aag.symm ?_
    exact hk _ _ _ ⟨B7,rfl,_,⟨hR.trans B7,sY bY _ (aN.refl _)⟩,rfl⟩
   ·subst Zd
    obtain ⟨bF,rfl,sY⟩:=ru o _ _ _ arO
    intro lU _
    refine agx (jump:=some (jc o)) hl ?_
    refine J.perm aag.symm ?_
    exact hk _ _ _ ⟨B7,rfl,_,⟨hR.trans B7,sY bY _ (aN.refl _)⟩,rfl⟩
theorem aK9{fn:FuncId}{tmps:Array Value}{ps:Array Tmp}{assign fi:Code}:aK P B R H (Instr.enterLoop fn tmps ps assign fi none) λ q R' H'=>R'=R∧∃ r,q.2=[⟨.collected r,#[]⟩]∧H'=(q.1,.loop ⟨.ready,none,fn,tmps,ps,assign,fi,r⟩)::(r,.deferred (some []))::H:=by
 unfold Instr.enterLoop
 refine aK.bind (aK.new λ r _ _=>aK.bind (aK.pure ?_))
 refine aK.bind (aK.new λ l _ _=>aK.pure ?_)
 exact ⟨rfl,r,rfl,rfl⟩
theorem aK8{fn:FuncId}{tmps:Array Value}{ps:Array Tmp}{assign fi:Code}{l0:Nat}{r0:Loop}(h0:(l0,Obj.loop r0)∈H):aK P B R H (Instr.enterLoop fn tmps ps assign fi (some l0)) λ q R' H'=>R'=R∧q.2=[]∧H'=(q.1,.loop ⟨.ready,none,fn,tmps,ps,assign,fi,r0.defers⟩)::H:=by
 unfold Instr.enterLoop
 refine aK.bind (aK.getLoop h0 (aK.bind (aK.pure ?_)))
 refine aK.bind (aK.new λ l _ _=>aK.pure ?_)
 exact ⟨rfl,rfl,rfl⟩
theorem At.aeq{x:Operand}{eI:FuncId}{first cap:Array Value}(hx:bg st x=some (.func (.func eI) first cap))(he:aV P eI)(hk:(c.kind == CallKind.early)=false){K:Nat × List Deferred→aE→an→Prop}
  (auf:∀ tmps,aK P B R H (Instr.enterLoop c.fn tmps #[t] assign fi c.ro) λ q R' H'=>R'=R∧∃ d Hm,H'=(q.1,.loop (qC c.fn tmps t assign fi d))::Hm∧K q R Hm)
  (h:∀ l mark d Hm tmps,fU c.n st tmps→K (l,mark) R Hm→ag.J R ((l,.loop (qC c.fn tmps t assign fi d))::Hm) (bA (Frame.enter P eI (first++#[.func (.yield l) #[] #[]]++cap) .normal) (bq ⟨c.fn,c.kind,c.ro,c.n,mark++c.defers,c.cs⟩ tmps (.inRangeFunc l::k)::c.cs))) :
  At ag c R H st (.code (.rangeFunc x #[t] assign fi)::k):=by
 intro tmps ht
 refine ag.step rfl λ w hw=>?_
 obtain ⟨⟨l,mark⟩,w',R',H',h1,h2,h3,rfl,d,Hm,rfl,hK⟩:=auf tmps w hw
 have jm:=ht.knows ⟨c.fn,c.kind,c.ro,c.n,mark++c.defers,c.cs⟩ (.inRangeFunc l::k)
 have hv:aq P (do let d ← resolve (bq ⟨c.fn,c.kind,c.ro,c.n,mark++c.defers,c.cs⟩ tmps (.inRangeFunc l::k)).eval { callee:=.value x,args:=#[.const (.func (.yield l) #[] #[])],argTypes:=#[] } 0; invoke d.target d.args) (.enter eI (first++#[.func (.yield l) #[] #[]]++cap)):=by
  obtain ⟨fn,e1,e2,e3⟩:=he.ex
  simp only [resolve,jm x _ hx,Deferred.ofValue]
  refine aq.bind (a:=⟨.fn (.func eI) cap,first++#[.func (.yield l) #[] #[]]⟩) (by simpa [Frame.eval] using aq.pure _) ?_
  simp only [invoke]
  exact aaR e1 e2 e3
 have hj:=h l mark d Hm tmps ht hK
 refine ⟨_,w',seen P c.fn ((Instr.enterLoop c.fn tmps #[t] assign fi c.ro).events P w #[]),R',_,?_,λ e Jq=>h2 e (mem_seen Jq),h3,hj⟩
 have HG:=hv w'
 simp only [bq] at HG
 have eR:(c.kind == CallKind.early)=false:=hk
 simp [stepG,stepG.exec,stepG.apply,bA,bq,h1,HG.1,HG.2,GStep.after,eR,seen]
theorem At.N2{l:Nat}{r:Loop}{Hs T:an}{ahp:Option Code}(hb:(r.state == .busy)=false)(hp:r.pending=ahp)(h:At ag c R (Hs++T) st ((ahp.map Item.code).toList++k)):At ag c R (Hs++(l,.loop r)::T) st (.endRangeFunc l::k):=λ tmps ht=>by
 subst hp
 refine ag.step rfl λ w hw=>?_
 obtain ⟨v,w',R',H',h1,h2,h3,rfl,rfl,rfl⟩:=aK6 (P:=P) hb w hw
 refine ⟨bA (bq c tmps ((r.pending.map Item.code).toList++k)) c.cs,w',seen P c.fn ((Instr.endLoop l).events P w #[]),R',_,?_,λ e he=>h2 e (mem_seen he),h3,J.drop ?_ (h tmps ht)⟩
 ·simp [stepG,stepG.exec,bA,bq,h1,GStep.after]
 ·exact (List.sublist_cons_self _ _).append_left _
theorem aeX{tmps:Array Value}{l:Nat}{w:Value}:(bq c tmps (.inRangeFunc l::k)).finish w=bq c tmps (.endRangeFunc l::k):=rfl
theorem At.ahx{ρ:Type}{kE:(α→(S ⊕ O)→Option ((S ⊕ O) × Bool))→(S ⊕ O)→Option (S ⊕ O)}{cont:S ⊕ O→Option ρ}{s0:S}{rr:ρ}{x:Operand}{eI:FuncId}{first cap:Array Value}{H1:an}
  (hM:(kE (dq body) (.inl s0)).bind cont=some rr) (hx:bg st x=some (.func (.func eI) first cap)) (he:aV P eI) (hk:(c.kind == CallKind.early)=false) (qj:c.ro=none) (hd:Nat.blt t c.n=true)
  (I:S→aE→an→an→Prop) (E:O→aE→an→an→Prop) (jc:O→Code) (mg:∀ s,Shape (I s)) (ru:∀ o,Shape (E o))
  (xh:∀ v Inv Hy z,jb ag R A v (dq body) Inv→Inv (.inl s0) R Hy→kE (dq body) (.inl s0)=some z→ax ag eI (first++#[v]++cap) R Hy λ _ R' H'=>aN R R'∧Inv z R' H')
  (h0:I s0 R H H1)
  (ha:∀ r s R' H',aN R R'→I s R' ((r,.deferred (some []))::H) H'→cont (.inl s)=some rr→At ag ⟨c.fn,c.kind,none,c.n,⟨.collected r,#[]⟩::c.defers,c.cs⟩ R' H' st k)
  (hz:∀ r o R' H',aN R R'→E o R' ((r,.deferred (some []))::H) H'→cont (.inr o)=some rr→At ag ⟨c.fn,c.kind,none,c.n,⟨.collected r,#[]⟩::c.defers,c.cs⟩ R' H' st (.code (jc o)::k))
  (hb:Te I E jc ag c R H st A body t assign fi) :
  At ag c R H1 st (.code (.rangeFunc x #[t] assign fi)::k):=by
 obtain ⟨z,hm,hc⟩:=af hM
 refine At.aeq hx he hk (K:=λ q R' Hm=>∃ r,q.2=[⟨.collected r,#[]⟩]∧Hm=(r,.deferred (some []))::H1) (λ tmps=>?_) ?_
 ·rw [qj]
  exact aK9.mono λ q R' H' ⟨h1,r,h2,h3⟩=>⟨h1,r,_,h3,r,h2,rfl⟩
 rintro l mark d Hm tmps ht ⟨r,Cr,rfl⟩
 have Cr:mark=[⟨.collected r,#[]⟩]:=Cr
 subst Cr
 obtain ⟨Hs,rfl,pI⟩:=mg s0 _ _ _ h0
 have VS:jb ag R A (.func (.yield l) #[] #[]) (dq body) (Tf I E jc R l (qC c.fn tmps t assign fi d) ((r,.deferred (some []))::H)):=afn mg ru ht hd (List.sublist_cons_self _ _) hb
 refine J.perm (H':=Hs++(l,.loop (qC c.fn tmps t assign fi d))::(r,.deferred (some []))::H) ?_ ?_
 ·exact List.perm_middle.trans (List.Perm.cons _ List.perm_middle)
 refine xh _ _ _ z VS ⟨aN.refl R,pI R _ (aN.refl R)⟩ hm _ _ λ v R' H' hv=>?_
 rw [aeX]
 obtain ⟨hR,hI⟩:=hv
 cases z with
 | inl s =>
  obtain ⟨_,hI⟩:=hI
  obtain ⟨bF,rfl,sY⟩:=mg s _ _ _ hI
  rw [qj]
  exact At.N2 (c:=⟨c.fn,c.kind,none,c.n,⟨.collected r,#[]⟩::c.defers,c.cs⟩) rfl rfl (ha r s R' _ hR (sY R' _ (aN.refl R')) hc) tmps ht
 | inr o =>
  obtain ⟨_,hI⟩:=hI
  obtain ⟨bF,rfl,sY⟩:=ru o _ _ _ hI
  rw [qj]
  exact At.N2 (c:=⟨c.fn,c.kind,none,c.n,⟨.collected r,#[]⟩::c.defers,c.cs⟩) rfl rfl (hz r o R' _ hR (sY R' _ (aN.refl R')) hc) tmps ht
theorem At.aKH{ρ:Type}{kE:(α→(S ⊕ O)→Option ((S ⊕ O) × Bool))→(S ⊕ O)→Option (S ⊕ O)}{cont:S ⊕ O→Option ρ}{s0:S}{rr:ρ}{x:Operand}{eI:FuncId}{first cap:Array Value}{H1:an}{l0:Nat}{r0:Loop}
  (hM:(kE (dq body) (.inl s0)).bind cont=some rr) (hx:bg st x=some (.func (.func eI) first cap)) (he:aV P eI) (hk:(c.kind == CallKind.early)=false) (qj:c.ro=some l0) (Wd:(l0,Obj.loop r0)∈H1) (hd:Nat.blt t c.n=true)
  (I:S→aE→an→an→Prop) (E:O→aE→an→an→Prop) (jc:O→Code) (mg:∀ s,Shape (I s)) (ru:∀ o,Shape (E o))
  (xh:∀ v Inv Hy z,jb ag R A v (dq body) Inv→Inv (.inl s0) R Hy→kE (dq body) (.inl s0)=some z→ax ag eI (first++#[v]++cap) R Hy λ _ R' H'=>aN R R'∧Inv z R' H')
  (h0:I s0 R H H1)
  (ha:∀ s R' H',aN R R'→I s R' H H'→cont (.inl s)=some rr→At ag c R' H' st k)
  (hz:∀ o R' H',aN R R'→E o R' H H'→cont (.inr o)=some rr→At ag c R' H' st (.code (jc o)::k))
  (hb:Te I E jc ag c R H st A body t assign fi) :
  At ag c R H1 st (.code (.rangeFunc x #[t] assign fi)::k):=by
 obtain ⟨z,hm,hc⟩:=af hM
 refine At.aeq hx he hk (K:=λ q R' Hm=>q.2=[]∧Hm=H1) (λ tmps=>?_) ?_
 ·rw [qj]
  exact (aK8 Wd).mono λ q R' H' ⟨h1,h2,h3⟩=>⟨h1,_,_,h3,h2,rfl⟩
 rintro l mark d Hm tmps ht ⟨Cr,rfl⟩
 have Cr:mark=[]:=Cr
 subst Cr
 obtain ⟨Hs,rfl,pI⟩:=mg s0 _ _ _ h0
 have VS:jb ag R A (.func (.yield l) #[] #[]) (dq body) (Tf I E jc R l (qC c.fn tmps t assign fi d) H):=afn mg ru ht hd (List.Sublist.refl _) hb
 refine J.perm (H':=Hs++(l,.loop (qC c.fn tmps t assign fi d))::H) List.perm_middle ?_
 refine xh _ _ _ z VS ⟨aN.refl R,pI R _ (aN.refl R)⟩ hm _ _ λ v R' H' hv=>?_
 rw [aeX]
 obtain ⟨hR,hI⟩:=hv
 cases z with
 | inl s =>
  obtain ⟨_,hI⟩:=hI
  obtain ⟨bF,rfl,sY⟩:=mg s _ _ _ hI
  exact At.N2 (c:=c) rfl rfl (ha s R' _ hR (sY R' _ (aN.refl R')) hc) tmps ht
 | inr o =>
  obtain ⟨_,hI⟩:=hI
  obtain ⟨bF,rfl,sY⟩:=ru o _ _ _ hI
  exact At.N2 (c:=c) rfl rfl (hz o R' _ hR (sY R' _ (aN.refl R')) hc) tmps ht
theorem At.Le{ρ:Type}{body:α→S→Option (S ⊕ Empty)}(kE:(α→(S ⊕ Empty)→Option ((S ⊕ Empty) × Bool))→(S ⊕ Empty)→Option (S ⊕ Empty)){f:S→Option ρ}{g:Empty→Option ρ}{s0:S}{rr:ρ}{x:Operand}{eI:FuncId}{first cap:Array Value}{H1:an}
  (hM:(kE (dq body) (.inl s0)).bind (Sum.elim f g)=some rr) (hx:bg st x=some (.func (.func eI) first cap)) (he:aV P eI) (hk:(c.kind == CallKind.early)=false) (qj:c.ro=none) (hd:Nat.blt t c.n=true)
  (I:S→aE→an→an→Prop) (mg:∀ s,Shape (I s))
  (xh:∀ v Inv Hy z,jb ag R A v (dq body) Inv→Inv (.inl s0) R Hy→kE (dq body) (.inl s0)=some z→ax ag eI (first++#[v]++cap) R Hy λ _ R' H'=>aN R R'∧Inv z R' H')
  (h0:I s0 R H H1)
  (ha:∀ r s R' H',aN R R'→I s R' ((r,.deferred (some []))::H) H'→f s=some rr→At ag ⟨c.fn,c.kind,none,c.n,⟨.collected r,#[]⟩::c.defers,c.cs⟩ R' H' st k)
  (hb:∀ (va:Value) (x:α) (s:S) (R':aE) (T H':an) (l:Nat) (ld:Loop) (cs:List Frame),aN R R'→List.Sublist H T→A R' x va→I s R' ((l,.loop ld)::T) H'→ld.state = .ready→∀ z,body x s=some z →
   (∀ s',z = .inl s'→∀ bY cD iz,aN R' bY→I s' bY ((l,.loop { ld with state:=.busy })::T) cD→At ag ⟨c.fn,.normal,some l,c.n,[],cs⟩ bY cD iz []) →
   At ag ⟨c.fn,.normal,some l,c.n,[],cs⟩ R' H' ((t,va)::st) [.code assign,.beginRound,.code fi]) :
  At ag c R H1 st (.code (.rangeFunc x #[t] assign fi)::k) :=
 At.ahx (kE:=kE) hM hx he hk qj hd I (λ o=>o.elim) (λ o=>o.elim) mg (λ o=>o.elim) xh h0 ha (λ _ o=>o.elim)
  (λ va x s z R' T H' l ld cs h1 h2 h3 h4 h5 h6 h7 _=>hb va x s R' T H' l ld cs h1 h2 h3 h4 h5 z h6 λ s' hz bY cD iz=>h7 s' bY cD iz hz)
theorem At.aal{ρ:Type}(kE:(α→(S ⊕ O)→Option ((S ⊕ O) × Bool))→(S ⊕ O)→Option (S ⊕ O)){f:S→Option ρ}{g:O→Option ρ}{s0:S}{rr:ρ}{x:Operand}{eI:FuncId}{first cap:Array Value}{H1:an}(jc:Code)
  (hM:(kE (dq body) (.inl s0)).bind (Sum.elim f g)=some rr) (hx:bg st x=some (.func (.func eI) first cap)) (he:aV P eI) (hk:(c.kind == CallKind.early)=false) (qj:c.ro=none) (hd:Nat.blt t c.n=true)
  (I:S→aE→an→an→Prop) (E:O→aE→an→an→Prop) (mg:∀ s,Shape (I s)) (ru:∀ s,Shape (E s))
  (xh:∀ v Inv Hy z,jb ag R A v (dq body) Inv→Inv (.inl s0) R Hy→kE (dq body) (.inl s0)=some z→ax ag eI (first++#[v]++cap) R Hy λ _ R' H'=>aN R R'∧Inv z R' H')
  (h0:I s0 R H H1)
  (ha:∀ r s R' H',aN R R'→I s R' ((r,.deferred (some []))::H) H'→f s=some rr→At ag ⟨c.fn,c.kind,none,c.n,⟨.collected r,#[]⟩::c.defers,c.cs⟩ R' H' st k)
  (hz:∀ r o R' H',aN R R'→E o R' ((r,.deferred (some []))::H) H'→g o=some rr→At ag ⟨c.fn,c.kind,none,c.n,⟨.collected r,#[]⟩::c.defers,c.cs⟩ R' H' st (.code jc::k))
  (hb:∀ (va:Value) (x:α) (s:S) (R':aE) (T H':an) (l:Nat) (ld:Loop) (cs:List Frame),aN R R'→List.Sublist H T→A R' x va→I s R' ((l,.loop ld)::T) H'→ld.state = .ready→∀ z,body x s=some z →
   (∀ s',z = .inl s'→∀ bY cD iz,aN R' bY→I s' bY ((l,.loop { ld with state:=.busy })::T) cD→At ag ⟨c.fn,.normal,some l,c.n,[],cs⟩ bY cD iz []) →
   (∀ o,z = .inr o→∀ bY cD iz ot,aN R' bY→E o bY ((l,.loop { ld with state:=.busy })::T) cD→Leaves (.code jc::ot) (some jc)→At ag ⟨c.fn,.normal,some l,c.n,[],cs⟩ bY cD iz (.code jc::ot)) →
   At ag ⟨c.fn,.normal,some l,c.n,[],cs⟩ R' H' ((t,va)::st) [.code assign,.beginRound,.code fi]) :
  At ag c R H1 st (.code (.rangeFunc x #[t] assign fi)::k) :=
 At.ahx (kE:=kE) hM hx he hk qj hd I E (λ _=>jc) mg ru xh h0 ha hz
  (λ va x s z R' T H' l ld cs h1 h2 h3 h4 h5 h6 h7 h8=>hb va x s R' T H' l ld cs h1 h2 h3 h4 h5 z h6 (λ s' hz bY cD iz=>h7 s' bY cD iz hz) (λ o hz bY cD iz ot=>h8 o bY cD iz ot hz))
theorem At.aKI{ρ:Type}(kE:(α→(S ⊕ O)→Option ((S ⊕ O) × Bool))→(S ⊕ O)→Option (S ⊕ O)){f:S→Option ρ}{g:O→Option ρ}{s0:S}{rr:ρ}{x:Operand}{eI:FuncId}{first cap:Array Value}{H1:an}{l0:Nat}{r0:Loop}(jc:Code)
  (hM:(kE (dq body) (.inl s0)).bind (Sum.elim f g)=some rr) (hx:bg st x=some (.func (.func eI) first cap)) (he:aV P eI) (hk:(c.kind == CallKind.early)=false) (qj:c.ro=some l0) (Wd:(l0,Obj.loop r0)∈H1) (hd:Nat.blt t c.n=true)
  (I:S→aE→an→an→Prop) (E:O→aE→an→an→Prop) (mg:∀ s,Shape (I s)) (ru:∀ s,Shape (E s))
  (xh:∀ v Inv Hy z,jb ag R A v (dq body) Inv→Inv (.inl s0) R Hy→kE (dq body) (.inl s0)=some z→ax ag eI (first++#[v]++cap) R Hy λ _ R' H'=>aN R R'∧Inv z R' H')
  (h0:I s0 R H H1)
  (ha:∀ s R' H',aN R R'→I s R' H H'→f s=some rr→At ag c R' H' st k)
  (hz:∀ o R' H',aN R R'→E o R' H H'→g o=some rr→At ag c R' H' st (.code jc::k))
  (hb:∀ (va:Value) (x:α) (s:S) (R':aE) (T H':an) (l:Nat) (ld:Loop) (cs:List Frame),aN R R'→List.Sublist H T→A R' x va→I s R' ((l,.loop ld)::T) H'→ld.state = .ready→∀ z,body x s=some z →
   (∀ s',z = .inl s'→∀ bY cD iz,aN R' bY→I s' bY ((l,.loop { ld with state:=.busy })::T) cD→At ag ⟨c.fn,.normal,some l,c.n,[],cs⟩ bY cD iz []) →
   (∀ o,z = .inr o→∀ bY cD iz ot,aN R' bY→E o bY ((l,.loop { ld with state:=.busy })::T) cD→Leaves (.code jc::ot) (some jc)→At ag ⟨c.fn,.normal,some l,c.n,[],cs⟩ bY cD iz (.code jc::ot)) →
   At ag ⟨c.fn,.normal,some l,c.n,[],cs⟩ R' H' ((t,va)::st) [.code assign,.beginRound,.code fi]) :
  At ag c R H1 st (.code (.rangeFunc x #[t] assign fi)::k) :=
 At.aKH (kE:=kE) hM hx he hk qj Wd hd I E (λ _=>jc) mg ru xh h0 ha hz
  (λ va x s z R' T H' l ld cs h1 h2 h3 h4 h5 h6 h7 h8=>hb va x s R' T H' l ld cs h1 h2 h3 h4 h5 z h6 (λ s' hz bY cD iz=>h7 s' bY cD iz hz) (λ o hz bY cD iz ot=>h8 o bY cD iz ot hz))
theorem aLb{r:Nat}{H':an}(hs:dS H r (.deferred (some [])) (.deferred none) H'):aK P B R H (Instr.takeDeferred r) λ v bY cD=>v=[]∧bY=R∧cD=H':=by
 unfold Instr.takeDeferred
 exact aK.bind (aK.getObj rfl (.inr hs.mem) (aK.bind (aK.setObj rfl rfl hs (aK.pure ⟨rfl,rfl,rfl⟩))))
theorem aKW{fr:Frame}{cs:List Frame}{f:FuncId}{n r:Nat}{H':an}{tmps:Array Value}{todo:List Item}(hs:dS H r (.deferred (some [])) (.deferred none) H')
  (h:ag.J R H' (bA { (bq ⟨f,.normal,none,n,[],fr::cs⟩ tmps todo) with mode:=.returning } (fr::cs))) :
  ag.J R H (bA { (bq ⟨f,.normal,none,n,[⟨.collected r,#[]⟩],fr::cs⟩ tmps todo) with mode:=.returning } (fr::cs)):=by
 refine ag.step rfl λ w hw=>?_
 obtain ⟨v,w',R',H',h1,h2,h3,rfl,rfl,rfl⟩:=aLb (P:=P) hs w hw
 refine ⟨_,w',seen P f ((Instr.takeDeferred r).events P w #[]),R',_,?_,λ e he=>h2 e (mem_seen he),h3,h⟩
 simp [stepG,unwind,bA,bq,h1,GStep.after]
theorem aKV{fr:Frame}{cs:List Frame}{f:FuncId}{n:Nat}{fn:Func}{vs:List Value}{tmps:Array Value}{todo:List Item}(hf:P.funcs[f]? = some fn)(ht:fU n st tmps)(hr:nV P R H st fn.results.toList vs)(hj:ag.J R H (bA (fr.finish (rQ vs)) cs)) :
  ag.J R H (bA { (bq ⟨f,.normal,none,n,[],fr::cs⟩ tmps todo) with mode:=.returning } (fr::cs)):=by
 refine ag.step rfl λ w hw=>?_
 obtain ⟨v,w',R',H',h1,h2,h3,rfl,rfl,rfl⟩:=P5 (P:=P) ht hr w hw
 refine ⟨bA (fr.finish (rQ vs)) cs,w',seen P f ((results fn tmps).events P w #[]),R',H',?_,λ e he=>h2 e (mem_seen he),h3,hj⟩
 simp [stepG,unwind,doReturn,bA,bq,hf,h1,GStep.after]
theorem At.tM{fr:Frame}{cs:List Frame}{f:FuncId}{n r:Nat}{H':an}{fn:Func}{vs:List Value}(hs:dS H r (.deferred (some [])) (.deferred none) H')(hf:P.funcs[f]? = some fn)(hr:nV P R H' st fn.results.toList vs)(hj:ag.J R H' (bA (fr.finish (rQ vs)) cs)) :
  At ag ⟨f,.normal,none,n,[⟨.collected r,#[]⟩],fr::cs⟩ R H st (.code .ret::k):=λ tmps ht=>by
 refine Jd.ctl (g':=bA { (bq ⟨f,.normal,none,n,[⟨.collected r,#[]⟩],fr::cs⟩ tmps (.code .ret::k)) with mode:=.returning } (fr::cs)) rfl (λ w=>by simp [stepG,stepG.exec,bA,bq]) ?_
 exact aKW hs (aKV hf ht hr hj)
end
theorem ax.hole{f:FuncId}{args:Array Value}{G:an→an}{Hs:an}(hG:gF G){Q:Value→aE→an→Prop}(h:ax ag f args R (Hs++G []) λ v R' H'=>∃ bF,Q v R' bF∧H'=bF++G []) :
  ax ag f args R (G Hs) λ v R' H'=>∃ bF,Q v R' bF∧H'=G bF:=by
 obtain ⟨A,D,hG⟩:=hG
 have key:∀ X:an,List.Perm (X++G []) (G X):=λ X=>by
  rw [hG,hG,List.nil_append,← List.append_assoc,← List.append_assoc]
  exact List.perm_append_comm.append_right D
 intro fr cs hk
 refine J.perm (key Hs) (h fr cs λ v R' H' hv=>?_)
 obtain ⟨bF,hq,rfl⟩:=hv
 exact J.perm (key bF).symm (hk v R' _ ⟨bF,hq,rfl⟩)
theorem Ox.FH{x y:Operand}{t u e:TypeId}{o:Oper}{C:aE→an→St→Prop}{A:Option Addr}{n cap:Nat}{b:Bool}{ab:St}(aJ:o.op = .binOp .eql t x y u)(hx:bg st x=some (.slice A n cap))(hy:bg st y=some (.slice none 0 0))(ht:P.underlying t=some (.slice e))(hb:A.isNone=b)
  (hd:cp o.dst c.n) (hs:aH (bR o.dst (.bool b) st) ab) (h:C R H ab):aM P B c o R H st C :=
 Ox.iS (s:=λ ρ=>do eqGuard .eql t x y (ρ x) (ρ y); binOp .eql t (ρ x) (ρ y)) (by rw [aJ]; rfl) hd (λ ρ=>by simp only [execOp,aJ]) (λ ρ aX=>by
  rw [aX x _ hx,aX y _ hy]
  refine aq.bind (a:=()) (aq.pure _) ?_
  simp only [binOp]
  refine aq.bind (a:=b) ?_ (aq.pure _)
  unfold Op.equal Op.maxDepth Op.equalIn
  refine aq.bind (aq.underlying ht) ?_
  cases A with
  | none=>subst hb; exact aq.pure _
  | some a=>subst hb; exact aq.pure _) hs h
theorem bH.Z1{α:Type}{K:b9 α}{k:Nat}{v:Value}{xs:List α}(h:bH K k R H v xs):(∃ cap,v = .slice none 0 cap∧xs=[])∨∃ a n cap,v = .slice (some a) n cap:=by
 obtain ⟨A,cap,es,rfl,h2,h3,h4⟩:=h
 cases A with
 | some a=>exact .inr ⟨a,_,cap,rfl⟩
 | none =>
  cases xs with
  | nil=>exact .inl ⟨cap,rfl,rfl⟩
  | cons x xs =>
   obtain ⟨b,o,g,_⟩:=h4 (by simp)
   cases g
theorem Ox.O7{x y:Operand}{t e len:Nat}{cs:Array Value}{v:Value}{kd:IntKind}{i:Int}{o:Oper}{C:aE→an→St→Prop}{ab:St}(aJ:o.op = .index t x y)(hx:bg st x=some (.agg cs))(hy:bg st y=some (.int kd i))(ht:yY P t len e 1)(he:aq P (isAgg e) false)(hi:0≤i∧i < len)(hv:cs[i.toNat * 1]? = some v)
  (hd:cp o.dst c.n) (hs:aH (bR o.dst v st) ab) (h:C R H ab):aM P B c o R H st C :=
 Ox.iS (s:=λ ρ=>Instr.index t (ρ x) (ρ y)) (by rw [aJ]; rfl) hd (λ ρ=>by simp only [execOp,aJ]) (λ ρ aX=>by
  rw [aX x _ hx,aX y _ hy]
  unfold Instr.index
  refine aq.bind (a:=(kd,i)) (aq.pure _) (aq.bind (aq.underlying ht.1) ?_)
  simp only [hi,and_self,if_true]
  refine aq.bind ht.2 ?_
  unfold part
  refine aq.bind he ?_
  simp only [hv]
  exact aq.pure _) hs h
theorem At.o1{todo:List Item}{b:Nat}{cs:Array Value}{e:TypeId}{fz:Nat × Nat}(G:an→an)(hG:gF G){H2:an}(h2:G []=H2)(h:∀ R',aN R R'→aR R' [] b 0 cs.toList→At ag c R' H2 st todo):At ag c R (G [(b,.cells cs e fz)]) st todo:=by
 obtain ⟨A,D,hG⟩:=hG
 refine At.perm (H':=(b,.cells cs e fz)::(A++D)) ?_ (At.freeze λ R' hR hb=>?_)
 ·rw [hG]; exact List.perm_middle.symm
 ·have e2:A++D=H2:=by rw [← h2,hG]; rfl
  rw [e2]
  exact h R' hR (aR.known (n:=cs.toList.length) hb (by rw [List.drop_zero,List.take_length]))
def IF(ag:Jd P B main)(R:aE){α S:Type}(A:lE α)(v:Value)(q:(α→S→Option (S × Bool))→S→Option S):Prop :=
 ∃ eI first cap,v = .func (.func eI) first cap∧aV P eI∧∀ R',aN R R'→∀ (w:Value) (y:α→S→Option (S × Bool)) (Inv:S→aE→an→Prop) (Hy:an) (s z:S),jb ag R' A w y Inv→Inv s R' Hy→q y s=some z →
  ax ag eI (first++#[w]++cap) R' Hy λ _ bY H'=>aN R' bY∧Inv z bY H'
theorem IF.mono{R':aE}{α S:Type}{A:lE α}{v:Value}{q:(α→S→Option (S × Bool))→S→Option S}(h:IF ag R A v q)(hR:aN R R'):IF ag R' A v q:=by
 obtain ⟨eI,first,cap,h1,h2,h3⟩:=h
 exact ⟨eI,first,cap,h1,h2,λ bY sK=>h3 bY (hR.trans sK)⟩
theorem jb.frame{α S:Type}{A:lE α}{v:Value}{y:α→S→Option (S × Bool)}{Inv:S→aE→an→Prop}(h:jb ag R A v y Inv)(Hf:an):jb ag R A v y λ s R' H'=>∃ Hy,Inv s R' Hy∧H'=Hf++Hy where
 fn:=h.fn
 mono:=λ h1 h2 ⟨Hy,hi,e⟩=>⟨Hy,h.mono h1 h2 hi,e⟩
 call:=by
  intro H2 R' Hy s x va z hR hI hA hy
  obtain ⟨Hy,hI,rfl⟩:=hI
  have:=h.call (H2++Hf) hR hI hA hy
  rw [List.append_assoc] at this
  refine this.mono λ w bY cD ⟨h1,h2,IC,h3,h4⟩=>⟨h1,h2,Hf++IC,⟨IC,h3,rfl⟩,by rw [h4,List.append_assoc]⟩
section
variable {S:Nat→an} {ops:Array Oper} {n:Nat} {rem:List Nat} {H2:an}
theorem adq{Q:Array Value→aE→an→Prop}{R':aE}{H':an}(hg:∀ w,Fits B R H w→dU B R H w R' H' w)(hR:aN R R')(hS:∀ j,∀ p∈S j,p∈H→p∈H')(hQ:∀ t,Q t R' H'→Q t R H) :
  ∀ (n:Nat) (rem:List Nat) (t:Array Value),zg ag c S ops Q n rem t R' H'→zg ag c S ops Q n rem t R H
 | 0,rem,t,h=>⟨h.1,hQ t h.2⟩
 | n+1,rem,t,h=>by
  rcases h with ⟨h1,h2⟩ | ⟨h1,h2⟩
  ·exact .inl ⟨h1,hQ t h2⟩
  ·refine .inr ⟨h1,λ ⟨w,hw⟩ i hi hr=>?_⟩
   obtain ⟨o,ho,hd,h⟩:=h2 ⟨w,(hg w hw).fits⟩ i hi hr
   refine ⟨o,ho,hd,?_⟩
   rcases h with ⟨a,b⟩ | ⟨a,b | ⟨f,args,b,b'⟩⟩
   ·exact .inl ⟨a,adq hg hR hS hQ n _ _ b⟩
   ·exact .inr ⟨a,.inl ((aK.ghost hg b).mono λ nx bY cD ⟨v,x,y,z,hk⟩=>⟨v,x,hR.trans y,λ p hp Wz=>z p hp (hS i p hp Wz),hk⟩)⟩
   ·exact .inr ⟨a,.inr ⟨f,args,b,(ax.ghost hg b').mono λ v bY cD ⟨y,z,hk⟩=>⟨hR.trans y,λ p hp Wz=>z p hp (hS i p hp Wz),hk⟩⟩⟩
theorem Any.ghost{R':aE}{H':an}(hg:∀ w,Fits B R H w→dU B R H w R' H' w)(hR:aN R R')(hS:∀ j,∀ p∈S j,p∈H→p∈H')(h:Any ag c S ops k n rem R' H' st):Any ag c S ops k n rem R H st :=
 ⟨h.1,λ tmps ht=>adq hg hR hS (λ _ hq=>ag.ghost hg hq) n rem tmps (h.2 tmps ht)⟩
theorem Any.given(cP:rem.Nodup)(hn:rem.length≤n)(h:(∃ w,Fits B R H w)→Any ag c S ops k n rem R H st):Any ag c S ops k n rem R H st:=by
 by_cases hw:∃ w,Fits B R H w
 ·exact h hw
 ·refine ⟨cP,λ tmps ht=>?_⟩
  cases n with
  | zero =>
   have:rem=[]:=List.length_eq_zero_iff.1 (by omega)
   exact ⟨this,J.given ag rfl λ h=>absurd h hw⟩
  | succ n =>
   cases rem with
   | nil=>exact .inl ⟨rfl,J.given ag rfl λ h=>absurd h hw⟩
   | cons i rem=>exact .inr ⟨by simp,λ h=>absurd h hw⟩
theorem Any.freeze{b:Nat}{o:Obj}{A D:an}(cP:rem.Nodup)(hn:rem.length≤n)(hS:∀ j,∀ p∈S j,p∈A++D)(h:∀ R',aN R R'→R' b=some o→Any ag c S ops k n rem R' (A++D) st):Any ag c S ops k n rem R (A++(b,o)::D) st:=by
 refine Any.given cP hn λ ⟨w,hw⟩=>?_
 have hb:R b=none:=hw.dj b o (by simp)
 refine Any.ghost (R':=R.ins b o) (H':=A++D) (λ w hw=>?_) (aE.O9 hb) (λ j p hp _=>hS j p hp) (h _ (aE.O9 hb) (aE.agm R b o))
 exact (Ll List.perm_middle.symm hw).trans (ah0 (Ll List.perm_middle.symm hw).fits)
theorem Any.eQ{α:Type}{K:b9 α}[CM K]{kk e:Nat}(G:an→an)(hG:gF G){v:Value}{xs:List α}{Hs:an}(h2:G []=H2)(hO:aU K kk e R v xs Hs)(cP:rem.Nodup)(hn:rem.length≤n)(hS:∀ j,∀ p∈S j,p∈H2)(h:∀ R',aN R R'→au K kk R' v xs→Any ag c S ops k n rem R' H2 st):Any ag c S ops k n rem R (G Hs) st:=by
 subst h2
 rcases hO with ⟨A,rfl,rfl,rfl⟩ | ⟨b,cap,cs,es,rfl,rfl,h3,h4,h5,h6⟩
 ·exact h R (aN.refl R) .nil
 ·obtain ⟨A,D,o3⟩:=hG
  rw [o3] at h hS ⊢
  refine Any.freeze cP hn (λ j p hp=>hS j p hp) (λ R' hR hb=>h R' hR ?_)
  exact ⟨_,cap,es,rfl,h5.mono hR,h4,λ _=>⟨b,0,cs,e,(0,0),rfl,hb,λ j w hj=>by simpa using h6 j w hj⟩⟩
theorem Any.sJ{α:Type}{K:b9 α}[CM K]{kk e b m:Nat}(G:an→an)(hG:gF G)(h2:G []=H2){ys:List α}{cs:Array Value}(hE:aF K kk R ys cs.toList)(hm:ys.length=m)(cP:rem.Nodup)(hn:rem.length≤n)(hS:∀ j,∀ p∈S j,p∈H2)(h:∀ R',aN R R'→au K kk R' (.slice (some ⟨b,0,none⟩) m m) ys→Any ag c S ops k n rem R' H2 st):Any ag c S ops k n rem R (G [(b,.cells cs e (0,0))]) st:=by
 subst hm h2
 obtain ⟨A,D,o3⟩:=hG
 rw [o3] at h hS ⊢
 refine Any.freeze cP hn (λ j p hp=>hS j p hp) (λ R' hR hb=>h R' hR ?_)
 exact ⟨_,ys.length,cs.toList,rfl,hE.mono hR,Nat.le_refl _,λ _=>⟨b,0,cs,e,(0,0),rfl,hb,λ j w hj=>by simpa using hj⟩⟩
end
theorem Ox.nilCheck{x:Operand}{a:Addr}{o:Oper}{C:aE→an→St→Prop}{ab:St}(aJ:o.op = .nilCheck x)(hx:bg st x=some (.pointer (some a)))(hd:cp o.dst c.n)
  (hs:aH (bR o.dst (.pointer (some a)) st) ab) (h:C R H ab):aM P B c o R H st C :=
 Ox.val (by rw [aJ]; rfl) hd (λ ρ aX=>by simp only [execOp,aJ,aX x _ hx]; exact aq.pure _) hs h
def many(a:an):List (Nat × an)→Nat→an
 | [],_=>a
 | (q,l)::r,j=>if j=q then l else many a r j
section
variable {a N:an} {ex:List (Nat × an)} {rem D:List Nat} {i q:Nat} {l H':an}
theorem aZ(ha:∀ p∈N,p∈a):∀ j∈rem,j≠i→j ∉ D→∀ p∈N,p∈many a [] j:=λ _ _ _ _ p hp=>ha p hp
theorem aO(hd:(D.contains q || q == i || !rem.contains q)=true)(h:∀ j∈rem,j≠i→j ∉ D→∀ p∈N,p∈many a ex j):∀ j∈rem,j≠i→j ∉ D→∀ p∈N,p∈many a ((q,l)::ex) j:=by
 intro j hj dA qi p hp
 unfold many
 split
 ·subst_vars
  simp only [Bool.or_eq_true,Bool.not_eq_true',List.contains_iff_mem,beq_iff_eq] at hd
  rcases hd with (x | x) | x
  ·exact absurd x qi
  ·exact absurd x dA
  ·have:rem.contains j=true:=List.contains_iff_mem.2 hj
   rw [this] at x; cases x
 ·exact h j hj dA qi p hp
theorem K3(hl:∀ p∈N,p∈l)(h:∀ j∈rem,j≠i→j ∉ D→∀ p∈N,p∈many a ex j):∀ j∈rem,j≠i→j ∉ D→∀ p∈N,p∈many a ((q,l)::ex) j:=by
 intro j hj dA qi p hp
 unfold many
 split
 ·exact hl p hp
 ·exact h j hj dA qi p hp
theorem bG(he:many a ex i=l)(h:∀ p∈l,p∈H'):∀ p∈many a ex i,p∈H→p∈H':=by
 rw [he]; exact λ p hp _=>h p hp
theorem aJB(ha:∀ p∈a,p∈H'):∀ j,∀ p∈many a [] j,p∈H':=λ _ p hp=>ha p hp
theorem aJC(hl:∀ p∈l,p∈H')(h:∀ j,∀ p∈many a ex j,p∈H'):∀ j,∀ p∈many a ((q,l)::ex) j,p∈H':=by
 intro j p hp
 unfold many at hp
 split at hp
 ·exact hl p hp
 ·exact h j p hp
end
end
end Go.Lg
namespace Go.Lg
open Go.Conc
abbrev gB:=List (List Bool × Int)
def nu(k:List Bool):Value:=.agg (List.toArray ([]++(k.map Value.bool++[])))
def rh:List MapEntry→gB→Prop
 | [],m=>m=[]
 | e::es,m=>∃ k z r,m=(k,z)::r∧e.key=nu k∧e.val = .int .i64 z∧k.length=5∧rh es r
def mD:gB:=[([],0)]
def mT(m:gB)(k:List Bool):Int:=(m.lookup k).getD 0
theorem rh.push{e:MapEntry}{k:List Bool}{z:Int}(h1:e.key=nu k)(h2:e.val = .int .i64 z)(h3:k.length=5):∀ {es:List MapEntry} {m:gB},rh es m→rh (es++[e]) (m++[(k,z)])
 | [],m,h=>by cases h; exact ⟨k,z,[],rfl,h1,h2,h3,rfl⟩
 | _::es,m,h=>by
  obtain ⟨k',z',r,rfl,a,b,c,d⟩:=h
  exact ⟨k',z',r++[(k,z)],rfl,a,b,c,rh.push h1 h2 h3 d⟩
def na(v:Value)(m:gB)(Hs:an):Prop:=(v = .map none∧m=mD∧Hs=[])∨∃ b es clock,v = .map (some b)∧Hs=[(b,.map es clock)]∧rh es.toList m∧(m.map (·.1)).Nodup
def nT(R:aE)(v:Value)(m:gB):Prop:=(v = .map none∧m=mD)∨∃ b es clock m',v = .map (some b)∧R b=some (.map es clock)∧rh es.toList m'∧(m'.map (·.1)).Nodup∧List.Perm m' m
theorem nT.mono{R R':aE}{v:Value}{m:gB}(h:nT R v m)(hR:aN R R'):nT R' v m:=by
 rcases h with h | ⟨b,es,cl,m',h1,h2,h3,h4,h5⟩
 ·exact .inl h
 ·exact .inr ⟨b,es,cl,m',h1,hR _ _ h2,h3,h4,h5⟩
theorem na.one{v:Value}{m:gB}{Hs:an}(h:na v m Hs):v.oneCell'=true:=by
 rcases h with ⟨rfl,_⟩ | ⟨b,es,cl,rfl,_⟩ <;> rfl
theorem na.cells{v:Value}{m:gB}{Hs:an}(h:na v m Hs):v.cells=#[v]:=by
 rcases h with ⟨rfl,_⟩ | ⟨b,es,cl,rfl,_⟩ <;> rfl
theorem na.none:na (.map none) mD []:=.inl ⟨rfl,rfl,rfl⟩
theorem aJF{k:List Bool}(hk:k.length=5):mT mD k=mT [] k:=by
 unfold mT mD
 rw [List.lookup_cons]
 cases k with
 | nil=>cases hk
 | cons a k=>rfl
theorem nT.none{R:aE}:nT R (.map none) mD:=.inl ⟨rfl,rfl⟩
theorem agB{m:gB}(hn:(m.map (·.1)).Nodup){k:List Bool}{z:Int}(h:(k,z)∈m):m.lookup k=some z:=by
 induction m with
 | nil=>cases h
 | cons p m ih =>
  obtain ⟨k',z'⟩:=p
  rw [List.map_cons,List.nodup_cons] at hn
  rw [List.lookup_cons]
  rcases List.mem_cons.1 h with h | h
  ·cases h; simp
  ·have b7:k≠k':=λ e=>hn.1 (List.mem_map.2 ⟨_,h,e⟩)
   have:(k == k')=false:=by simpa using b7
   rw [this]
   exact ih hn.2 h
theorem agC{m:gB}{k:List Bool}(h:k ∉ m.map (·.1)):m.lookup k=none:=by
 induction m with
 | nil=>rfl
 | cons p m ih =>
  obtain ⟨k',z'⟩:=p
  rw [List.map_cons,List.mem_cons,not_or] at h
  rw [List.lookup_cons]
  have:(k == k')=false:=by simpa using h.1
  rw [this]
  exact ih h.2
theorem aJG{m m':gB}(hn:(m'.map (·.1)).Nodup)(hp:List.Perm m' m)(k:List Bool):mT m' k=mT m k:=by
 have hn2:(m.map (·.1)).Nodup:=(hp.map _).nodup_iff.1 hn
 unfold mT
 by_cases hk:k∈m'.map (·.1)
 ·obtain ⟨⟨k',z⟩,h1,h2⟩:=List.mem_map.1 hk
  simp only at h2
  subst h2
  rw [agB hn h1,agB hn2 (hp.mem_iff.1 h1)]
 ·have hk2:k ∉ m.map (·.1):=λ h=>hk ((hp.map _).mem_iff.2 h)
  rw [agC hk,agC hk2]
structure Fi (P:Program) (t kt et:TypeId):Prop where
 ty:P.underlying t=some (.map kt et)
 key:∃ d,P.underlying kt=some d∧∀ a b,Instr.sameNow d a b=none
 eq:∀ a b:List Bool,a.length=5→b.length=5→aq P (Op.equal kt (nu a) (nu b)) (a == b)
 cY:∀ (e:Bool) (a:List Bool),a.length=5→aq P (Instr.checkKey e 10000 kt (nu a)) ()
 zero:aq P (zeroValue et) (.int .i64 0)
section
variable {P:Program} {B:Base} {main:Bool} {ag:Jd P B main} {c:Ctx} {R:aE} {H:an} {st ab:St} {o:Oper} {C:aE→an→St→Prop}
def wY:gB→List Bool→Nat→Option (Nat × Value)
 | [],_,_=>none
 | (k',z)::m,k,i=>if k == k' then some (i,.int .i64 z) else wY m k (i+1)
theorem ah2{t kt et:TypeId}(ht:Fi P t kt et){k:List Bool}(hk:k.length=5):∀ {es:List MapEntry} {m:gB} {i:Nat},rh es m→aq P (Instr.findAsking kt (nu k) es i) (wY m k i)
 | [],m,i,h=>by cases h; exact aq.pure _
 | e::es,m,i,h=>by
  obtain ⟨k',z,r,rfl,h1,h2,h3,h4⟩:=h
  unfold Instr.findAsking
  rw [h1]
  refine aq.bind (ht.eq k k' hk h3) ?_
  unfold wY
  cases k == k' with
  | true=>rw [h2]; exact aq.pure _
  | false=>exact ah2 ht hk h4
theorem ah4{t kt et:TypeId}(ht:Fi P t kt et){k:List Bool}(hk:k.length=5){es:List MapEntry}{m:gB}(h:rh es m):aq P (Instr.findKey kt (nu k) es) (wY m k 0):=by
 obtain ⟨d,h1,h2⟩:=ht.key
 unfold Instr.findKey
 refine aq.bind (aq.underlying h1) ?_
 cases es with
 | nil=>cases h; exact aq.pure _
 | cons e es =>
  simp only [Instr.findNow,h2]
  exact ah2 ht hk h
theorem aeV:∀ {m:gB} {k:List Bool} {i:Nat},(match wY m k i with | some (_,v)=>v | none=>.int .i64 0) = .int .i64 (mT m k)
 | [],_,_=>rfl
 | (k',z)::m,k,i=>by
  unfold wY mT
  rw [List.lookup_cons]
  cases hk:k == k' with
  | true=>rfl
  | false =>
   have:=aeV (m:=m) (k:=k) (i:=i+1)
   unfold mT at this
   exact this
theorem aeW:∀ {m:gB} {k:List Bool} {i:Nat},k ∉ m.map (·.1)→wY m k i=none
 | [],_,_,_=>rfl
 | (k',z)::m,k,i,h=>by
  rw [List.map_cons,List.mem_cons,not_or] at h
  have:(k == k')=false:=by simpa using h.1
  unfold wY
  rw [this]
  exact aeW h.2
theorem ahE{t kt et:TypeId}(ht:Fi P t kt et){k:List Bool}(hk:k.length=5){es:List MapEntry}{m:gB}(h:rh es m){K:Value→aE→an→Prop}(hK:K (.int .i64 (mT m k)) R H) :
  aK P B R H (do
   Instr.checkKey es.isEmpty 10000 kt (nu k)
   let (v,ok) ← match ← Instr.findKey kt (nu k) es with
    | some (_,v)=>pure (v,true)
    | none=>pure (← zeroValue et,false)
   pure (if false then .tuple #[v,.bool ok] else v)) K:=by
 refine aq.cG (ht.cY _ k hk) (aq.cG (ah4 ht hk h) ?_)
 have hg:=aeV (m:=m) (k:=k) (i:=0)
 cases hf:wY m k 0 with
 | some q =>
  obtain ⟨i,v⟩:=q
  rw [hf] at hg
  simp only at hg
  subst hg
  exact aK.bind (aK.pure (aK.pure hK))
 | none =>
  rw [hf] at hg
  simp only at hg
  refine aq.cG ht.zero (aK.bind (aK.pure (aK.pure ?_)))
  rw [hg]
  exact hK
theorem Ox.lookup{x y:Operand}{t kt et:TypeId}{v:Value}{m:gB}{k:List Bool}(aJ:o.op = .lookup t x y false)(hx:bg st x=some v)(hy:bg st y=some (nu k))(ht:Fi P t kt et)(hm:nT R v m)(hk:k.length=5)
  (hd:cp o.dst c.n) (hs:aH (bR o.dst (.int .i64 (mT m k)) st) ab) (h:C R H ab):aM P B c o R H st C :=
 Ox.mem (s:=λ ρ=>Instr.lookup t (ρ x) (ρ y) false) (by rw [aJ]; rfl) hd (λ ρ=>by simp only [execOp,aJ]) (λ ρ aX=>by
  rw [aX x _ hx,aX y _ hy]
  unfold Instr.lookup
  refine aq.cG (aq.underlying ht.ty) ?_
  rcases hm with ⟨rfl,rfl⟩ | ⟨b,es,cl,m',rfl,h1,h2,h3,h4⟩
  ·refine aK.bind (aK.pure ?_)
   rw [aJF hk] at hs
   exact ahE ht hk (es:=[]) rfl ⟨ab,hs,h⟩
  ·refine aK.bind (aK.getObj rfl (.inl h1) ?_)
   rw [← aJG h3 h4] at hs
   have:=ahE (B:=B) (R:=R) (H:=H) (K:=λ v R' H'=>∃ ab,aH (bR o.dst v st) ab∧C R' H' ab) ht hk h2 ⟨ab,hs,h⟩
   have e:es.isEmpty=es.toList.isEmpty:=by simp
   rw [← e] at this
   exact aK.bind (aK.pure this))
theorem Ox.makeMap{t:TypeId}(aJ:o.op = .makeMap t none)(hd:cp o.dst c.n)
  (hC:∀ v Hs,na v [] Hs→∃ ab,aH (bR o.dst v st) ab∧C R (Hs++H) ab):aM P B c o R H st C :=
 Ox.mem (s:=λ ρ=>Instr.makeMap t none) (by rw [aJ]; rfl) hd (λ ρ=>by simp only [execOp,aJ]; rfl) (λ ρ aX=>by
  unfold Instr.makeMap
  refine aK.bind (aK.new λ b _ _=>aK.pure ?_)
  exact hC (.map (some b)) [(b,.map #[] 0)] (.inr ⟨b,#[],0,rfl,rfl,rfl,by simp⟩))
theorem Ox.aJD{x y z:Operand}{t kt et:TypeId}{b:Nat}{es:Array MapEntry}{clock:Nat}{m:gB}{k:List Bool}{w:Int}{H':an}(aJ:o.op = .mapUpdate t x y z)(hx:bg st x=some (.map (some b)))(hy:bg st y=some (nu k))(hz:bg st z=some (.int .i64 w))(ht:Fi P t kt et)(hm:rh es.toList m)(hk:k.length=5)(hn:k ∉ m.map (·.1))
  (hs:dS H b (.map es clock) (.map (es.push { key:=nu k,val:=.int .i64 w,born:=clock }) (clock+1)) H') (hd:o.dst=none) (ct:aH st ab) (h:C R H' ab):aM P B c o R H st C :=
 Ox.K5 (s:=λ ρ=>Instr.mapUpdate t (ρ x) (ρ y) (ρ z)) (by rw [aJ]; rfl) hd (λ ρ=>by simp only [execOp,aJ]) ct (λ ρ aX=>by
  rw [aX x _ hx,aX y _ hy,aX z _ hz]
  unfold Instr.mapUpdate
  refine aq.cG (aq.underlying ht.ty) ?_
  refine aK.bind (aK.getObj rfl (.inr hs.mem) ?_)
  refine aq.cG (ht.cY _ k hk) (aq.cG (ah4 ht hk hm) ?_)
  rw [aeW hn]
  exact aK.setObj rfl rfl hs h)
theorem At.FI{todo:List Item}(G:an→an)(hG:gF G){H2 Hs:an}{v:Value}{m:gB}(h2:G []=H2)(hO:na v m Hs)(h:∀ R',aN R R'→nT R' v m→At ag c R' H2 st todo):At ag c R (G Hs) st todo:=by
 subst h2
 rcases hO with ⟨rfl,rfl,rfl⟩ | ⟨b,es,cl,rfl,rfl,h3,h4⟩
 ·exact h R (aN.refl R) .none
 ·obtain ⟨A,D,o3⟩:=hG
  rw [o3] at h ⊢
  refine At.perm (H':=(b,.map es cl)::(A++([]++D))) (by simpa using List.perm_middle.symm) (At.freeze λ R' hR hb=>h R' hR ?_)
  exact .inr ⟨b,es,cl,m,rfl,hb,h3,h4,List.Perm.refl _⟩
end
end Go.Lg
namespace Go.Lg
open Go.Conc
def ff(p w:Int):Value:=.agg #[.int .i64 p,.int .i64 w]
theorem LC{p w p' w':Int}(h:ff p w=ff p' w'):p=p'∧w=w':=by
 simp only [ff,Value.agg.injEq,Array.mk.injEq,List.cons.injEq,Value.int.injEq] at h
 exact ⟨h.1.2,h.2.1.2⟩
def AK(m:Int→Int→Int)(p w z:Int):Int→Int→Int:=λ a b=>if a=p∧b=w then z else m a b
structure E9 (es:List MapEntry) (m:Int→Int→Int) (clock:Nat):Prop where
 I2:∀ e∈es,∃ p w,e.key=ff p w∧e.val = .int .i64 (m p w)
 zero:∀ p w,(∀ e∈es,e.key≠ff p w)→m p w=0
 keys:∀ (i j:Nat) (a b:MapEntry),es[i]? = some a→es[j]? = some b→a.key=b.key→i=j
 old:∀ e∈es,e.born < clock
 TF:∀ (i j:Nat) (a b:MapEntry),es[i]? = some a→es[j]? = some b→a.born=b.born→i=j
def wP(v:Value)(m:Int→Int→Int)(Hs:an):Prop:=∃ b es clock,v = .map (some b)∧Hs=[(b,.map es clock)]∧E9 es.toList m clock
def M9(v:Value)(m:Int→Int→Int)(p w g:Int)(Hs:an):Prop:=∃ b es clock,v = .map (some b)∧Hs=[(b,.map es clock)]∧E9 es.toList m clock∧∃ (i:Nat) (e:MapEntry),es[i]? = some e∧e.key=ff p w∧g=(e.born:Int)
theorem M9.own{v:Value}{m:Int→Int→Int}{p w g:Int}{Hs:an}(h:M9 v m p w g Hs):wP v m Hs:=by
 obtain ⟨b,es,cl,h1,h2,h3,_⟩:=h
 exact ⟨b,es,cl,h1,h2,h3⟩
structure ID (P:Program) (t kt et:TypeId):Prop where
 ty:P.underlying t=some (.map kt et)
 key:∃ d,P.underlying kt=some d∧∀ a b,Instr.sameNow d a b=none
 eq:∀ a b c d:Int,aq P (Op.equal kt (ff a b) (ff c d)) (a == c && (b == d && true))
 cY:∀ (e:Bool) (a b:Int),aq P (Instr.checkKey e 10000 kt (ff a b)) ()
 zero:aq P (zeroValue et) (.int .i64 0)
section
variable {P:Program} {B:Base} {main:Bool} {ag:Jd P B main} {c:Ctx} {R:aE} {H:an} {st ab:St} {o:Oper} {C:aE→an→St→Prop}
def al4(es:List MapEntry)(p w:Int)(r:Option (Nat × Value)):Prop :=
 (r=none∧∀ e∈es,e.key≠ff p w)∨∃ (i:Nat) (e:MapEntry),es[i]? = some e∧e.key=ff p w∧r=some (i,e.val)
theorem ah3{t kt et:TypeId}(ht:ID P t kt et)(p w:Int):∀ (es:List MapEntry) (i:Nat),(∀ e∈es,∃ p w,e.key=ff p w)→∃ r,aq P (Instr.findAsking kt (ff p w) es i) r∧((r=none∧∀ e∈es,e.key≠ff p w)∨∃ (j:Nat) (e:MapEntry),es[j]? = some e∧e.key=ff p w∧r=some (i+j,e.val))
 | [],i,h=>⟨none,aq.pure _,.inl ⟨rfl,λ e he=>(by cases he)⟩⟩
 | e::es,i,h=>by
  obtain ⟨p',w',hk⟩:=h e (by simp)
  by_cases heq:p=p'∧w=w'
  ·obtain ⟨rfl,rfl⟩:=heq
   refine ⟨some (i,e.val),?_,.inr ⟨0,e,rfl,hk,rfl⟩⟩
   unfold Instr.findAsking
   rw [hk]
   refine aq.bind (ht.eq p w p w) ?_
   simp only [beq_self_eq_true,Bool.and_self,if_true]
   exact aq.pure _
  ·obtain ⟨r,hr,hc⟩:=ah3 ht p w es (i+1) (λ e he=>h e (by simp [he]))
   have hb:(p == p' && (w == w' && true))=false:=by
    simp only [Bool.and_true,Bool.and_eq_false_iff,beq_eq_false_iff_ne]
    by_cases hp:p=p'
    ·exact .inr λ hw=>heq ⟨hp,hw⟩
    ·exact .inl hp
   refine ⟨r,?_,?_⟩
   ·unfold Instr.findAsking
    rw [hk]
    refine aq.bind (ht.eq p w p' w') ?_
    rw [hb]
    exact hr
   ·rcases hc with ⟨rfl,hc⟩ | ⟨j,e',h1,h2,rfl⟩
    ·refine .inl ⟨rfl,λ x hx=>?_⟩
     rcases List.mem_cons.1 hx with rfl | hx
     ·intro e2
      obtain ⟨a,b⟩:=LC (hk.symm.trans e2)
      exact heq ⟨a.symm,b.symm⟩
     ·exact hc x hx
    ·exact .inr ⟨j+1,e',by simpa using h1,h2,by simp; omega⟩
theorem ah5{t kt et:TypeId}(ht:ID P t kt et)(p w:Int){es:List MapEntry}{m:Int→Int→Int}{cl:Nat}(h:E9 es m cl):∃ r,aq P (Instr.findKey kt (ff p w) es) r∧al4 es p w r:=by
 obtain ⟨d,h1,h2⟩:=ht.key
 obtain ⟨r,hr,hc⟩:=ah3 ht p w es 0 (λ e he=>let ⟨p,w,hk,_⟩:=h.I2 e he; ⟨p,w,hk⟩)
 cases es with
 | nil=>exact ⟨none,by unfold Instr.findKey; exact aq.bind (aq.underlying h1) (aq.pure _),.inl ⟨rfl,λ e he=>by cases he⟩⟩
 | cons e es =>
  refine ⟨r,?_,?_⟩
  ·unfold Instr.findKey
   refine aq.bind (aq.underlying h1) ?_
   simp only [Instr.findNow,h2]
   exact hr
  ·rcases hc with hc | ⟨j,e',h1,h2,h3⟩
   ·exact .inl hc
   ·exact .inr ⟨j,e',h1,h2,by simpa using h3⟩
theorem Ox.aJA{t:TypeId}(aJ:o.op = .makeMap t none)(hd:cp o.dst c.n)
  (hC:∀ v Hs,wP v (λ _ _=>0) Hs→∃ ab,aH (bR o.dst v st) ab∧C R (Hs++H) ab):aM P B c o R H st C :=
 Ox.mem (s:=λ ρ=>Instr.makeMap t none) (by rw [aJ]; rfl) hd (λ ρ=>by simp only [execOp,aJ]; rfl) (λ ρ aX=>by
  unfold Instr.makeMap
  refine aK.bind (aK.new λ b _ _=>aK.pure ?_)
  exact hC (.map (some b)) [(b,.map #[] 0)] ⟨b,#[],0,rfl,rfl,⟨λ e he=>(by cases he),λ _ _ _=>rfl,λ i j a b ha=>(by simp at ha),λ e he=>(by cases he),λ i j a b ha=>(by simp at ha)⟩⟩)
theorem Ox.Zt{x y:Operand}{t kt et:TypeId}{v:Value}{m:Int→Int→Int}{p w:Int}{Hs:an}(aJ:o.op = .lookup t x y false)(hx:bg st x=some v)(hy:bg st y=some (ff p w))(ht:ID P t kt et)(hm:wP v m Hs)(hH:∀ q∈Hs,q∈H)
  (hd:cp o.dst c.n) (hs:aH (bR o.dst (.int .i64 (m p w)) st) ab) (h:C R H ab):aM P B c o R H st C :=
 Ox.mem (s:=λ ρ=>Instr.lookup t (ρ x) (ρ y) false) (by rw [aJ]; rfl) hd (λ ρ=>by simp only [execOp,aJ]) (λ ρ aX=>by
  rw [aX x _ hx,aX y _ hy]
  unfold Instr.lookup
  refine aq.cG (aq.underlying ht.ty) ?_
  obtain ⟨b,es,cl,rfl,rfl,he⟩:=hm
  refine aK.bind (aK.getObj rfl (.inr (hH (b,.map es cl) (by simp))) ?_)
  refine aK.bind (aK.pure ?_)
  obtain ⟨r,hr,hf⟩:=ah5 ht p w he
  refine aq.cG (ht.cY _ p w) (aq.cG hr ?_)
  rcases hf with ⟨rfl,hn⟩ | ⟨i,e,h1,h2,rfl⟩
  ·refine aq.cG ht.zero (aK.bind (aK.pure (aK.pure ?_)))
   rw [he.zero p w hn] at hs
   exact ⟨ab,hs,h⟩
  ·obtain ⟨p',w',hk,hv⟩:=he.I2 e (List.mem_of_getElem? h1)
   obtain ⟨rfl,rfl⟩:=LC (hk.symm.trans h2)
   rw [hv]
   exact aK.bind (aK.pure (aK.pure ⟨ab,hs,h⟩)))
theorem aK4(p w:Int):Instr.sameBits 10000 (ff p w) (ff p w)=true:=by
 simp [Instr.sameBits,ff]
theorem aJK{es:Array MapEntry}{i:Nat}{e:MapEntry}{k:Value}(h:es[i]? = some e)(hk:e.key=k):es.modify i (λ e=>{ e with key:=k })=es:=by
 apply Array.ext_getElem?
 intro j
 rw [Array.getElem?_modify]
 by_cases hj:i=j
 ·subst hj; simp [h,← hk]
 ·simp [hj]
theorem E9.push{es:Array MapEntry}{m:Int→Int→Int}{cl:Nat}{p w:Int}(h:E9 es.toList m cl)(hn:∀ e∈es.toList,e.key≠ff p w) :
  E9 (es.push { key:=ff p w,val:=.int .i64 0,born:=cl }).toList m (cl+1):=by
 rw [Array.toList_push]
 refine ⟨λ e he=>?_,λ p' w' b7=>?_,λ i j a b ha hb cH=>?_,λ e he=>?_,λ i j a b ha hb cH=>?_⟩
 ·rcases List.mem_append.1 he with he | he
  ·exact h.I2 e he
  ·rcases List.mem_singleton.1 he with rfl
   exact ⟨p,w,rfl,by rw [h.zero p w hn]⟩
 ·exact h.zero p' w' λ e he=>b7 e (List.mem_append.2 (.inl he))
 ·rw [List.getElem?_append] at ha hb
  split at ha <;> split at hb
  ·exact h.keys i j a b ha hb cH
  ·rename_i h1 h2
   have:b={ key:=ff p w,val:=.int .i64 0,born:=cl }:=by
    have:=List.mem_of_getElem? hb; simpa using this
   subst this
   exact absurd cH (hn a (List.mem_of_getElem? ha))
  ·rename_i h1 h2
   have:a={ key:=ff p w,val:=.int .i64 0,born:=cl }:=by
    have:=List.mem_of_getElem? ha; simpa using this
   subst this
   exact absurd cH.symm (hn b (List.mem_of_getElem? hb))
  ·have h1:=(List.getElem?_eq_some_iff.1 ha).1
   have h2:=(List.getElem?_eq_some_iff.1 hb).1
   simp only [List.length_singleton,Array.length_toList] at *
   omega
 ·rcases List.mem_append.1 he with he | he
  ·have:=h.old e he; omega
  ·rcases List.mem_singleton.1 he with rfl
   exact Nat.lt_succ_self _
 ·rw [List.getElem?_append] at ha hb
  split at ha <;> split at hb
  ·exact h.TF i j a b ha hb cH
  ·have:b={ key:=ff p w,val:=.int .i64 0,born:=cl }:=by
    have:=List.mem_of_getElem? hb; simpa using this
   subst this
   have:=h.old a (List.mem_of_getElem? ha)
   simp only at cH
   omega
  ·have:a={ key:=ff p w,val:=.int .i64 0,born:=cl }:=by
    have:=List.mem_of_getElem? ha; simpa using this
   subst this
   have:=h.old b (List.mem_of_getElem? hb)
   simp only at cH
   omega
  ·have h1:=(List.getElem?_eq_some_iff.1 ha).1
   have h2:=(List.getElem?_eq_some_iff.1 hb).1
   simp only [List.length_singleton,Array.length_toList] at *
   omega
theorem Ox.mapEntry{x y:Operand}{t kt et:TypeId}{v:Value}{m:Int→Int→Int}{p w:Int}{Hs:an}(G:an→an)(aJ:o.op = .mapEntry t x y)(hx:bg st x=some v)(hy:bg st y=some (ff p w))(ht:ID P t kt et)(hG:gF G)(hm:wP v m Hs)
  (hd:cp o.dst c.n) (hC:∀ g bF,M9 v m p w g bF→∃ ab,aH (bR o.dst (.tuple #[.int .i64 (m p w),.int .i64 g]) st) ab∧C R (G bF) ab):aM P B c o R (G Hs) st C :=
 Ox.mem (s:=λ ρ=>Instr.mapEntry t (ρ x) (ρ y)) (by rw [aJ]; rfl) hd (λ ρ=>by simp only [execOp,aJ]) (λ ρ aX=>by
  rw [aX x _ hx,aX y _ hy]
  unfold Instr.mapEntry
  refine aq.cG (aq.underlying ht.ty) ?_
  obtain ⟨b,es,cl,rfl,rfl,he⟩:=hm
  refine aK.bind (aK.getObj rfl (.inr (hG.set (o':=.map es cl)).mem) ?_)
  obtain ⟨r,hr,hf⟩:=ah5 ht p w he
  refine aq.cG (ht.cY _ p w) (aq.cG hr ?_)
  rcases hf with ⟨rfl,hn⟩ | ⟨i,e,h1,h2,rfl⟩
  ·refine aq.cG ht.zero (aK.bind (aK.setObj rfl rfl hG.set (aK.pure ?_)))
   have:=hC (cl:Int) [(b,.map (es.push { key:=ff p w,val:=.int .i64 0,born:=cl }) (cl+1))] ⟨b,es.push { key:=ff p w,val:=.int .i64 0,born:=cl },cl+1,rfl,rfl,he.push hn,es.size,{ key:=ff p w,val:=.int .i64 0,born:=cl },by simp,rfl,rfl⟩
   rw [he.zero p w hn] at this
   exact this
  ·obtain ⟨p',w',hk,hv⟩:=he.I2 e (List.mem_of_getElem? h1)
   obtain ⟨rfl,rfl⟩:=LC (hk.symm.trans h2)
   have HN:es[i]? = some e:=by simpa using h1
   have ct:aq P (Instr.keyThatStays (((es[i]?).map (·.key)).getD (ff p' w')) (ff p' w')) (ff p' w'):=by
    rw [HN]
    simp only [Option.map_some,Option.getD_some,hk,Instr.keyThatStays,aK4,if_true]
    exact aq.pure _
   refine aq.cG ct (aK.bind (aK.setObj rfl rfl hG.set (aK.pure ?_)))
   rw [aJK HN hk,HN,hv]
   exact hC (e.born:Int) _ ⟨b,es,cl,rfl,rfl,he,i,e,HN,hk,rfl⟩)
theorem gl{α:Type}{a:Array α}{j:Nat}{x:α}(h:a.toList[j]? = some x):a[j]? = some x:=by rwa [Array.getElem?_toList] at h
theorem aq.asInt{k:IntKind}{z:Int}:aq P (asInt (.int k z)) z:=aq.pure _
theorem Ox.entryStore{x y z:Operand}{t:TypeId}{v:Value}{m:Int→Int→Int}{p w g n:Int}{Hs:an}(G:an→an)(aJ:o.op = .entryStore t x y z)(hx:bg st x=some v)(hy:bg st y=some (.int .i64 g))(hz:bg st z=some (.int .i64 n))(hG:gF G)(hm:M9 v m p w g Hs)
  (hd:o.dst=none) (ct:aH st ab) (hC:∀ bF,wP v (AK m p w n) bF→C R (G bF) ab):aM P B c o R (G Hs) st C :=
 Ox.K5 (s:=λ ρ=>Instr.entryStore t (ρ x) (ρ y) (ρ z)) (by rw [aJ]; rfl) hd (λ ρ=>by simp only [execOp,aJ]) ct (λ ρ aX=>by
  rw [aX x _ hx,aX y _ hy,aX z _ hz]
  unfold Instr.entryStore
  obtain ⟨b,es,cl,rfl,rfl,he,i,e,hi,hk,rfl⟩:=hm
  refine aK.bind (aK.getObj rfl (.inr (hG.set (o':=.map es cl)).mem) ?_)
  refine aq.cG aq.asInt ?_
  have hfi:es.findIdx? (λ e'=>(e'.born:Int) == (e.born:Int))=some i:=by
   obtain ⟨br,l3⟩:=Array.getElem?_eq_some_iff.1 hi
   rw [Array.findIdx?_eq_some_iff_getElem]
   refine ⟨br,by simp [l3],λ j hj=>?_⟩
   have zF:j < es.size:=by omega
   simp only [Bool.not_eq_true,beq_eq_false_iff_ne]
   intro hb
   have:=he.TF j i es[j] e (by simp [zF]) (by simpa using hi) (by exact_mod_cast hb)
   omega
  rw [hfi]
  refine aK.setObj rfl rfl hG.set (hC _ ⟨b,_,cl,rfl,rfl,?_⟩)
  have sU:∀ j a,(es.modify i λ e=>{ e with val:=.int .i64 n })[j]? = some a→∃ a0,es[j]? = some a0∧a.key=a0.key∧a.born=a0.born∧a.val=if i=j then .int .i64 n else a0.val:=by
   intro j a ha
   rw [Array.getElem?_modify] at ha
   by_cases hj:i=j
   ·subst hj
    rw [hi] at ha
    simp only [if_true,Option.map_some,Option.some.injEq] at ha
    subst ha
    exact ⟨e,hi,rfl,rfl,by simp⟩
   ·simp only [hj,if_false] at ha
    exact ⟨a,ha,rfl,rfl,by simp [hj]⟩
  have nO:∀ a∈(es.modify i λ e=>{ e with val:=.int .i64 n }).toList,∃ j,(es.modify i λ e=>{ e with val:=.int .i64 n })[j]? = some a:=λ a ha=>by
   obtain ⟨j,hj⟩:=List.mem_iff_getElem?.1 ha
   exact ⟨j,gl hj⟩
  refine ⟨λ a ha=>?_,λ p' w' b7=>?_,λ j k a b' ha hb cH=>?_,λ a ha=>?_,λ j k a b' ha hb cH=>?_⟩
  ·obtain ⟨j,hj⟩:=nO a ha
   obtain ⟨a0,h1,h2,h3,h4⟩:=sU j a hj
   obtain ⟨p',w',eR,HG⟩:=he.I2 a0 (by rw [← Array.mem_def]; exact Array.mem_of_getElem? h1)
   refine ⟨p',w',h2.trans eR,?_⟩
   rw [h4]
   by_cases ew:i=j
   ·subst ew
    rw [hi] at h1; cases h1
    obtain ⟨rfl,rfl⟩:=LC (hk.symm.trans eR)
    simp [AK]
   ·rw [if_neg ew,HG]
    unfold AK
    rw [if_neg]
    rintro ⟨rfl,rfl⟩
    exact ew (he.keys i j e a0 (by simpa using hi) (by simpa using h1) (hk.trans eR.symm))
  ·unfold AK
   by_cases WB:p'=p∧w'=w
   ·obtain ⟨rfl,rfl⟩:=WB
    exfalso
    obtain ⟨br,l3⟩:=Array.getElem?_eq_some_iff.1 hi
    refine b7 { e with val:=.int .i64 n } ?_ hk
    rw [← Array.mem_def]
    exact Array.mem_of_getElem? (i:=i) (by rw [Array.getElem?_modify]; simp [hi])
   ·rw [if_neg WB]
    refine he.zero p' w' λ a ha=>?_
    obtain ⟨j,hj⟩:=List.mem_iff_getElem?.1 ha
    have xd:es[j]? = some a:=by simpa using hj
    by_cases ew:i=j
    ·subst ew
     rw [hi] at xd; cases xd
     intro e2
     obtain ⟨rfl,rfl⟩:=LC (hk.symm.trans e2)
     exact WB ⟨rfl,rfl⟩
    ·exact b7 a (by rw [← Array.mem_def]; exact Array.mem_of_getElem? (i:=j) (by rw [Array.getElem?_modify]; simp [ew,xd]))
  ·obtain ⟨a0,h1,h2,_⟩:=sU j a (gl ha)
   obtain ⟨b0,k1,k2,_⟩:=sU k b' (gl hb)
   exact he.keys j k a0 b0 (by simpa using h1) (by simpa using k1) (h2.symm.trans (cH.trans k2))
  ·obtain ⟨j,hj⟩:=nO a ha
   obtain ⟨a0,h1,h2,h3,h4⟩:=sU j a hj
   rw [h3]
   exact he.old a0 (by rw [← Array.mem_def]; exact Array.mem_of_getElem? h1)
  ·obtain ⟨a0,h1,_,h3,_⟩:=sU j a (gl ha)
   obtain ⟨b0,k1,_,k3,_⟩:=sU k b' (gl hb)
   exact he.TF j k a0 b0 (by simpa using h1) (by simpa using k1) (h3.symm.trans (cH.trans k3)))
end
end Go.Lg
namespace Go.Lg
open Go.Conc
class uH (P:Program) where
 off:Nat→Nat→Option Nat
 ok:∀ s f n,off s f=some n→gb P s f n
def P3(fo:Nat→Nat→Option Nat)(st:St)(o:Oper):Option Value :=
 match o.op with
 | .move x=>bg st x
 | .assign x=>bg st x
 | .pick x y z=>match bg st x with
  | some (.bool true)=>bg st y
  | some (.bool false)=>bg st z
  | _=>none
 | .extract x j=>match bg st x with
  | some (.tuple vs)=>vs[j]?
  | _=>none
 | .unOp .not _ x=>match bg st x with
  | some (.bool a)=>some (.bool (!a))
  | _=>none
 | .binOp bo _ x y _=>match bg st x,bg st y with
  | some (.int kd a),some (.int kd' b)=>if kd=kd' then (match TX bo a b with
   | some r=>some (.bool r)
   | none=>match TA bo a b with
    | some z=>some (.int kd (kd.wrap z))
    | none=>none) else none
  | _,_=>none
 | .fieldAddr s x f=>match bg st x,fo s f with
  | some (.pointer (some ⟨b,n,none⟩)),some off=>some (.pointer (some ⟨b,n+off,none⟩))
  | _,_=>none
 | _=>none
section
variable {P:Program} [uH P] {B:Base} {main:Bool} {ag:Jd P B main} {c:Ctx} {R:aE} {H:an} {st ab:St} {o:Oper} {C:aE→an→St→Prop} {k:List Item}
theorem ahv{v:Value}(h:P3 (uH.off P) st o=some v)(hd:cp o.dst c.n)(hs:aH (bR o.dst v st) ab)(hC:C R H ab):aM P B c o R H st C:=by
 unfold P3 at h
 split at h
 ·rename_i x aJ; exact Ox.move aJ h hd hs hC
 ·rename_i x aJ; exact Ox.assign aJ h hd hs hC
 ·rename_i x y z aJ
  split at h
  ·rename_i hx; exact Ox.aKB aJ hx h hd hs hC
  ·rename_i hx; exact Ox.aKA aJ hx h hd hs hC
  ·cases h
 ·rename_i x j aJ
  split at h
  ·rename_i hx; exact Ox.extract aJ hx h hd hs hC
  ·cases h
 ·rename_i t x aJ
  split at h
  ·rename_i hx; cases h; exact Ox.not aJ hx hd hs hC
  ·cases h
 ·rename_i bo t x y u aJ
  split at h
  ·rename_i kd a kd' b hx hy
   split at h
   ·rename_i e; subst e
    split at h
    ·rename_i r hr; cases h; exact Ox.cmp aJ hx hy hr hd hs hC
    ·split at h
     ·rename_i z hz; cases h; exact Ox.ar aJ hx hy hz hd hs hC
     ·cases h
   ·cases h
  ·cases h
 ·rename_i s x f aJ
  split at h
  ·rename_i hx hf; cases h; exact Ox.fieldAddr aJ hx (uH.ok s f _ hf) hd hs hC
  ·cases h
 ·cases h
def aaD(fo:Nat→Nat→Option Nat)(ops:Array Oper)(n:Nat)(st:St)(i:Nat):Option St :=
 match ops[i]? with
 | none=>none
 | some o=>match dz ops st o with
  | some true=>match P3 fo st o,o.dst with
   | some v,some d=>if Nat.blt d n=true then some ((d,v)::st) else none
   | _,_=>none
  | some false=>match ns o.op,o.dst with
   | false,some d=>if Nat.blt d n=true then some ((d,undef)::st) else none
   | false,none=>some st
   | _,_=>none
  | none=>none
def Aw(fo:Nat→Nat→Option Nat)(ops:Array Oper)(n:Nat):List Nat→St→Option St
 | [],st=>some st
 | i::is,st=>match aaD fo ops n st i with
  | some ab=>Aw fo ops n is ab
  | none=>none
theorem ahU{ops:Array Oper}{n i:Nat}{fo:Nat→Nat→Option Nat}(h:aaD fo ops n st i=some ab):∃ o,ops[i]? = some o ∧
  ((dz ops st o=some true∧∃ v d,P3 fo st o=some v∧o.dst=some d∧cp (some d) n∧ab=(d,v)::st) ∨
   (dz ops st o=some false∧ns o.op=false∧cp o.dst n∧ab=bR o.dst undef st)):=by
 unfold aaD at h
 split at h
 ·cases h
 ·rename_i o ho
  refine ⟨o,ho,?_⟩
  split at h
  ·rename_i hw
   split at h
   ·rename_i v d hv hd
    split at h
    ·rename_i hl; cases h; exact .inl ⟨hw,v,d,hv,hd,hl,rfl⟩
    ·cases h
   ·cases h
  ·rename_i hw
   split at h
   ·rename_i d o8 hd
    split at h
    ·rename_i hl; cases h; exact .inr ⟨hw,o8,by rw [hd]; exact hl,by rw [hd]; rfl⟩
    ·cases h
   ·rename_i o8 hd
    cases h; exact .inr ⟨hw,o8,by rw [hd]; rfl,by rw [hd]; rfl⟩
   ·cases h
  ·cases h
theorem At.run{ops:Array Oper}(hk:(c.kind == CallKind.early)=false):∀ {is rest:List Nat} {st:St},Aw (uH.off P) ops c.n is st=some ab→At ag c R H ab (.inRegion ops rest::k)→At ag c R H st (.inRegion ops (is++rest)::k)
 | [],rest,st,h,ha=>by cases h; exact ha
 | i::is,rest,st,h,ha=>by
  unfold Aw at h
  split at h
  ·rename_i AG h1
   have ih:=At.run hk h ha
   obtain ⟨o,ho,⟨hw,v,d,hv,hd,hl,rfl⟩ | ⟨hw,o8,hl,rfl⟩⟩:=ahU h1
   ·exact At.cQ ho hw hk (ahv hv (by rw [hd]; exact hl) (by rw [hd]; exact aH.refl _) ih)
   ·exact At.unwanted ho hw hl (aH.refl _) ih
  ·cases h
theorem At.vs(m:Nat){ops:Array Oper}{is Dr:List Nat}(h:Aw (uH.off P) ops c.n (is.take m) st=some ab)(hr:is.drop m=Dr)(ha:At ag c R H ab (.inRegion ops Dr::k))(hk:(c.kind == CallKind.early)=false:=by rfl):At ag c R H st (.inRegion ops is::k):=by
 subst hr
 have:=At.run (rest:=is.drop m) hk h ha
 rwa [List.take_append_drop] at this
def ad5(ops:Array Oper)(rem:List Nat)(i:Nat):Nat→List Nat→List Nat
 | 0,D=>D
 | n+1,D=>ad5 ops rem i n (rem.filter λ j=>j != i && (D.contains j || match ops[j]? with | some o=>o.after.any λ e=>Region.binds .any e && (e.on == i || D.contains e.on) | none=>false))
def NY(ops:Array Oper)(rem:List Nat)(i:Nat):List Nat:=ad5 ops rem i rem.length []
def NU(ops:Array Oper):List Nat→List Nat→Bool
 | _,[]=>true
 | rem,i::is=>decide rem.Nodup && pz ops rem i (NY ops rem i) && NU ops (rem.erase i) is
theorem Any.vs'{S:Nat→an}{ops:Array Oper}{n:Nat}:∀ (is:List Nat) {rem:List Nat} {st:St},Aw (uH.off P) ops c.n is st=some ab→NU ops rem is=true→Any ag c S ops k n (is.foldl List.erase rem) R H ab→Any ag c S ops k (n+is.length) rem R H st
 | [],rem,st,h,_,ha=>by cases h; exact ha
 | i::is,rem,st,h,hc,ha=>by
  unfold Aw at h
  split at h
  ·rename_i AG h1
   simp only [NU,Bool.and_eq_true,decide_eq_true_eq] at hc
   obtain ⟨⟨cP,iq⟩,hc⟩:=hc
   have ih:=Any.vs' is h hc ha
   obtain ⟨o,ho,⟨hw,v,d,hv,hd,hl,rfl⟩ | ⟨hw,o8,hl,rfl⟩⟩:=ahU h1
   ·exact Any.aaH (N:=[]) _ ho hd hw iq (λ _ _ _ _ p hp=>by cases hp) (λ p hp=>by cases hp) (λ R' H' _ _=>ahv hv (by rw [hd]; exact hl) (.one hd) ⟨rfl,rfl,rfl⟩) (aH.refl _) cP rfl ih
   ·exact Any.aLP _ ho iq o8 hl hw (aH.refl _) cP rfl ih
  ·cases h
theorem Any.vs{S:Nat→an}{ops:Array Oper}{n:Nat}(m:Nat)(is:List Nat){rem:List Nat}{st:St}(h:Aw (uH.off P) ops c.n is st=some ab)(ha:Any ag c S ops k n (is.foldl List.erase rem) R H ab)(hc:NU ops rem is=true:=by decide +kernel)(hm:is.length=m:=by rfl):Any ag c S ops k (n+m) rem R H st:=by
 subst hm
 exact Any.vs' is h hc ha
end
section
variable {P:Program} {B:Base} {main:Bool} {ag:Jd P B main} {c:Ctx} {R:aE} {H:an} {st ab:St} {o:Oper} {C:aE→an→St→Prop} {k:List Item}
theorem At.rg(is:List Nat){id:Nat}{ops:Array Oper}(h:At ag c R H st (.inRegion ops is::k))(hn:ops.size=is.length:=by rfl)(nq:List.range is.length=is:=by rfl):At ag c R H st (.code (.region id ops false)::k):=At.jo hn nq h
theorem At.dw(is:List Nat){id:Nat}{ops:Array Oper}(hm:P.follows .mixedOrders=true)(h:Any ag c (λ _=>H) ops k is.length is R H st)(hk:(c.kind == CallKind.early)=false:=by rfl)(hb:backward ops=true:=by decide +kernel)(hn:ops.size=is.length:=by rfl)(nq:List.range is.length=is:=by rfl):At ag c R H st (.code (.region id ops true)::k):=At.aph hm hk hb hn nq h
theorem Any.tk(i:Nat){N:an}{ops:Array Oper}{n d:Nat}{rem:List Nat}{v:Value}(ho:ops[i]? = some o)(hS:∀ p∈N,p∈H)(hf:∀ R' H',aN R R'→(∀ p∈N,p∈H')→aM P B c o R' H' st λ R1 H1 AG=>R1=R'∧H1=H'∧AG=[(d,v)])
  (h:Any ag c (λ _=>N) ops k n (rem.erase i) R H ((d,v)::st)) (o9:o.dst=some d:=by rfl) (hw:dz ops st o=some true:=by rfl) (iq:pz ops rem i (NY ops rem i)=true:=by decide +kernel) (cP:rem.Nodup:=by decide):Any ag c (λ _=>N) ops k (n+1) rem R H st :=
 Any.aaH _ ho o9 hw iq (λ _ _ _ _ _ hp=>hp) hS hf (aH.refl _) cP rfl h
theorem At.cv{ops:Array Oper}{i d:Nat}{rest:List Nat}{ca:Call}{x:Operand}{f:FuncId}{first captured:Array Value}{vs:List Value}{args:Array Value}{ck:Value→aE→an→Prop}(he:aV P f)(hf:ax ag f args R H ck)
  (h:∀ v R' H',ck v R' H'→At ag c R' H' ((d,v)::st) (.inRegion ops rest::k))
  (ho:ops[i]? = some o:=by rfl) (hw:dz ops st o=some true:=by rfl) (hk:(c.kind == CallKind.early)=false:=by rfl) (aJ:o.op = .call ca:=by rfl) (hc:ca.callee = .value x:=by rfl) (hx:bg st x=some (.func (.func f) first captured):=by rfl)
  (ha:sB st ca.args.toList=some vs:=by rfl) (H5:first++vs.toArray++captured=args:=by rfl) (hd:o.dst=some d:=by rfl) (hl:Nat.blt d c.n=true:=by rfl):At ag c R H st (.inRegion ops (i::rest)::k) :=
 At.step ho hw hk (Ox.cN aJ hc hx ha he H5 (by rw [hd]; exact hl) (hf.mono λ v R' H' hp=>⟨_,.put hd,h v R' H' hp⟩))
theorem Any.cv(i:Nat){S:Nat→an}{ops:Array Oper}{n d:Nat}{rem:List Nat}{ca:Call}{x:Operand}{f:FuncId}{first captured:Array Value}{vs:List Value}{args:Array Value}{ck:Value→aE→an→Prop}(he:aV P f)(hf:ax ag f args R H ck)
  (h:∀ v R' H',ck v R' H'→aN R R'∧(∀ p∈S i,p∈H→p∈H')∧Any ag c S ops k n (rem.erase i) R' H' ((d,v)::st))
  (ho:ops[i]? = some o:=by rfl) (hw:dz ops st o=some true:=by rfl) (aJ:o.op = .call ca:=by rfl) (hc:ca.callee = .value x:=by rfl) (hx:bg st x=some (.func (.func f) first captured):=by rfl)
  (ha:sB st ca.args.toList=some vs:=by rfl) (H5:first++vs.toArray++captured=args:=by rfl) (hd:o.dst=some d:=by rfl) (hl:Nat.blt d c.n=true:=by rfl) (k8:rem.filter (mG ops rem)=[i]:=by decide +kernel) (cP:rem.Nodup:=by decide):Any ag c S ops k (n+1) rem R H st :=
 Any.one ho k8 hw cP rfl (Ox.cN aJ hc hx ha he H5 (by rw [hd]; exact hl) (hf.mono λ v R' H' hp=>⟨_,.put hd,h v R' H' hp⟩))
theorem Any.on(i:Nat){S:Nat→an}{ops:Array Oper}{n:Nat}{rem:List Nat}(ho:ops[i]? = some o)(hw:dz ops st o=some true)
  (h:nU ag c o R H st λ R' H' ab=>aN R R'∧(∀ p∈S i,p∈H→p∈H')∧Any ag c S ops k n (rem.erase i) R' H' ab) (k8:rem.filter (mG ops rem)=[i]:=by decide +kernel) (cP:rem.Nodup:=by decide):Any ag c S ops k (n+1) rem R H st:=Any.one ho k8 hw cP rfl h
theorem At.ld{ops:Array Oper}{i d:Nat}{rest:List Nat}{x:Operand}{t:TypeId}{b off:Nat}{v:Value}(ht:gG P t)(hc:Cell R H ⟨b,off,none⟩ v)(h:At ag c R H ((d,v)::st) (.inRegion ops rest::k))
  (ho:ops[i]? = some o:=by rfl) (hw:dz ops st o=some true:=by rfl) (hk:(c.kind == CallKind.early)=false:=by rfl) (aJ:o.op = .load t x:=by rfl) (hx:bg st x=some (.pointer (some ⟨b,off,none⟩)):=by rfl) (hd:o.dst=some d:=by rfl) (hl:Nat.blt d c.n=true:=by rfl):At ag c R H st (.inRegion ops (i::rest)::k) :=
 At.cQ ho hw hk (Ox.bl aJ hx ht hc (by rw [hd]; exact hl) (.put hd) h)
theorem At.kn(t:Nat){x b:Bool}{todo:List Item}(hb:x=b)(h:At ag c R H ((t,.bool b)::st) todo)(hx:st.lookup t=some (.bool x):=by rfl):At ag c R H st todo:=At.known hx hb h
theorem At.s{ops:Array Oper}{i:Nat}{rest:List Nat}(ho:ops[i]? = some o)(hw:dz ops st o=some true)(h:aM P B c o R H st λ R' H' ab=>At ag c R' H' ab (.inRegion ops rest::k))(hk:(c.kind == CallKind.early)=false:=by rfl):At ag c R H st (.inRegion ops (i::rest)::k):=At.cQ ho hw hk h
end
abbrev aL:List Nat:=[0]
abbrev aP:List Nat:=[0,1]
abbrev aQ:List Nat:=[0,1,2]
abbrev bk:List Nat:=[0,1,2,3]
abbrev bQ:List Nat:=[0,1,2,3,4]
abbrev db:List Nat:=[0,1,2,3,4,5]
abbrev dQ:List Nat:=[0,1,2,3,4,5,6]
abbrev dK:List Nat:=[0,1,2,3,4,5,6,7]
abbrev fy:List Nat:=[0,1,2,3,4,5,6,7,8]
abbrev lg:List Nat:=[0,1,2,3,4,5,6,7,8,9]
abbrev wz:List Nat:=[0,1,2,3,4,5,6,7,8,9,10]
abbrev oN:List Nat:=[0,1,2,3,4,5,6,7,8,9,10,11]
abbrev E2:List Nat:=[0,1,2,3,4,5,6,7,8,9,10,11,12]
abbrev xS:List Nat:=[0,1,2,3,4,5,6,7,8,9,10,11,12,13]
abbrev re:List Nat:=[0,1,2,3,4,5,6,7,8,9,10,11,12,13,14]
abbrev aao:List Nat:=[0,1,2,3,4,5,6,7,8,9,10,11,12,13,14,15]
abbrev aOB:List Nat:=[0,1,2,3,4,5,6,7,8,9,10,11,12,13,14,15,16]
abbrev aap:List Nat:=[0,1,2,3,4,5,6,7,8,9,10,11,12,13,14,15,16,17]
abbrev aKX:List Nat:=[0,1,2,3,4,5,6,7,8,9,10,11,12,13,14,15,16,17,18]
abbrev aaq:List Nat:=[0,1,2,3,4,5,6,7,8,9,10,11,12,13,14,15,16,17,18,19]
abbrev aPH:List Nat:=[0,1,2,3,4,5,6,7,8,9,10,11,12,13,14,15,16,17,18,19,20]
abbrev aKY:List Nat:=[0,1,2,3,4,5,6,7,8,9,10,11,12,13,14,15,16,17,18,19,20,21,22,23,24,25]
abbrev ahA:List Nat:=[0,1,2,3,4,5,6,7,8,9,10,11,12,13,14,15,16,17,18,19,20,21,22,23,24,25,26]
abbrev aPI:List Nat:=[0,1,2,3,4,5,6,7,8,9,10,11,12,13,14,15,16,17,18,19,20,21,22,23,24,25,26,27,28]
abbrev aPJ:List Nat:=[0,1,2,3,4,5,6,7,8,9,10,11,12,13,14,15,16,17,18,19,20,21,22,23,24,25,26,27,28,29]
abbrev aca:List Nat:=[0,1,2,3,4,5,6,7,8,9,10,11,12,13,14,15,16,17,18,19,20,21,22,23,24,25,26,27,28,29,30,31,32,33]
abbrev ahB:List Nat:=[0,1,2,3,4,5,6,7,8,9,10,11,12,13,14,15,16,17,18,19,20,21,22,23,24,25,26,27,28,29,30,31,32,33,34,35,36,37]
abbrev aKZ:List Nat:=[0,1,2,3,4,5,6,7,8,9,10,11,12,13,14,15,16,17,18,19,20,21,22,23,24,25,26,27,28,29,30,31,32,33,34,35,36,37,38,39,40]
abbrev aPK:List Nat:=[0,1,2,3,4,5,6,7,8,9,10,11,12,13,14,15,16,17,18,19,20,21,22,23,24,25,26,27,28,29,30,31,32,33,34,35,36,37,38,39,40,41]
abbrev ahC:List Nat:=[0,1,2,3,4,5,6,7,8,9,10,11,12,13,14,15,16,17,18,19,20,21,22,23,24,25,26,27,28,29,30,31,32,33,34,35,36,37,38,39,40,41,42,43]
abbrev aPL:List Nat:=[0,1,2,3,4,5,6,7,8,9,10,11,12,13,14,15,16,17,18,19,20,21,22,23,24,25,26,27,28,29,30,31,32,33,34,35,36,37,38,39,40,41,42,43,44,45,46,47]
abbrev aPM:List Nat:=[0,1,2,3,4,5,6,7,8,9,10,11,12,13,14,15,16,17,18,19,20,21,22,23,24,25,26,27,28,29,30,31,32,33,34,35,36,37,38,39,40,41,42,43,44,45,46,47,48,49,50,51,52]
end Go.Lg
namespace Go.Lg
section
variable {α:Type} {a Fy IW NI TI adH ao8 aXA aXB x:α} {l l₁ Gf:List α}
theorem so(h:List.Sublist l₁ Gf):List.Sublist l₁ (a::Gf):=h.cons a
theorem sk(h:List.Sublist l₁ Gf):List.Sublist (a::l₁) (a::Gf):=List.Sublist.cons_cons a h
theorem sr:List.Sublist l l:=.refl _
theorem sn:List.Sublist [] l:=List.nil_sublist _
theorem su(h:List.Sublist l₁ Gf):∀ p∈l₁,p∈Gf:=λ _ hp=>h.subset hp
theorem pp:∀ p∈l,p∈l:=λ _ h=>h
theorem z0:x∈x::l:=.head _
theorem z1:x∈a::x::l:=.tail _ z0
theorem z2:x∈a::Fy::x::l:=.tail _ z1
theorem z3:x∈a::Fy::IW::x::l:=.tail _ z2
theorem z4:x∈a::Fy::IW::NI::x::l:=.tail _ z3
theorem z5:x∈a::Fy::IW::NI::TI::x::l:=.tail _ z4
theorem z6:x∈a::Fy::IW::NI::TI::adH::x::l:=.tail _ z5
theorem z7:x∈a::Fy::IW::NI::TI::adH::ao8::x::l:=.tail _ z6
end
section
variable {P:Program} {B:Base} {main:Bool} {ag:Jd P B main} {c:Ctx} {R:aE} {H:an} {st ab:St} {o:Oper} {k:List Item}
theorem sq{x y:Code}(h:At ag c R H st (.code x :: .code y::k)):At ag c R H st (.code (.seq x y)::k):=At.seq h
theorem er{ops:Array Oper}(h:At ag c R H st k):At ag c R H st (.inRegion ops []::k):=At.eH h
theorem es{ops:Array Oper}{x y:Code}(h:At ag c R H st (.code x :: .code y::k)):At ag c R H st (.inRegion ops [] :: .code (.seq x y)::k):=At.eH (At.seq h)
theorem sg(is:List Nat){id:Nat}{ops:Array Oper}{y:Code}(h:At ag c R H st (.inRegion ops is :: .code y::k))(hn:ops.size=is.length:=by rfl)(nq:List.range is.length=is:=by rfl):At ag c R H st (.code (.seq (.region id ops false) y)::k):=At.seq (At.rg is h hn nq)
theorem nx(is:List Nat){id:Nat}{os ops:Array Oper}{y:Code}(h:At ag c R H st (.inRegion ops is :: .code y::k))(hn:ops.size=is.length:=by rfl)(nq:List.range is.length=is:=by rfl):At ag c R H st (.inRegion os [] :: .code (.seq (.region id ops false) y)::k):=At.eH (sg is h hn nq)
theorem sp(h:At ag c R H st k):At ag c R H st (.code .skip::k):=At.skip h
theorem vs[uH P](m:Nat){ops:Array Oper}{is Dr:List Nat}(ha:At ag c R H ab (.inRegion ops Dr::k))(h:Aw (uH.off P) ops c.n (is.take m) st=some ab:=by rfl)(hr:is.drop m=Dr:=by rfl)(hk:(c.kind == CallKind.early)=false:=by rfl):At ag c R H st (.inRegion ops is::k):=At.vs m h hr ha hk
theorem ld(j:Nat){ops:Array Oper}{i d:Nat}{rest:List Nat}{x:Operand}{t e:TypeId}{b:Nat}{fz:Nat × Nat}{L:List Value}{v:Value}(ht:gG P t)(hm:(b,Obj.cells L.toArray e fz)∈H)(h:At ag c R H ((d,v)::st) (.inRegion ops rest::k))(hj:L[j]? = some v:=by rfl)
  (ho:ops[i]? = some o:=by rfl) (hw:dz ops st o=some true:=by rfl) (hk:(c.kind == CallKind.early)=false:=by rfl) (aJ:o.op = .load t x:=by rfl) (hx:bg st x=some (.pointer (some ⟨b,0+j,none⟩)):=by rfl) (hd:o.dst=some d:=by rfl) (hl:Nat.blt d c.n=true:=by rfl):At ag c R H st (.inRegion ops (i::rest)::k) :=
 At.ld ht ((aR.box hm).one hj) h ho hw hk aJ hx hd hl
theorem lN(vs:List Value)(j n:Nat){ops:Array Oper}{i d:Nat}{rest:List Nat}{x:Operand}{t e:TypeId}{b:Nat}{fz:Nat × Nat}{L:List Value}{m:Nat}(ht:kS P t m)(hm:(b,Obj.cells L.toArray e fz)∈H)(h:At ag c R H ((d,.agg vs.toArray)::st) (.inRegion ops rest::k))(hv:(L.drop j).take n=vs:=by rfl)
  (ho:ops[i]? = some o:=by rfl) (hw:dz ops st o=some true:=by rfl) (hk:(c.kind == CallKind.early)=false:=by rfl) (aJ:o.op = .load t x:=by rfl) (hx:bg st x=some (.pointer (some ⟨b,0+j,none⟩)):=by rfl) (hn:vs.length=m:=by rfl) (hd:o.dst=some d:=by rfl) (hl:Nat.blt d c.n=true:=by rfl):At ag c R H st (.inRegion ops (i::rest)::k) :=
 At.s ho hw (Ox.bL aJ hx ht hn ((aR.box hm).part hv) (by rw [hd]; exact hl) (.put hd) h) hk
theorem bx{ops:Array Oper}{i d:Nat}{rest:List Nat}{x:Operand}{t:TypeId}{vs:Array Value}(h:∀ b,At ag c R ((b,.cells vs t)::H) ((d,.pointer (some ⟨b,0,none⟩))::st) (.inRegion ops rest::k))
  (ho:ops[i]? = some o:=by rfl) (hw:dz ops st o=some true:=by rfl) (hk:(c.kind == CallKind.early)=false:=by rfl) (aJ:o.op = .box t x:=by rfl) (hx:bg st x=some (.agg vs):=by rfl) (hd:o.dst=some d:=by rfl) (hl:Nat.blt d c.n=true:=by rfl):At ag c R H st (.inRegion ops (i::rest)::k) :=
 At.s ho hw (Ox.adD aJ hx (by rw [hd]; exact hl) λ b _ _=>⟨_,.put hd,h b⟩) hk
theorem sc{α:Type}{t:Bool}{a b:Option α}{r:α}{x:Operand}{th el:Code}(hM:ae t a b=some r)(h1:t=true→a=some r→At ag c R H st (.code th::k))(h2:t=false→b=some r→At ag c R H st (.code el::k))(hx:bg st x=some (.bool t):=by rfl):At ag c R H st (.code (.cond x th el)::k) :=
 bj hM (λ h hM=>At.FB hx h (h1 h hM)) (λ h hM=>At.FA hx h (h2 h hM))
theorem ls{α:Type}{K:b9 α}{n:Nat}{ops:Array Oper}{i d:Nat}{rest:List Nat}{x:Operand}{t e:TypeId}{v:Value}{xs:List α}(hl:au K n R v xs)(ht:P.underlying t=some (.slice e))(h:At ag c R H ((d,.int .i64 (xs.length:Int))::st) (.inRegion ops rest::k))
  (ho:ops[i]? = some o:=by rfl) (hw:dz ops st o=some true:=by rfl) (hk:(c.kind == CallKind.early)=false:=by rfl) (aJ:o.op = .call ⟨.builtin .len,#[x],#[t]⟩:=by rfl) (hx:bg st x=some v:=by rfl) (hd:o.dst=some d:=by rfl) (hn:Nat.blt d c.n=true:=by rfl):At ag c R H st (.inRegion ops (i::rest)::k) :=
 At.s ho hw (Ox.sm aJ hx hl ht (by rw [hd]; exact hn) (.put hd) h) hk
theorem lr{α:Type}{K:b9 α}{n:Nat}{ops:Array Oper}{i d:Nat}{rest:List Nat}{x:Operand}{t e:TypeId}{v:Value}{xs:List α}{H0:an}(hl:bH K n R H0 v xs)(ht:P.underlying t=some (.slice e))(h:At ag c R H ((d,.int .i64 (xs.length:Int))::st) (.inRegion ops rest::k))
  (ho:ops[i]? = some o:=by rfl) (hw:dz ops st o=some true:=by rfl) (hk:(c.kind == CallKind.early)=false:=by rfl) (aJ:o.op = .call ⟨.builtin .len,#[x],#[t]⟩:=by rfl) (hx:bg st x=some v:=by rfl) (hd:o.dst=some d:=by rfl) (hn:Nat.blt d c.n=true:=by rfl):At ag c R H st (.inRegion ops (i::rest)::k) :=
 At.s ho hw (Ox.Zs aJ hx hl ht (by rw [hd]; exact hn) (.put hd) h) hk
theorem rt{fr:Frame}{cs:List Frame}{f:FuncId}{n:Nat}{fn:Func}{vs:List Value}{H':an}(hf:P.funcs[f]? = some fn)(hr:nV P R H st fn.results.toList vs)(hs:List.Sublist H' H)(hj:ag.J R H' (bA (fr.finish (rQ vs)) cs)):At ag ⟨f,.normal,none,n,[],fr::cs⟩ R H st (.code .ret::k) :=
 At.aKU hf hr (J.drop hs hj)
theorem ts(i:Nat){ops:Array Oper}{n d:Nat}{rem:List Nat}{S:Nat→an}{v:Value}{N:an}(D:List Nat)(ho:ops[i]? = some o)(w8:∀ j∈rem,j≠i→j ∉ D→∀ p∈N,p∈S j)(hS:∀ p∈N,p∈H)
  (hf:∀ R' H',aN R R'→(∀ p∈N,p∈H')→aM P B c o R' H' st λ R1 H1 AG=>R1=R'∧H1=H'∧AG=[(d,v)]) (h:Any ag c S ops k n (rem.erase i) R H ((d,v)::st))
  (o9:o.dst=some d:=by rfl) (hw:dz ops st o=some true:=by rfl) (iq:pz ops rem i D=true:=by decide +kernel) (cP:rem.Nodup:=by decide):Any ag c S ops k (n+1) rem R H st :=
 Any.aaH D ho o9 hw iq w8 hS hf (aH.refl _) cP rfl h
theorem tl(i j:Nat){ops:Array Oper}{n d:Nat}{rem:List Nat}{x:Operand}{t e:TypeId}{b:Nat}{fz:Nat × Nat}{L:List Value}{v:Value}(ht:gG P t)(hm:(b,Obj.cells L.toArray e fz)∈H)(h:Any ag c (λ _=>H) ops k n (rem.erase i) R H ((d,v)::st))(hj:L[j]? = some v:=by rfl)
  (ho:ops[i]? = some o:=by rfl) (aJ:o.op = .load t x:=by rfl) (hx:bg st x=some (.pointer (some ⟨b,0+j,none⟩)):=by rfl) (o9:o.dst=some d:=by rfl) (hl:Nat.blt d c.n=true:=by rfl) (hw:dz ops st o=some true:=by rfl) (iq:pz ops rem i (NY ops rem i)=true:=by decide +kernel) (cP:rem.Nodup:=by decide):Any ag c (λ _=>H) ops k (n+1) rem R H st :=
 Any.tk i ho pp (λ _ _ _ hS=>Ox.bl aJ hx ht ((aR.box (hS _ hm)).one hj) (by rw [o9]; exact hl) (.one o9) ⟨rfl,rfl,rfl⟩) h o9 hw iq cP
theorem tN(i:Nat)(vs:List Value)(j m:Nat){ops:Array Oper}{n d:Nat}{rem:List Nat}{x:Operand}{t e:TypeId}{b:Nat}{fz:Nat × Nat}{L:List Value}{q:Nat}(ht:kS P t q)(hm:(b,Obj.cells L.toArray e fz)∈H)(h:Any ag c (λ _=>H) ops k n (rem.erase i) R H ((d,.agg vs.toArray)::st))(hv:(L.drop j).take m=vs:=by rfl)
  (ho:ops[i]? = some o:=by rfl) (aJ:o.op = .load t x:=by rfl) (hx:bg st x=some (.pointer (some ⟨b,0+j,none⟩)):=by rfl) (hq:vs.length=q:=by rfl) (o9:o.dst=some d:=by rfl) (hl:Nat.blt d c.n=true:=by rfl) (hw:dz ops st o=some true:=by rfl) (iq:pz ops rem i (NY ops rem i)=true:=by decide +kernel) (cP:rem.Nodup:=by decide):Any ag c (λ _=>H) ops k (n+1) rem R H st :=
 Any.tk i ho pp (λ _ _ _ hS=>Ox.bL aJ hx ht hq ((aR.box (hS _ hm)).part hv) (by rw [o9]; exact hl) (.one o9) ⟨rfl,rfl,rfl⟩) h o9 hw iq cP
theorem tw(i j:Nat){S:Nat→an}{ops:Array Oper}{n:Nat}{rem:List Nat}{a b:Oper}(h1:nU ag c a R H st λ R' H' ab=>aN R R'∧(∀ p∈S i,p∈H→p∈H')∧Any ag c S ops k n (rem.erase i) R' H' ab)
  (h2:nU ag c b R H st λ R' H' ab=>aN R R'∧(∀ p∈S j,p∈H→p∈H')∧Any ag c S ops k n (rem.erase j) R' H' ab) (ha:ops[i]? = some a:=by rfl) (hb:ops[j]? = some b:=by rfl) (k8:rem.filter (mG ops rem)=[i,j]:=by decide +kernel) (Kl:dz ops st a=some true:=by rfl) (Km:dz ops st b=some true:=by rfl) (cP:rem.Nodup:=by decide):Any ag c S ops k (n+1) rem R H st :=
 Any.aLU ha hb k8 Kl Km cP rfl rfl h1 h2
theorem ka{H X:an}:∀ p∈H,p∈X→p∈H:=λ _ h _=>h
theorem kp{R:aE}{H X:an}{C:Prop}(h:C):aN R R∧(∀ p∈H,p∈X→p∈H)∧C:=⟨aN.refl _,ka,h⟩
theorem ku{H H' X:an}(h:List.Sublist H H'):∀ p∈H,p∈X→p∈H':=λ _ hp _=>h.subset hp
theorem rr{R:aE}:aN R R:=aN.refl _
end
abbrev CZ:b9 Int:=CI .i64
end Go.Lg
namespace Go.Lg
open Go.Conc
def rX(v:Value)(lo k:Nat):Value:=match v with | .slice A n cap=>.slice (if cap=lo then A else A.map (·.add (lo * k))) (n - lo) (cap - lo) | v=>v
def qc(xs:List Int)(lo:Nat):List Int:=xs.take lo++List.replicate (xs.length - lo) 0
theorem ape{α:Type}{xs ys:List α}{lo hi:Int}(h:gQ xs lo hi=some ys):lo.toNat≤xs.length:=by
 obtain ⟨h1,h2,h3,_⟩:=I0 h
 omega
section
variable {P:Program} {B:Base} {main:Bool} {ag:Jd P B main} {c:Ctx} {R:aE} {H H':an} {st ab:St} {o:Oper} {C:aE→an→St→Prop}
theorem aU.view{α:Type}{K:b9 α}{k e:Nat}{v:Value}{xs:List α}{Hs:an}{lo:Nat}(h:aU K k e R v xs Hs)(hs:∀ p∈Hs,p∈H):bH K k R H (rX v lo k) (xs.drop lo):=by
 obtain ⟨A,cap,es,rfl,hE,rz,hm⟩:=h.rd hs
 refine ⟨if cap=lo then A else A.map (·.add (lo * k)),cap - lo,es.drop (lo * k),by simp [rX],hE.drop,by simp; omega,λ b7=>?_⟩
 have br:lo < xs.length:=by
  apply Classical.byContradiction
  intro hn
  exact b7 (List.drop_eq_nil_of_le (by omega))
 obtain ⟨b,o',rfl,g2⟩:=hm (by rintro rfl; simp at br)
 refine ⟨b,o'+lo * k,?_,λ j w hj=>?_⟩
 ·rw [if_neg (by omega)]; simp [pZ]
 ·rw [List.getElem?_drop] at hj
  have:=g2 _ _ hj
  simpa [Nat.add_assoc] using this
theorem aU.aid{α:Type}{K:b9 α}{k t e e':Nat}{v:Value}{xs ys:List α}{Hs:an}{lo:Int}(h:aU K k e R v xs Hs)(ht:lC P t e' k)(hc:gQ xs lo (xs.length:Int)=some ys):E8 P t k v (xs.length:Int) lo (xs.length:Int) (rX v lo.toNat k):=by
 obtain ⟨h1,h2,h3,_⟩:=I0 hc
 obtain ⟨A,cap,es,rfl,hE,rz,hm⟩:=h.rd (H:=Hs) (λ _ h=>h)
 intro ρ st x lo' hi aX hx hl hh
 rw [Int.toNat_natCast] at hh
 rw [hx]
 unfold Instr.sliceAt
 refine aq.bind (aq.underlying ht.1) ?_
 unfold Instr.slice
 refine aq.bind (aq.underlying ht.1) (aq.bind (Qy aX hl hh ⟨h1,h2,h3⟩ rz) (aq.bind ht.2 ?_))
 simp only [rX,Int.toNat_natCast]
 exact aq.pure _
theorem aU.front{α:Type}{K:b9 α}{k t e e':Nat}{v:Value}{xs ys:List α}{Hs:an}{hi:Int}(h:aU K k e R v xs Hs)(ht:lC P t e' k)(hc:gQ xs 0 hi=some ys):∃ v',aU K k e R v' ys Hs∧E8 P t k v (xs.length:Int) 0 hi v':=by
 obtain ⟨h1,h2,h3,rfl⟩:=I0 hc
 have key:∀ A cap,v = .slice A xs.length cap→xs.length≤cap→E8 P t k v (xs.length:Int) 0 hi (.slice (if cap=0 then A else A.map (·.add (0 * k))) (hi.toNat - 0) (cap - 0)):=by
  rintro A cap rfl rz ρ st x lo' rB aX hx hl hh
  rw [Int.toNat_natCast] at hh
  rw [hx]
  unfold Instr.sliceAt
  refine aq.bind (aq.underlying ht.1) ?_
  unfold Instr.slice
  exact aq.bind (aq.underlying ht.1) (aq.bind (Qy aX hl hh ⟨h1,h2,h3⟩ rz) (aq.bind ht.2 (aq.pure _)))
 rcases h with ⟨A,rfl,rfl,rfl⟩ | ⟨b,cap,cs,es,rfl,rfl,g3,g4,g5,g6⟩
 ·have:=key A 0 rfl (Nat.le_refl _)
  have h0:hi.toNat=0:=by simp at h3; omega
  rw [h0] at this
  exact ⟨_,.inl ⟨A,rfl,by simp,rfl⟩,by simpa using this⟩
 ·refine ⟨_,?_,key _ cap rfl g4⟩
  have vb:((xs.take hi.toNat).drop (0:Int).toNat).length=hi.toNat:=by simp; omega
  refine .inr ⟨b,cap,cs,es.take (hi.toNat * k),?_,rfl,g3,by rw [vb]; omega,by simpa using g5.take,λ j w hj=>?_⟩
  ·rw [vb]
   congr 1
   split <;> simp [pZ]
  ·rw [List.getElem?_take] at hj
   split at hj
   ·exact g6 _ _ hj
   ·cases hj
theorem Ox.aHW{α:Type}{K:b9 α}{k e' lo:Nat}{x:Operand}{t e:TypeId}{v:Value}{xs:List α}{Hs:an}(aJ:o.op = .call ⟨.builtin .len,#[x],#[t]⟩)(hx:bg st x=some (rX v lo k))(hl:aU K k e' R v xs Hs)(ht:P.underlying t=some (.slice e))
  (hd:cp o.dst c.n) (hs:aH (bR o.dst (.int .i64 ((xs.drop lo).length:Int)) st) ab) (h:C R H ab):aM P B c o R H st C :=
 Ox.Zs aJ hx (hl.view (H:=Hs) (λ _ h=>h)) ht hd hs h
theorem Ox.apa{t e lo:Nat}(G:an→an){x:Operand}{v:Value}{xs:List Int}{Hs:an}(aJ:o.op = .call ⟨.builtin .clear,#[x],#[t]⟩)(hx:bg st x=some (rX v lo 1))(ht:lC P t e 1)(hz:gH P e #[.int .i64 0])(hG:gF G)
  (hO:aU (CI .i64) 1 e R v xs Hs) (OI:lo≤xs.length) (hd:cp o.dst c.n) (hC:∀ bF,aU (CI .i64) 1 e R v (qc xs lo) bF→∃ ab,aH (bR o.dst (.tuple #[]) st) ab∧C R (G bF) ab):aM P B c o R (G Hs) st C:=by
 refine ⟨by rw [aJ]; rfl,hd,λ ρ aX=>?_⟩
 simp only [execOp,aJ]
 refine aq.cG (a:=⟨.builtin .clear #[t] o.type (#[x].map λ | .const _=>true | _=>false),#[x].map ρ⟩) (aq.pure _) ?_
 simp only [invoke,builtin]
 have e1:(#[x].map ρ)=#[rX v lo 1]:=by simp [aX x _ hx]
 rw [e1]
 have fin:∀ bF,aU (CI .i64) 1 e R v (qc xs lo) bF→aK P B R (G bF) (pure (Value.tuple #[])) λ a R' H'=>aK P B R' H' (pure (Next.value a)) λ nx R' H'=>∃ v,(nx = .value v∨(nx = .skip∧v=undef))∧∃ ab,aH (bR o.dst v st) ab∧C R' H' ab:=λ bF h=>by
  obtain ⟨ab,hs,hC'⟩:=hC bF h
  exact aK.pure (aK.pure ⟨_,.inl rfl,ab,hs,hC'⟩)
 refine aK.bind ?_
 unfold Builtin.clear_
 refine aq.cG (aq.underlying ht.1) ?_
 by_cases hn:xs.length - lo=0
 ·have hv:∃ A cap,rX v lo 1 = .slice A 0 cap:=by
   obtain ⟨A,cap,es,rfl,_⟩:=hO.rd (H:=Hs) (λ _ h=>h)
   exact ⟨_,_,by simp only [rX,hn]; rfl⟩
  obtain ⟨A,cap,hv⟩:=hv
  rw [hv]
  have ga:qc xs lo=xs:=by
   unfold qc
   rw [hn,List.replicate_zero,List.append_nil,List.take_of_length_le (by omega)]
  rw [ga] at fin
  cases A with
  | none=>exact aK.bind (aK.pure (fin Hs hO))
  | some a=>exact aK.bind (aK.pure (fin Hs hO))
 ·rcases hO with ⟨A,rfl,rfl,rfl⟩ | ⟨b,cap,cs,es,rfl,rfl,g3,g4,g5,g6⟩
  ·simp at hn
  ·have hv:rX (.slice (some ⟨b,0,none⟩) xs.length cap) lo 1 = .slice (some ⟨b,lo,none⟩) (xs.length - lo) (cap - lo):=by
    simp only [rX]
    rw [if_neg (by omega)]
    simp [pZ]
   rw [hv]
   obtain ⟨m,hm⟩:∃ m,xs.length - lo=m+1:=⟨xs.length - lo - 1,by omega⟩
   rw [hm]
   dsimp only
   obtain ⟨z0,hz0,hzc⟩:=hz
   refine aq.cG hz0 (aK.bind ?_)
   have WJ:(Builtin.zeroCells z0.cells (m+1)).toList=List.replicate (m+1) (Value.int .i64 0):=by
    rw [hzc]
    apply List.ext_getElem?
    intro j
    simp only [Builtin.zeroCells]
    by_cases hj:j < m+1
    ·simp [hj,Nat.mod_one]
    ·simp [hj]
   rw [WJ]
   have rF:lo+(m+1)≤cs.size:=by omega
   refine aK.given λ cP=>aK.Li _ cs lo 0 (G [(b,.cells cs e (0,0))]) (G [(b,.cells (fb cs lo (List.replicate (m+1) (Value.int .i64 0))) e (0,0))]) (λ u hu=>by rw [List.eq_of_mem_replicate hu]; rfl) (by simp; omega) (by simpa using gF.set hG) cP ?_
   have afp:(qc xs lo).length=xs.length:=by simp [qc]; omega
   refine fin _ (.inr ⟨b,cap,fb cs lo (List.replicate (m+1) (Value.int .i64 0)),es.take lo++List.replicate (m+1) (Value.int .i64 0),by rw [afp],rfl,by rw [Ld]; exact g3,by rw [afp]; exact g4,?_,λ j w hj=>?_⟩)
   ·have h1:=g5.take (n:=lo)
    rw [Nat.mul_one] at h1
    unfold qc
    rw [hm]
    refine h1.append ?_
    refine ⟨by simp,λ i x hx=>?_⟩
    rw [List.getElem?_replicate] at hx
    split at hx
    ·rename_i hi
     cases hx
     refine ⟨[.int .i64 0],rfl,rfl,λ j w hj=>?_⟩
     have hj1:=(List.getElem?_eq_some_iff.1 hj).1
     have gf:j=0:=by simp at hj1; omega
     subst gf
     rw [Nat.mul_one,List.getElem?_replicate,if_pos (by omega)]
     exact hj
    ·cases hx
   ·have kY:=g5.len
    rw [Nat.mul_one] at kY
    rw [D8 _ _ _ _ (by simp; omega)]
    rcases Nat.lt_or_ge j lo with zF | zF
    ·rw [List.getElem?_append_left (by simp; omega),List.getElem?_take,if_pos zF] at hj
     rw [if_neg (by omega)]
     exact g6 _ _ hj
    ·rw [List.getElem?_append_right (by simp; omega)] at hj
     have axH:(es.take lo).length=lo:=by simp; omega
     rw [axH] at hj
     have br:=(List.getElem?_eq_some_iff.1 hj).1
     rw [if_pos ⟨zF,by simp at br ⊢; omega⟩]
     exact hj
end
end Go.Lg
namespace Go.Lg
def ah{α:Type}(a b:Option α):Prop:=∀ r,a=some r→b=some r
theorem ah.refl{α:Type}(a:Option α):ah a a:=λ _ h=>h
theorem ah.none{α:Type}{b:Option α}:ah none b:=λ _ h=>by cases h
theorem ah.bind{α β:Type}{a a':Option α}{f f':α→Option β}(h:ah a a')(hf:∀ x,ah (f x) (f' x)):ah (a.bind f) (a'.bind f'):=by
 intro r hr
 obtain ⟨x,hx,hr⟩:=af hr
 rw [h x hx]
 exact hf x r hr
theorem ah.ae{α:Type}{t:Bool}{a a' b b':Option α}(h:ah a a')(h':ah b b'):ah (ae t a b) (ae t a' b'):=by
 cases t
 ·exact h'
 ·exact h
def tu{S O:Type}(body:S→Option (S ⊕ O))(s:S):Option O:=lb body 200 s
theorem ah.lb{S O:Type}{body IU:S→Option (S ⊕ O)}(h:∀ s,ah (body s) (IU s)):∀ (n:Nat) (s:S),ah (Go.Lg.lb body n s) (bd IU s)
 | 0,_=>λ _ hr=>by cases hr
 | n+1,s=>λ r hr=>by
  simp only [Go.Lg.lb] at hr
  cases hb:body s with
  | none=>rw [hb] at hr; cases hr
  | some x =>
   rw [hb] at hr
   have lP:=h s x hb
   cases x with
   | inl s'=>rw [si lP]; exact ah.lb h n s' r hr
   | inr o=>cases hr; exact gW lP
theorem ah.loop{S O:Type}{body IU:S→Option (S ⊕ O)}{s:S}(h:∀ s,ah (body s) (IU s)):ah (tu body s) (bd IU s):=ah.lb h 200 s
theorem ah.elim{α β γ:Type}{f f':α→Option γ}{g g':β→Option γ}(h:∀ x,ah (f x) (f' x))(h':∀ x,ah (g x) (g' x))(x:α ⊕ β):ah (Sum.elim f g x) (Sum.elim f' g' x):=by
 cases x
 ·exact h _
 ·exact h' _
theorem ah.dq{α S O:Type}{f f':α→S→Option (S ⊕ O)}(h:∀ x s,ah (f x s) (f' x s))(x:α)(s:S ⊕ O):ah (Go.Lg.dq f x s) (Go.Lg.dq f' x s):=by
 intro r hr
 cases s with
 | inr s=>cases hr
 | inl s =>
  simp only [Go.Lg.dq] at hr ⊢
  cases hf:f x s with
  | none=>rw [hf] at hr; cases hr
  | some z=>rw [hf] at hr; rw [h x s z hf]; exact hr
theorem ah.mapM{α β:Type}{f f':α→Option β}(h:∀ x,ah (f x) (f' x)):∀ l:List α,ah (l.mapM f) (l.mapM f')
 | []=>ah.refl _
 | a::l=>by
  intro r hr
  rw [List.mapM_cons] at hr ⊢
  cases ha:f a with
  | none=>rw [ha] at hr; simp at hr
  | some b =>
   cases hl:l.mapM f with
   | none=>rw [ha,hl] at hr; simp at hr
   | some bs =>
    rw [ha,hl] at hr
    rw [h a b ha,ah.mapM h l bs hl]
    exact hr
end Go.Lg
namespace Go.Lg
abbrev aI:Value:=.slice none 0 0
theorem bB{α β:Sort _}{a:α}{b:β}:a=a∧b=b:=⟨rfl,rfl⟩
theorem al{α β γ:Sort _}{a:α}{b:β}{d:γ}:a=a∧b=b∧d=d:=⟨rfl,rfl,rfl⟩
theorem av{st ab:St}(h:dT st ab):aH st ab:=dT.sub h
theorem iu{a0:Option Value}:a0=a0∧True:=⟨rfl,trivial⟩
theorem cT{a0 a1:Option Value}:a0=a0∧a1=a1∧True:=⟨rfl,rfl,trivial⟩
theorem cW{a0 a1 a2:Option Value}:a0=a0∧a1=a1∧a2=a2∧True:=⟨rfl,rfl,rfl,trivial⟩
theorem bC{a0 a1 a2 a3:Option Value}:a0=a0∧a1=a1∧a2=a2∧a3=a3∧True:=⟨rfl,rfl,rfl,rfl,trivial⟩
theorem b8{a0 a1 a2 a3 a4:Option Value}:a0=a0∧a1=a1∧a2=a2∧a3=a3∧a4=a4∧True:=⟨rfl,rfl,rfl,rfl,rfl,trivial⟩
theorem eD{a0 a1 a2 a3 a4 a5:Option Value}:a0=a0∧a1=a1∧a2=a2∧a3=a3∧a4=a4∧a5=a5∧True:=⟨rfl,rfl,rfl,rfl,rfl,rfl,trivial⟩
theorem lZ{a0 a1 a2 a3 a4 a5 a6:Option Value}:a0=a0∧a1=a1∧a2=a2∧a3=a3∧a4=a4∧a5=a5∧a6=a6∧True:=⟨rfl,rfl,rfl,rfl,rfl,rfl,rfl,trivial⟩
theorem Z0{a0 a1 a2 a3 a4 a5 a6 a7:Option Value}:a0=a0∧a1=a1∧a2=a2∧a3=a3∧a4=a4∧a5=a5∧a6=a6∧a7=a7∧True:=⟨rfl,rfl,rfl,rfl,rfl,rfl,rfl,rfl,trivial⟩
theorem DZ{a0 a1 a2 a3 a4 a5 a6 a7 a8:Option Value}:a0=a0∧a1=a1∧a2=a2∧a3=a3∧a4=a4∧a5=a5∧a6=a6∧a7=a7∧a8=a8∧True:=⟨rfl,rfl,rfl,rfl,rfl,rfl,rfl,rfl,rfl,trivial⟩
theorem DY{a0 a1 a2 a3 a4 a5 a6 a7 a8 a9:Option Value}:a0=a0∧a1=a1∧a2=a2∧a3=a3∧a4=a4∧a5=a5∧a6=a6∧a7=a7∧a8=a8∧a9=a9∧True:=⟨rfl,rfl,rfl,rfl,rfl,rfl,rfl,rfl,rfl,rfl,trivial⟩
theorem lS{a0 a1 a2 a3 a4 a5 a6 a7 a8 a9 ma:Option Value}:a0=a0∧a1=a1∧a2=a2∧a3=a3∧a4=a4∧a5=a5∧a6=a6∧a7=a7∧a8=a8∧a9=a9∧ma=ma∧True:=⟨rfl,rfl,rfl,rfl,rfl,rfl,rfl,rfl,rfl,rfl,rfl,trivial⟩
theorem tF{a0 a1 a2 a3 a4 a5 a6 a7 a8 a9 ma oQ:Option Value}:a0=a0∧a1=a1∧a2=a2∧a3=a3∧a4=a4∧a5=a5∧a6=a6∧a7=a7∧a8=a8∧a9=a9∧ma=ma∧oQ=oQ∧True:=⟨rfl,rfl,rfl,rfl,rfl,rfl,rfl,rfl,rfl,rfl,rfl,rfl,trivial⟩
theorem a0a{a0 a1 a2 a3 a4 a5 a6 a7 a8 a9 ma oQ sA:Option Value}:a0=a0∧a1=a1∧a2=a2∧a3=a3∧a4=a4∧a5=a5∧a6=a6∧a7=a7∧a8=a8∧a9=a9∧ma=ma∧oQ=oQ∧sA=sA∧True:=⟨rfl,rfl,rfl,rfl,rfl,rfl,rfl,rfl,rfl,rfl,rfl,rfl,rfl,trivial⟩
theorem ajF{a0 a1 a2 a3 a4 a5 a6 a7 a8 a9 ma oQ sA zd:Option Value}:a0=a0∧a1=a1∧a2=a2∧a3=a3∧a4=a4∧a5=a5∧a6=a6∧a7=a7∧a8=a8∧a9=a9∧ma=ma∧oQ=oQ∧sA=sA∧zd=zd∧True:=⟨rfl,rfl,rfl,rfl,rfl,rfl,rfl,rfl,rfl,rfl,rfl,rfl,rfl,rfl,trivial⟩
theorem a0b{a0 a1 a2 a3 a4 a5 a6 a7 a8 a9 ma oQ sA zd IK:Option Value}:a0=a0∧a1=a1∧a2=a2∧a3=a3∧a4=a4∧a5=a5∧a6=a6∧a7=a7∧a8=a8∧a9=a9∧ma=ma∧oQ=oQ∧sA=sA∧zd=zd∧IK=IK∧True:=⟨rfl,rfl,rfl,rfl,rfl,rfl,rfl,rfl,rfl,rfl,rfl,rfl,rfl,rfl,rfl,trivial⟩
theorem a0c{a0 a1 a2 a3 a4 a5 a6 a7 a8 a9 ma oQ sA zd IK a15:Option Value}:a0=a0∧a1=a1∧a2=a2∧a3=a3∧a4=a4∧a5=a5∧a6=a6∧a7=a7∧a8=a8∧a9=a9∧ma=ma∧oQ=oQ∧sA=sA∧zd=zd∧IK=IK∧a15=a15∧True:=⟨rfl,rfl,rfl,rfl,rfl,rfl,rfl,rfl,rfl,rfl,rfl,rfl,rfl,rfl,rfl,rfl,trivial⟩
section
variable {P:Program} {B:Base} {main:Bool} {ag:Jd P B main} {c:Ctx} {R:aE} {H:an} {st ab:St} {o:Oper} {k:List Item} {ops:Array Oper} {i d:Nat} {rest:List Nat} {t e:TypeId}
theorem cC{x y:Operand}{v:Value}{kd:IntKind}{j:Int}{b n:Nat}(hv:BK P t v j b n)(h:At ag c R H ((d,.pointer (some ⟨b,n,none⟩))::st) (.inRegion ops rest::k))(ho:ops[i]? = some o:=by rfl)(hw:dz ops st o=some true:=by rfl)(hk:(c.kind == CallKind.early)=false:=by rfl)
  (aJ:o.op = .indexAddr t x y:=by rfl) (hx:bg st x=some v:=by rfl) (hy:bg st y=some (.int kd j):=by rfl) (hd:o.dst=some d:=by rfl) (hl:Nat.blt d c.n=true:=by rfl):At ag c R H st (.inRegion ops (i::rest)::k) :=
 At.s ho hw (Ox.bp aJ hx hy hv (by rw [hd]; exact hl) (.put hd) h) hk
theorem bM(cs:Array Value)(ht:gH P t cs)(h:∀ b,At ag c R ((b,.cells cs t)::H) ((d,.pointer (some ⟨b,0,none⟩))::st) (.inRegion ops rest::k))(ho:ops[i]? = some o:=by rfl)(hw:dz ops st o=some true:=by rfl)(hk:(c.kind == CallKind.early)=false:=by rfl)
  (aJ:o.op = .alloc t:=by rfl) (hd:o.dst=some d:=by rfl) (hl:Nat.blt d c.n=true:=by rfl):At ag c R H st (.inRegion ops (i::rest)::k) :=
 At.s ho hw (Ox.alloc aJ ht (by rw [hd]; exact hl) λ b _ _=>⟨_,.put hd,h b⟩) hk
theorem ei(cells:Array Value){parts:Array (Nat × Operand)}{ps:List (Nat × Value)}{places:List (Nat × Nat)}{z:Array Value}(ht:pY P t places z)(h:At ag c R H ((d,.agg cells)::st) (.inRegion ops rest::k))(ho:ops[i]? = some o:=by rfl)(hw:dz ops st o=some true:=by rfl)(hk:(c.kind == CallKind.early)=false:=by rfl)
  (aJ:o.op = .build t parts:=by rfl) (hp:Au st parts.toList=some ps:=by rfl) (hf:Instr.fill (places.toArray[·]?) z ps=some cells:=by repeat first | refine cJ rfl rfl rfl rfl ?_ | exact cS) (hd:o.dst=some d:=by rfl) (hl:Nat.blt d c.n=true:=by rfl):At ag c R H st (.inRegion ops (i::rest)::k) :=
 At.s ho hw (Ox.build aJ ht hp hf (by rw [hd]; exact hl) (.put hd) h) hk
theorem ef(cells:Array Value){n len:Nat}{parts:Array (Nat × Operand)}{ps:List (Nat × Value)}{z base:Array Value}(ht:y3 P t e n z)(hb:(Array.range (len * n)).map (z[· % z.size]!)=base)(h:∀ b,At ag c R ((b,.cells cells e)::H) ((d,.slice (some ⟨b,0,none⟩) len len)::st) (.inRegion ops rest::k))
  (ho:ops[i]? = some o:=by rfl) (hw:dz ops st o=some true:=by rfl) (hk:(c.kind == CallKind.early)=false:=by rfl) (aJ:o.op = .buildSlice t len parts:=by rfl) (hp:Au st parts.toList=some ps:=by rfl) (hlen:len * n≤16777216:=by decide) (hf:Instr.fill (λ j=>some (j * n,n)) base ps=some cells:=by repeat first | refine cJ rfl rfl rfl rfl ?_ | exact cS) (hd:o.dst=some d:=by rfl) (hl:Nat.blt d c.n=true:=by rfl):At ag c R H st (.inRegion ops (i::rest)::k) :=
 At.s ho hw (Ox.buildSlice aJ ht hp hlen hb hf (by rw [hd]; exact hl) λ b _ _=>⟨_,.put hd,h b⟩) hk
theorem gC(cs':Array Value){x y:Operand}{b off:Nat}{v:Value}{cs:Array Value}{H':an}(ht:gG P t)(hs:dS H b (.cells cs e (0,0)) (.cells cs' e (0,0)) H')(h:At ag c R H' st (.inRegion ops rest::k))(ho:ops[i]? = some o:=by rfl)(hw:dz ops st o=some true:=by rfl)(hk:(c.kind == CallKind.early)=false:=by rfl)
  (aJ:o.op = .store t x y:=by rfl) (hx:bg st x=some (.pointer (some ⟨b,off,none⟩)):=by rfl) (hy:bg st y=some v:=by rfl) (hv:v.oneCell'=true:=by rfl) (hl:Nat.blt off cs.size=true:=by rfl) (o7:cs.setIfInBounds off v=cs':=by rfl) (hd:o.dst=none:=by rfl):At ag c R H st (.inRegion ops (i::rest)::k) :=
 At.s ho hw (Ox.dX aJ hx hy ht hv hs hl o7 hd (.refl _) h) hk
theorem cg(cs':Array Value){x y:Operand}{b off n:Nat}{vs cs:Array Value}{H':an}(ht:kS P t n)(hs:dS H b (.cells cs e (0,0)) (.cells cs' e (0,0)) H')(h:At ag c R H' st (.inRegion ops rest::k))(ho:ops[i]? = some o:=by rfl)(hw:dz ops st o=some true:=by rfl)(hk:(c.kind == CallKind.early)=false:=by rfl)
  (aJ:o.op = .store t x y:=by rfl) (hx:bg st x=some (.pointer (some ⟨b,off,none⟩)):=by rfl) (hy:bg st y=some (.agg vs):=by rfl) (hn:vs.size=n:=by rfl) (h1:∀ u∈vs.toList,u.oneCell'=true:=by repeat first | exact bu | refine bc rfl ?_ | refine bc (au.one (by assumption)) ?_ | refine bc (bH.one (by assumption)) ?_ | refine bc (aU.one (by assumption)) ?_ | refine bc (nT.one (by assumption)) ?_ | refine bc (na.one (by assumption)) ?_ | refine bc (jb.one (by assumption)) ?_) (hl:Nat.ble (off+n) cs.size=true:=by rfl) (o7:fb cs off vs.toList=cs':=by rfl) (hd:o.dst=none:=by rfl):At ag c R H st (.inRegion ops (i::rest)::k) :=
 At.s ho hw (Ox.da aJ hx hy ht hn h1 hs hl o7 hd (.refl _) h) hk
theorem tE{x:Operand}{u:TypeId}{kd ks k0:IntKind}{a:Int}(ht:P.underlying t=some (.int k0))(hu:P.underlying u=some (.int kd))(h:At ag c R H ((d,.int kd (kd.wrap a))::st) (.inRegion ops rest::k))(ho:ops[i]? = some o:=by rfl)(hw:dz ops st o=some true:=by rfl)(hk:(c.kind == CallKind.early)=false:=by rfl)
  (aJ:o.op = .convert t u x:=by rfl) (hx:bg st x=some (.int ks a):=by rfl) (hd:o.dst=some d:=by rfl) (hl:Nat.blt d c.n=true:=by rfl):At ag c R H st (.inRegion ops (i::rest)::k) :=
 At.s ho hw (Ox.ajL aJ hx ht hu (by rw [hd]; exact hl) (.put hd) h) hk
end
end Go.Lg
