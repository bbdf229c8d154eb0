/- Models, operations, lists, maps, arrays, ranges over functions. Conditions: none. -/
import Derived.Test.YtihapemckcdicaaGreatDoorQFLgA
import Derived.Laws.RangeAny
namespace Go.Lg
open Go.Conc
def mH{S O:Type}(body:S→Option (S ⊕ O)):Nat→S→Option O
 | 0,_=>none
 | n+1,s=>match body s with
  | none=>none
  | some (.inl s')=>mH body n s'
  | some (.inr o)=>some o
open Classical in
noncomputable def bD{S O:Type}(body:S→Option (S ⊕ O))(s:S):Option O:=if h:∃ o n,mH body n s=some o then some h.choose else none
theorem Wb{S O:Type}{body:S→Option (S ⊕ O)}:∀ {n m:Nat} {s:S} {o:O},n≤m→mH body n s=some o→mH body m s=some o
 | 0,_,_,_,_,h=>by cases h
 | n+1,0,_,_,hm,_=>by omega
 | n+1,m+1,s,o,hm,h=>by
  simp only [mH] at h ⊢
  cases hb:body s with
  | none=>rw [hb] at h; cases h
  | some x=>cases x with
   | inl s'=>rw [hb] at h; exact Wb (by omega) h
   | inr o'=>rw [hb] at h; exact h
theorem We{S O:Type}{body:S→Option (S ⊕ O)}{n:Nat}{s:S}{o:O}(h:mH body n s=some o):bD body s=some o:=by
 have hex:∃ o n,mH body n s=some o:=⟨o,n,h⟩
 unfold bD
 rw [dif_pos hex]
 obtain ⟨m,hm⟩:=hex.choose_spec
 have h1:=Wb (Nat.le_max_left n m) h
 have h2:=Wb (Nat.le_max_right n m) hm
 rw [h1] at h2
 exact h2.symm
theorem Wc{S O:Type}{body:S→Option (S ⊕ O)}{s:S}{o:O}(h:bD body s=some o):∃ n,mH body n s=some o:=by
 unfold bD at h
 split at h
 ·rename_i hex
  cases h
  exact hex.choose_spec
 ·cases h
theorem vz{S O:Type}{body:S→Option (S ⊕ O)}{s:S}{o:O}(h:body s=some (.inr o)):bD body s=some o :=
 We (n:=1) (by simp [mH,h])
theorem EH{S O:Type}{body:S→Option (S ⊕ O)}{s s':S}(h:body s=some (.inl s')):bD body s=bD body s':=by
 cases h':bD body s' with
 | some o =>
  obtain ⟨n,hn⟩:=Wc h'
  exact We (n:=n+1) (by simp [mH,h,hn])
 | none =>
  cases h2:bD body s with
  | none=>rfl
  | some o =>
   obtain ⟨n,hn⟩:=Wc h2
   cases n with
   | zero=>cases hn
   | succ n =>
    simp only [mH,h] at hn
    rw [We hn] at h'
    cases h'
theorem aj{α β:Type}{o:Option α}{f:α→Option β}{r:β}(h:o.bind f=some r):∃ x,o=some x∧f x=some r:=by
 cases o with
 | none=>cases h
 | some x=>exact ⟨x,rfl,h⟩
def ag{α:Type}(t:Bool)(a b:Option α):Option α:=match t with | true=>a | false=>b
theorem bL{α:Type}{t:Bool}{a b:Option α}{r:α}{G:Prop}(h:ag t a b=some r)(h1:t=true→a=some r→G)(h2:t=false→b=some r→G):G:=by
 cases t with
 | true=>exact h1 rfl h
 | false=>exact h2 rfl h
theorem ab{α:Type}{a b:α}(h:some a=some b):a=b:=Option.some.inj h
def idx{α:Type}(xs:List α)(i:Int):Option α:=if 0≤i then xs[i.toNat]? else none
def eJ{α:Type}(xs ys:List α):Option (List α):=if xs.length+ys.length≤16777216 then some (xs++ys) else none
def oN{α:Type}(xs:List α)(lo hi:Int):Option (List α):=if 0≤lo∧lo≤hi∧hi≤xs.length then some ((xs.take hi.toNat).drop lo.toNat) else none
theorem tG{α:Type}{xs:List α}{i:Int}{x:α}(h:idx xs i=some x):0≤i∧i < xs.length∧xs[i.toNat]? = some x:=by
 unfold idx at h
 split at h
 ·have:=(List.getElem?_eq_some_iff.1 h).1
  exact ⟨‹_›,by omega,h⟩
 ·cases h
theorem aiD{α:Type}{xs ys zs:List α}(h:eJ xs ys=some zs):xs.length+ys.length≤16777216∧zs=xs++ys:=by
 unfold eJ at h
 split at h
 ·cases h; exact ⟨‹_›,rfl⟩
 ·cases h
section
variable {P:Program} {B:Base} {main:Bool} {ae:Jd P B main} {c:Ctx} {R:ax} {H:an} {st st':St} {k:List Item}
theorem U.bD{S O ρ:Type}{body:S→Option (S ⊕ O)}{cont:O→Option ρ}{s0:S}{r:ρ}{code:Code}(hM:(bD body s0).bind cont=some r)(I:S→ax→an→St→Prop)
  (RZ:∀ s R H st,I s R H st→∀ x,body s=some x→(∀ s',x = .inl s'→∀ R' H' st',I s' R' H' st'→U ae c R' H' st' (.inLoop code::k))→(∀ o,x = .inr o→cont o=some r)→U ae c R H st (.code code :: .inLoop code::k))
  (h0:I s0 R H st):U ae c R H st (.code (.loop code)::k):=by
 obtain ⟨o,hl,hc⟩:=aj hM
 obtain ⟨n,hn⟩:=Wc hl
 clear hM hl
 have key:∀ n s R H st,mH body n s=some o→I s R H st→U ae c R H st (.code code :: .inLoop code::k):=by
  intro n
  induction n with
  | zero=>intro s R H st h; cases h
  | succ n ih =>
   intro s R H st h hI
   simp only [mH] at h
   cases hb:body s with
   | none=>rw [hb] at h; cases h
   | some x =>
    rw [hb] at h
    refine RZ s R H st hI x hb (λ s' hx R' H' st' RD=>?_) (λ o' hx=>?_)
    ·subst hx; exact U.inLoop (ih s' R' H' st' h RD)
    ·subst hx; cases h; exact hc
 exact U.enterLoop (key n s0 R H st hn h0)
theorem U.known{t:Nat}{x b:Bool}{todo:List Item}(hx:st.lookup t=some (.bool x))(hb:x=b)(h:U ae c R H ((t,.bool b)::st) todo):U ae c R H st todo:=by
 subst hb; exact λ tmps ht=>h tmps (ht.aeF hx)
theorem Any.known{S:Nat→an}{ops:Array Oper}{n:Nat}{rem:List Nat}{t:Nat}{x b:Bool}(hx:st.lookup t=some (.bool x))(hb:x=b)(h:Any ae c S ops k n rem R H ((t,.bool b)::st)):Any ae c S ops k n rem R H st:=by
 subst hb; exact ⟨h.1,λ tmps ht=>h.2 tmps (ht.aeF hx)⟩
theorem U.fu{x:Operand}{th el:Code}{t:Bool}(hx:bh st x=some (.bool t))(ht:t=true)(h:U ae c R H st (.code th::k)):U ae c R H st (.code (.cond x th el)::k):=by subst ht; exact U.cond_true hx h
theorem U.eD{x:Operand}{th el:Code}{t:Bool}(hx:bh st x=some (.bool t))(ht:t=false)(h:U ae c R H st (.code el::k)):U ae c R H st (.code (.cond x th el)::k):=by subst ht; exact U.cond_false hx h
end
abbrev cB(α:Type):=ax→α→List Value→Prop
class CM {α:Type} (C:cB α):Prop where
 mono:∀ {R R':ax} {x:α} {es:List Value},aS R R'→C R x es→C R' x es
 one:∀ {R:ax} {x:α} {es:List Value},C R x es→∀ u∈es,u.oneCell'=true
def CI(kd:IntKind):cB Int:=λ _ x es=>es=[.int kd x]
def CS:cB ByteArray:=λ _ x es=>es=[.string x]
instance {kd:IntKind}:CM (CI kd):=⟨λ _ h=>h,λ h=>by cases h; simp [Value.oneCell']⟩
instance:CM CS:=⟨λ _ h=>h,λ h=>by cases h; simp [Value.oneCell']⟩
structure aX {α:Type} (C:cB α) (k:Nat) (R:ax) (xs:List α) (es:List Value):Prop where
 len:es.length=xs.length * k
 at_:∀ (i:Nat) (x:α),xs[i]? = some x→∃ e1:List Value,C R x e1∧e1.length=k∧∀ (j:Nat) (w:Value),e1[j]? = some w→es[i * k+j]? = some w
theorem aX.nil{α:Type}{C:cB α}{k:Nat}{R:ax}:aX C k R [] []:=⟨by simp,by simp⟩
theorem aX.mono{α:Type}{C:cB α}[CM C]{k:Nat}{R R':ax}{xs:List α}{es:List Value}(h:aX C k R xs es)(hR:aS R R'):aX C k R' xs es :=
 ⟨h.len,λ i x hx=>by obtain ⟨e1,h1,h2,h3⟩:=h.at_ i x hx; exact ⟨e1,CM.mono hR h1,h2,h3⟩⟩
theorem aX.append{α:Type}{C:cB α}{k:Nat}{R:ax}{xs ys:List α}{es fs:List Value}(h:aX C k R xs es)(g:aX C k R ys fs):aX C k R (xs++ys) (es++fs):=by
 refine ⟨by rw [List.length_append,List.length_append,h.len,g.len,Nat.add_mul],λ i x hx=>?_⟩
 by_cases hi:i < xs.length
 ·rw [List.getElem?_append_left hi] at hx
  obtain ⟨e1,h1,h2,h3⟩:=h.at_ i x hx
  refine ⟨e1,h1,h2,λ j w hj=>?_⟩
  have:=h3 j w hj
  rw [List.getElem?_append_left (List.getElem?_eq_some_iff.1 this).1]
  exact this
 ·rw [List.getElem?_append_right (by omega)] at hx
  obtain ⟨e1,h1,h2,h3⟩:=g.at_ _ x hx
  refine ⟨e1,h1,h2,λ j w hj=>?_⟩
  have:=h3 j w hj
  have e:i * k+j=es.length+((i - xs.length) * k+j):=by
   rw [h.len]
   have:i=xs.length+(i - xs.length):=by omega
   rw [← Nat.add_assoc,← Nat.add_mul,← this]
  rw [e,List.getElem?_append_right (by omega),Nat.add_sub_cancel_left]
  exact this
theorem aX.single{α:Type}{C:cB α}{k:Nat}{R:ax}{x:α}{es:List Value}(h:C R x es)(hk:es.length=k):aX C k R [x] es:=by
 refine ⟨by simp [hk],λ i y hy=>?_⟩
 cases i with
 | zero=>cases hy; exact ⟨es,h,hk,λ j w hj=>by simpa using hj⟩
 | succ i=>simp at hy
theorem aX.one{α:Type}{C:cB α}[CM C]{k:Nat}{R:ax}{xs:List α}{es:List Value}(h:aX C k R xs es):∀ u∈es,u.oneCell'=true:=by
 intro u hu
 obtain ⟨j,hj⟩:=List.getElem?_of_mem hu
 have bE:=(List.getElem?_eq_some_iff.1 hj).1
 rw [h.len] at bE
 have hk:0 < k:=by cases k with | zero=>simp at bE | succ k=>omega
 have hi:j / k < xs.length:=Nat.div_lt_of_lt_mul (by rw [Nat.mul_comm]; exact bE)
 obtain ⟨e1,h1,h2,h3⟩:=h.at_ (j / k) _ (List.getElem?_eq_getElem hi)
 have hm:j % k < e1.length:=by rw [h2]; exact Nat.mod_lt _ hk
 have:=h3 (j % k) _ (List.getElem?_eq_getElem hm)
 rw [show j / k * k+j % k=j by rw [Nat.mul_comm]; exact Nat.div_add_mod j k,hj] at this
 cases this
 exact CM.one h1 _ (List.getElem_mem hm)
theorem aX.drop{α:Type}{C:cB α}{k n:Nat}{R:ax}{xs:List α}{es:List Value}(h:aX C k R xs es):aX C k R (xs.drop n) (es.drop (n * k)):=by
 refine ⟨by simp [h.len,Nat.sub_mul],λ i x hx=>?_⟩
 rw [List.getElem?_drop] at hx
 obtain ⟨e1,h1,h2,h3⟩:=h.at_ _ x hx
 refine ⟨e1,h1,h2,λ j w hj=>?_⟩
 rw [List.getElem?_drop,← h3 j w hj,Nat.add_mul,Nat.add_assoc]
theorem aX.take{α:Type}{C:cB α}{k n:Nat}{R:ax}{xs:List α}{es:List Value}(h:aX C k R xs es):aX C k R (xs.take n) (es.take (n * k)):=by
 refine ⟨by simp only [List.length_take,h.len]; exact Nat.mul_min_mul_right _ _ _,λ i x hx=>?_⟩
 rw [List.getElem?_take] at hx
 split at hx
 ·rename_i hi
  obtain ⟨e1,h1,h2,h3⟩:=h.at_ _ x hx
  refine ⟨e1,h1,h2,λ j w hj=>?_⟩
  have na:j < k:=by rw [← h2]; exact (List.getElem?_eq_some_iff.1 hj).1
  rw [List.getElem?_take,if_pos,h3 j w hj]
  calc i * k+j < i * k+k:=by omega
   _=(i+1) * k:=by rw [Nat.add_mul,Nat.one_mul]
   _≤n * k:=Nat.mul_le_mul_right k hi
 ·cases hx
def aa{α:Type}(C:cB α)(k:Nat)(R:ax)(v:Value)(xs:List α):Prop :=
 ∃ A cap es,v = .slice A xs.length cap∧aX C k R xs es∧xs.length≤cap∧(xs≠[]→∃ b o arr e fz,A=some ⟨b,o,none⟩∧R b=some (.cells arr e fz)∧∀ (j:Nat) (w:Value),es[j]? = some w→arr[o+j]? = some w)
theorem aa.mono{α:Type}{C:cB α}[CM C]{k:Nat}{R R':ax}{v:Value}{xs:List α}(h:aa C k R v xs)(hR:aS R R'):aa C k R' v xs:=by
 obtain ⟨A,cap,es,h1,h2,hc,h3⟩:=h
 refine ⟨A,cap,es,h1,h2.mono hR,hc,λ hx=>?_⟩
 obtain ⟨b,o,arr,e,fz,g1,g2,g3⟩:=h3 hx
 exact ⟨b,o,arr,e,fz,g1,hR _ _ g2,g3⟩
theorem aa.nil{α:Type}{C:cB α}{k:Nat}{R:ax}{A:Option Addr}{cap:Nat}:aa C k R (.slice A 0 cap) []:=⟨A,cap,[],rfl,.nil,Nat.zero_le _,λ h=>absurd rfl h⟩
def eU{α:Type}(C:cB α)(k:Nat):cB (List α):=λ R xs es=>∃ v,es=[v]∧aa C k R v xs
instance {α:Type} {C:cB α} [CM C] {k:Nat}:CM (eU C k):=⟨λ hR ⟨v,h1,h2⟩=>⟨v,h1,h2.mono hR⟩,λ ⟨v,h1,A,cap,es,h2,_⟩=>by subst h1; subst h2; simp [Value.oneCell']⟩
def bB{α:Type}(C:cB α)(k e:Nat)(R:ax)(v:Value)(xs:List α)(Hs:an):Prop :=
 (∃ A,v = .slice A 0 0∧xs=[]∧Hs=[])∨∃ b cap cs es,v = .slice (some ⟨b,0,none⟩) xs.length cap∧Hs=[(b,.cells cs e (0,0))]∧cs.size=cap * k∧xs.length≤cap∧aX C k R xs es∧∀ (j:Nat) (w:Value),es[j]? = some w→cs[j]? = some w
theorem bB.mono{α:Type}{C:cB α}[CM C]{k e:Nat}{R R':ax}{v:Value}{xs:List α}{Hs:an}(h:bB C k e R v xs Hs)(hR:aS R R'):bB C k e R' v xs Hs:=by
 rcases h with h | ⟨b,cap,cs,es,h1,h2,h3,h4,h5,h6⟩
 ·exact .inl h
 ·exact .inr ⟨b,cap,cs,es,h1,h2,h3,h4,h5.mono hR,h6⟩
theorem bB.nil{α:Type}{C:cB α}{k e:Nat}{R:ax}{A:Option Addr}:bB C k e R (.slice A 0 0) [] []:=.inl ⟨A,rfl,rfl,rfl⟩
def gq{α:Type}(C:cB α)(k:Nat)(R:ax)(H:an)(v:Value)(ys:List α):Prop :=
 ∃ A cap es,v = .slice A ys.length cap∧aX C k R ys es∧(ys≠[]→∃ b o,A=some ⟨b,o,none⟩∧aQ R H b o es)
theorem aa.arg{α:Type}{C:cB α}{k:Nat}{R:ax}{H:an}{v:Value}{xs:List α}(h:aa C k R v xs):gq C k R H v xs:=by
 obtain ⟨A,cap,es,h1,h2,_,h3⟩:=h
 refine ⟨A,cap,es,h1,h2,λ hx=>?_⟩
 obtain ⟨b,o,arr,e,fz,g1,g2,g3⟩:=h3 hx
 exact ⟨b,o,g1,λ j w hj=>⟨rfl,arr,e,fz,.inl g2,g3 j w hj⟩⟩
theorem gq.lit{α:Type}{C:cB α}{k e n cap b:Nat}{R:ax}{H:an}{ys:List α}{cs:Array Value}{fz:Nat × Nat}(hm:(b,Obj.cells cs e fz)∈H)(hE:aX C k R ys cs.toList)(hn:ys.length=n):gq C k R H (.slice (some ⟨b,0,none⟩) n cap) ys:=by
 subst hn
 exact ⟨_,cap,cs.toList,rfl,hE,λ _=>⟨b,0,rfl,λ j w hj=>⟨rfl,cs,e,fz,.inr hm,by simpa using hj⟩⟩⟩
def kV(G:an→an):Prop:=∃ A D,∀ X,G X=A++(X++D)
theorem kV.set{G:an→an}(hG:kV G){b:Nat}{o o':Obj}:fa (G [(b,o)]) b o o' (G [(b,o')]):=by
 obtain ⟨A,D,h⟩:=hG
 rw [h,h]
 clear h
 induction A with
 | nil=>exact .here
 | cons p A ih=>exact .there ih
end Go.Lg
namespace Go.Lg
open Go.Conc
section
variable {P:Program} {B:Base} {main:Bool} {ae:Jd P B main} {c:Ctx} {R:ax} {H H':an} {st st':St} {o:Oper} {C:ax→an→St→Prop}
def yE(P:Program)(t:TypeId)(v:Value)(i:Int)(b n:Nat):Prop:=∀ kd,ai P (Instr.indexAt t v (.int kd i)) (.pointer (some ⟨b,n,none⟩))
theorem aa.elem{α:Type}{K:cB α}{k t e:Nat}{v:Value}{xs:List α}{i:Int}{x:α}(h:aa K k R v xs)(ht:mW P t e k)(hi:idx xs i=some x) :
  ∃ b n es,K R x es∧aQ R [] b n es∧yE P t v i b n:=by
 obtain ⟨h1,h2,h3⟩:=tG hi
 obtain ⟨A,cap,es,rfl,hE,_,hc⟩:=h
 obtain ⟨b,o,arr,e',fz,rfl,g2,g3⟩:=hc (by rintro rfl; simp at h3)
 obtain ⟨e1,f1,f2,f3⟩:=hE.at_ _ _ h3
 refine ⟨b,o+i.toNat * k,e1,f1,λ j w hj=>⟨rfl,arr,e',fz,.inl g2,?_⟩,λ kd=>?_⟩
 ·have:=g3 _ _ (f3 j w hj)
  simpa [Nat.add_assoc] using this
 ·have:=XD (P:=P) (b:=b) (m:=o) (cap:=cap) (kd:=kd) ht (j:=i.toNat) (len:=xs.length) (by omega)
  rwa [Int.toNat_of_nonneg h1] at this
theorem Ox.dJ{x y:Operand}{t:TypeId}{v:Value}{kd:IntKind}{i:Int}{b n:Nat}(au:o.op = .indexAddr t x y)(hx:bh st x=some v)(hy:bh st y=some (.int kd i))(hv:yE P t v i b n)
  (hd:bV o.dst c.n) (hs:aF (bW o.dst (.pointer (some ⟨b,n,none⟩)) st) st') (h:C R H st'):aZ P B c o R H st C :=
 Ox.mf (s:=λ ρ=>Instr.indexAt t (ρ x) (ρ y)) (by rw [au]; rfl) hd (λ ρ=>by simp only [execOp,au]) (λ ρ bf=>by rw [bf x _ hx,bf y _ hy]; exact hv kd) hs h
theorem acz{t e len k b m:Nat}{i:Int}(ht:uD P t len e k)(hi:0≤i∧i < len):yE P t (.pointer (some ⟨b,m,none⟩)) i b (m+i.toNat * k):=λ kd=>by
 have:=aED (P:=P) (b:=b) (m:=m) (kd:=kd) ht (j:=i.toNat) (by omega)
 rwa [Int.toNat_of_nonneg hi.1] at this
theorem Ox.tJ{α:Type}{K:cB α}{k:Nat}{x:Operand}{t e:TypeId}{v:Value}{xs:List α}(au:o.op = .call ⟨.builtin .len,#[x],#[t]⟩)(hx:bh st x=some v)(hl:aa K k R v xs)(ht:P.underlying t=some (.slice e))
  (hd:bV o.dst c.n) (hs:aF (bW o.dst (.int .i64 (xs.length:Int)) st) st') (h:C R H st'):aZ P B c o R H st C:=by
 obtain ⟨A,cap,es,rfl,_⟩:=hl
 exact Ox.len au hx ht hd hs h
theorem Ox.BV{α:Type}{K:cB α}{k e':Nat}{x:Operand}{t e:TypeId}{v:Value}{xs:List α}{Hs:an}(au:o.op = .call ⟨.builtin .len,#[x],#[t]⟩)(hx:bh st x=some v)(hl:bB K k e' R v xs Hs)(ht:P.underlying t=some (.slice e))
  (hd:bV o.dst c.n) (hs:aF (bW o.dst (.int .i64 (xs.length:Int)) st) st') (h:C R H st'):aZ P B c o R H st C:=by
 rcases hl with ⟨A,rfl,rfl,_⟩ | ⟨b,cap,cs,es,rfl,_⟩
 ·exact Ox.len au hx ht hd hs h
 ·exact Ox.len au hx ht hd hs h
def i64(z:Int):Int:=IntKind.wrap .i64 z
theorem MV{z:Int}(h : -9223372036854775808≤z∧z≤9223372036854775807):i64 z=z:=afW h
theorem Ox.ar{x y:Operand}{bo:BinOp}{t u:TypeId}{a b z:Int}{kd:IntKind}(au:o.op = .binOp bo t x y u)(hx:bh st x=some (.int kd a))(hy:bh st y=some (.int kd b))(hr:Qc bo a b=some z)
  (hd:bV o.dst c.n) (hs:aF (bW o.dst (.int kd (kd.wrap z)) st) st') (h:C R H st'):aZ P B c o R H st C :=
 Ox.mf (s:=λ ρ=>do eqGuard bo t x y (ρ x) (ρ y); binOp bo t (ρ x) (ρ y)) (by rw [au]; rfl) hd (λ ρ=>by simp only [execOp,au]) (λ ρ bf=>by
  rw [bf x _ hx,bf y _ hy]
  refine ai.bind (F7 _ _ _ _ _ _ _ _) ?_
  cases bo <;> simp only [Qc,Option.some.injEq,reduceCtorEq] at hr <;> subst hr <;> simp only [binOp,ne_eq,not_true_eq_false,if_false,Op.intArith] <;> exact ai.pure _) hs h
def FX(kd:IntKind)(a b:Int):Option Int:=if b < 0 then none else some (kd.wrap (a * 2 ^ (min b.toNat kd.bits)))
def nh(kd:IntKind)(a b:Int):Option Int:=if b < 0 then none else some (a.fdiv (2 ^ (min b.toNat kd.bits)))
theorem Ox.shl{x y:Operand}{t u:TypeId}{a b z:Int}{kd yk:IntKind}(au:o.op = .binOp .shl t x y u)(hx:bh st x=some (.int kd a))(hy:bh st y=some (.int yk b))(hr:FX kd a b=some z)
  (hd:bV o.dst c.n) (hs:aF (bW o.dst (.int kd z) st) st') (h:C R H st'):aZ P B c o R H st C :=
 Ox.mf (s:=λ ρ=>do eqGuard .shl t x y (ρ x) (ρ y); binOp .shl t (ρ x) (ρ y)) (by rw [au]; rfl) hd (λ ρ=>by simp only [execOp,au]) (λ ρ bf=>by
  rw [bf x _ hx,bf y _ hy]
  refine ai.bind (F7 _ _ _ _ _ _ _ _) ?_
  unfold FX at hr
  split at hr
  ·cases hr
  ·cases hr; simp only [binOp,Op.shift,if_false, *]; exact ai.pure _) hs h
theorem Ox.shr{x y:Operand}{t u:TypeId}{a b z:Int}{kd yk:IntKind}(au:o.op = .binOp .shr t x y u)(hx:bh st x=some (.int kd a))(hy:bh st y=some (.int yk b))(hr:nh kd a b=some z)
  (hd:bV o.dst c.n) (hs:aF (bW o.dst (.int kd z) st) st') (h:C R H st'):aZ P B c o R H st C :=
 Ox.mf (s:=λ ρ=>do eqGuard .shr t x y (ρ x) (ρ y); binOp .shr t (ρ x) (ρ y)) (by rw [au]; rfl) hd (λ ρ=>by simp only [execOp,au]) (λ ρ bf=>by
  rw [bf x _ hx,bf y _ hy]
  refine ai.bind (F7 _ _ _ _ _ _ _ _) ?_
  unfold nh at hr
  split at hr
  ·cases hr
  ·cases hr; simp only [binOp,Op.shift,if_false, *]; exact ai.pure _) hs h
def gh(bo:BinOp)(kd:IntKind)(a b:Int):Option Int :=
 let a:=BitVec.ofInt kd.bits a
 let b:=BitVec.ofInt kd.bits b
 match bo with
 | .and=>some (kd.wrap (a &&& b).toNat)
 | .or=>some (kd.wrap (a ||| b).toNat)
 | .xor=>some (kd.wrap (a ^^^ b).toNat)
 | .andNot=>some (kd.wrap (a &&& ~~~b).toNat)
 | _=>none
theorem Ox.bits{x y:Operand}{bo:BinOp}{t u:TypeId}{a b z:Int}{kd:IntKind}(au:o.op = .binOp bo t x y u)(hx:bh st x=some (.int kd a))(hy:bh st y=some (.int kd b))(hr:gh bo kd a b=some z)
  (hd:bV o.dst c.n) (hs:aF (bW o.dst (.int kd z) st) st') (h:C R H st'):aZ P B c o R H st C :=
 Ox.mf (s:=λ ρ=>do eqGuard bo t x y (ρ x) (ρ y); binOp bo t (ρ x) (ρ y)) (by rw [au]; rfl) hd (λ ρ=>by simp only [execOp,au]) (λ ρ bf=>by
  rw [bf x _ hx,bf y _ hy]
  refine ai.bind (F7 _ _ _ _ _ _ _ _) ?_
  cases bo <;> simp only [gh,Option.some.injEq,reduceCtorEq] at hr <;> subst hr <;> simp only [binOp,ne_eq,not_true_eq_false,if_false,Op.intBits] <;> exact ai.pure _) hs h
def aae:BinOp→ByteArray→ByteArray→Option Bool
 | .eql,x,y=>some (x.toList == y.toList)
 | .neq,x,y=>some (!(x.toList == y.toList))
 | _,_,_=>none
theorem aEC(op:BinOp)(t:TypeId)(x y:Operand)(a b:ByteArray):ai P (eqGuard op t x y (.string a) (.string b)) ():=by
 unfold eqGuard
 cases op <;> exact ai.pure _
theorem Ox.aaf{x y:Operand}{bo:BinOp}{t u:TypeId}{a b:ByteArray}{r:Bool}(au:o.op = .binOp bo t x y u)(hx:bh st x=some (.string a))(hy:bh st y=some (.string b))(hr:aae bo a b=some r)
  (hd:bV o.dst c.n) (hs:aF (bW o.dst (.bool r) st) st') (h:C R H st'):aZ P B c o R H st C :=
 Ox.mf (s:=λ ρ=>do eqGuard bo t x y (ρ x) (ρ y); binOp bo t (ρ x) (ρ y)) (by rw [au]; rfl) hd (λ ρ=>by simp only [execOp,au]) (λ ρ bf=>by
  rw [bf x _ hx,bf y _ hy]
  refine ai.bind (aEC _ _ _ _ _ _) ?_
  cases bo <;> simp only [aae,Option.some.injEq,reduceCtorEq] at hr <;> subst hr <;> simp only [binOp,Op.stringOp] <;> exact ai.pure _) hs h
def Hc:BinOp→Bool→Bool→Option Bool
 | .eql,x,y=>some (x == y)
 | .neq,x,y=>some (!(x == y))
 | _,_,_=>none
theorem aEB(op:BinOp)(t:TypeId)(x y:Operand)(a b:Bool):ai P (eqGuard op t x y (.bool a) (.bool b)) ():=by
 unfold eqGuard
 cases op <;> exact ai.pure _
theorem aEy{t:TypeId}(ht:P.underlying t=some .bool)(a b:Bool):ai P (Op.equal t (.bool a) (.bool b)) (a == b):=by
 unfold Op.equal Op.maxDepth
 rw [Op.equalIn]
 exact ai.bind (ai.underlying ht) (ai.pure _)
theorem Ox.aad{x y:Operand}{bo:BinOp}{t u:TypeId}{a b r:Bool}(au:o.op = .binOp bo t x y u)(hx:bh st x=some (.bool a))(hy:bh st y=some (.bool b))(ht:P.underlying t=some .bool)(hr:Hc bo a b=some r)
  (hd:bV o.dst c.n) (hs:aF (bW o.dst (.bool r) st) st') (h:C R H st'):aZ P B c o R H st C :=
 Ox.mf (s:=λ ρ=>do eqGuard bo t x y (ρ x) (ρ y); binOp bo t (ρ x) (ρ y)) (by rw [au]; rfl) hd (λ ρ=>by simp only [execOp,au]) (λ ρ bf=>by
  rw [bf x _ hx,bf y _ hy]
  refine ai.bind (aEB _ _ _ _ _ _) ?_
  cases bo <;> simp only [Hc,Option.some.injEq,reduceCtorEq] at hr <;> subst hr <;> simp only [binOp] <;> exact ai.bind (aEy ht a b) (ai.pure _)) hs h
theorem Ox.uL{x y:Operand}{bo:BinOp}{t u:TypeId}{a b:Array Value}{q:Bool}(au:o.op = .binOp bo t x y u)(hx:bh st x=some (.agg a))(hy:bh st y=some (.agg b))(hg:P.eqGuardType P.depth t=false)(hq:ai P (Op.equal t (.agg a) (.agg b)) q){r:Bool}(hr:Hc bo q true=some r)
  (hd:bV o.dst c.n) (hs:aF (bW o.dst (.bool r) st) st') (h:C R H st'):aZ P B c o R H st C :=
 Ox.mf (s:=λ ρ=>do eqGuard bo t x y (ρ x) (ρ y); binOp bo t (ρ x) (ρ y)) (by rw [au]; rfl) hd (λ ρ=>by simp only [execOp,au]) (λ ρ bf=>by
  rw [bf x _ hx,bf y _ hy]
  have hgd:ai P (eqGuard bo t x y (.agg a) (.agg b)) ():=by
   unfold eqGuard
   cases bo <;> simp only [Hc,reduceCtorEq] at hr <;> exact ai.bind ai.program (ai.bind ai.program (by simp only [hg]; exact ai.pure _))
  refine ai.bind hgd ?_
  cases bo <;> simp only [Hc,Option.some.injEq,reduceCtorEq] at hr <;> subst hr <;> simp only [binOp]
  ·exact ai.bind hq (by cases q <;> exact ai.pure _)
  ·exact ai.bind hq (by cases q <;> exact ai.pure _)) hs h
def pX:Int→List Int→Int
 | x,[]=>x
 | x,y::r=>pX (if y > x then y else x) r
def vE:Int→List Int→Int
 | x,[]=>x
 | x,y::r=>vE (if y < x then y else x) r
theorem afe{kd:IntKind}:∀ (l:List Int) (x:Int),ai P ((l.map (Value.int kd)).foldlM Builtin.max2 (.int kd x)) (.int kd (pX x l))
 | [],x=>ai.pure _
 | y::r,x=>by
  simp only [List.map_cons,List.foldlM_cons,pX]
  exact ai.bind (a:=.int kd (if y > x then y else x)) (ai.pure _) (afe r _)
theorem aff{kd:IntKind}:∀ (l:List Int) (x:Int),ai P ((l.map (Value.int kd)).foldlM Builtin.min2 (.int kd x)) (.int kd (vE x l))
 | [],x=>ai.pure _
 | y::r,x=>by
  simp only [List.map_cons,List.foldlM_cons,vE]
  exact ai.bind (a:=.int kd (if y < x then y else x)) (ai.pure _) (aff r _)
theorem Ox.max{xs:Array Operand}{ts:Array TypeId}{kd:IntKind}{a:Int}{l:List Int}(au:o.op = .call ⟨.builtin .max,xs,ts⟩)(hx:iD st xs.toList=some (.int kd a::l.map (Value.int kd)))
  (hd:bV o.dst c.n) (hs:aF (bW o.dst (.int kd (pX a l)) st) st') (h:C R H st'):aZ P B c o R H st C :=
 Ox.val (by rw [au]; rfl) hd (λ ρ bf=>by
  simp only [execOp,au]
  refine ai.bind (a:=⟨.builtin .max ts o.type (xs.map λ | .const _=>true | _=>false),xs.map ρ⟩) (ai.pure _) ?_
  simp only [invoke,builtin,Builtin.max_]
  have e:(xs.map ρ).toList = .int kd a::l.map (Value.int kd):=by simpa using AH bf _ _ hx
  rw [e]
  exact ai.bind (afe l a) (ai.pure _)) hs h
theorem Ox.min{xs:Array Operand}{ts:Array TypeId}{kd:IntKind}{a:Int}{l:List Int}(au:o.op = .call ⟨.builtin .min,xs,ts⟩)(hx:iD st xs.toList=some (.int kd a::l.map (Value.int kd)))
  (hd:bV o.dst c.n) (hs:aF (bW o.dst (.int kd (vE a l)) st) st') (h:C R H st'):aZ P B c o R H st C :=
 Ox.val (by rw [au]; rfl) hd (λ ρ bf=>by
  simp only [execOp,au]
  refine ai.bind (a:=⟨.builtin .min ts o.type (xs.map λ | .const _=>true | _=>false),xs.map ρ⟩) (ai.pure _) ?_
  simp only [invoke,builtin,Builtin.min_]
  have e:(xs.map ρ).toList = .int kd a::l.map (Value.int kd):=by simpa using AH bf _ _ hx
  rw [e]
  exact ai.bind (aff l a) (ai.pure _)) hs h
theorem Ox.aju{x:Operand}{t u:TypeId}{kd ks k0:IntKind}{a:Int}(au:o.op = .convert t u x)(hx:bh st x=some (.int ks a))(ht:P.underlying t=some (.int k0))(hu:P.underlying u=some (.int kd))
  (hd:bV o.dst c.n) (hs:aF (bW o.dst (.int kd (kd.wrap a)) st) st') (h:C R H st'):aZ P B c o R H st C :=
 Ox.mf (s:=λ ρ=>convert t u (ρ x)) (by rw [au]; rfl) hd (λ ρ=>by simp only [execOp,au]) (λ ρ bf=>by
  rw [bf x _ hx]
  unfold convert
  refine ai.bind (ai.underlying ht) (ai.bind (ai.underlying hu) ?_)
  exact ai.pure _) hs h
theorem Hd{α:Type}{xs ys:List α}{lo hi:Int}(h:oN xs lo hi=some ys):0≤lo∧lo≤hi∧hi≤xs.length∧ys=(xs.take hi.toNat).drop lo.toNat:=by
 unfold oN at h
 split at h
 ·cases h; rename_i h; exact ⟨h.1,h.2.1,h.2.2,rfl⟩
 ·cases h
def Je(st:St):Option Operand→Option Int
 | none=>some 0
 | some x=>match bh st x with | some (.int _ i)=>some i | _=>none
def HR(st:St)(n:Nat):Option Operand→Option Int
 | none=>some n
 | some x=>match bh st x with | some (.int _ i)=>some i | _=>none
theorem OK{kd:IntKind}{i:Int}{y:Nat}{cd:BoundsCode}(h:0≤i∧i≤y):ai P (Instr.sliceBound (.int kd i) y cd) i.toNat:=by
 unfold Instr.sliceBound
 refine ai.bind (a:=(kd,i)) (ai.pure _) ?_
 simp only [h,and_self,if_true]
 exact ai.pure _
theorem OL{ρ:Operand→Value}(bf:Knows st ρ){len cap:Nat}{lo hi:Option Operand}{l h:Int}(hl:Je st lo=some l)(hh:HR st len hi=some h)(hb:0≤l∧l≤h∧h≤len)(hc:len≤cap) :
  ai P (Instr.sliceBounds true len cap (lo.map ρ) (hi.map ρ) none) (l.toNat,h.toNat,cap):=by
 have h1:(lo=none∧l=0)∨∃ x kd,lo=some x∧ρ x = .int kd l:=by
  cases lo with
  | none=>simp only [Je,Option.some.injEq] at hl; exact .inl ⟨rfl,hl.symm⟩
  | some x =>
   simp only [Je] at hl
   cases hx:bh st x with
   | none=>simp [hx] at hl
   | some v =>
    cases v <;> simp [hx] at hl
    subst hl
    exact .inr ⟨x,_,rfl,bf x _ hx⟩
 have h2:(hi=none∧h=len)∨∃ x kd,hi=some x∧ρ x = .int kd h:=by
  cases hi with
  | none=>simp only [HR,Option.some.injEq] at hh; exact .inl ⟨rfl,hh.symm⟩
  | some x =>
   simp only [HR] at hh
   cases hx:bh st x with
   | none=>simp [hx] at hh
   | some v =>
    cases v <;> simp [hx] at hh
    subst hh
    exact .inr ⟨x,_,rfl,bf x _ hx⟩
 unfold Instr.sliceBounds
 rcases h1 with ⟨rfl,rfl⟩ | ⟨x,kx,rfl,hx⟩ <;> rcases h2 with ⟨rfl,rfl⟩ | ⟨y,ky,rfl,hy⟩ <;> simp only [Option.map_none,Option.map_some, *]
 ·exact ai.bind (a:=cap) (ai.pure _) (ai.bind (a:=(len:Int).toNat) (by rw [Int.toNat_natCast]; exact ai.pure _) (ai.bind (a:=(0:Int).toNat) (ai.pure _) (ai.pure _)))
 ·exact ai.bind (a:=cap) (ai.pure _) (ai.bind (a:=h.toNat) (OK ⟨by omega,by omega⟩) (ai.bind (a:=(0:Int).toNat) (ai.pure _) (ai.pure _)))
 ·exact ai.bind (a:=cap) (ai.pure _) (ai.bind (a:=(len:Int).toNat) (by rw [Int.toNat_natCast]; exact ai.pure _) (ai.bind (a:=l.toNat) (OK ⟨by omega,by omega⟩) (ai.pure _)))
 ·exact ai.bind (a:=cap) (ai.pure _) (ai.bind (a:=h.toNat) (OK ⟨by omega,by omega⟩) (ai.bind (a:=l.toNat) (OK ⟨by omega,by omega⟩) (ai.pure _)))
end
end Go.Lg
namespace Go.Lg
open Go.Conc
theorem CJ:∀ (vs:List Value) (cs:Array Value) (o j:Nat),o+vs.length≤cs.size→(fL cs o vs)[j]? = if o≤j∧j < o+vs.length then vs[j - o]? else cs[j]?
 | [],cs,o,j,_=>by
  simp only [fL,List.length_nil,Nat.add_zero]
  rw [if_neg (by omega)]
 | v::r,cs,o,j,h=>by
  simp only [List.length_cons] at h
  simp only [fL]
  rw [CJ r _ (o+1) j (by simp; omega)]
  by_cases h1:o+1≤j∧j < o+1+r.length
  ·rw [if_pos h1,if_pos (by simp only [List.length_cons]; omega)]
   have:j - o=(j - (o+1))+1:=by omega
   rw [this]; simp
  ·rw [if_neg h1]
   by_cases h2:o=j
   ·subst h2
    rw [if_pos (by simp only [List.length_cons]; omega)]
    rw [Array.getElem?_setIfInBounds_self_of_lt (by omega)]
    simp
   ·rw [if_neg (by simp only [List.length_cons]; omega),Array.getElem?_setIfInBounds_ne h2]
structure sI (P:Program) (t e k:Nat):Prop where
 sl:P.underlying t=some (.slice e)
 size:ai P (sizeOf e) k
 info:∃ i,P.info? e=some i∧i.bytes≤65536
 zero:∃ z,ai P (zeroValue e) z∧z.cells.size=k
section
variable {P:Program} {B:Base} {main:Bool} {ae:Jd P B main} {c:Ctx} {R:ax} {H H':an} {st st':St} {o:Oper}
theorem aT.weaken{α:Type}{s:Sem α}{K K':α→ax→an→Prop}(h:aT P B R H s K)(hk:∀ a R' H',K a R' H'→∃ cC dY,(∀ w,Fits B R' H' w→fF B R' H' w cC dY w)∧K' a cC dY):aT P B R H s K':=by
 intro w hw
 obtain ⟨a,w',R',H',h1,h2,h3,h4⟩:=h w hw
 obtain ⟨cC,dY,g1,g2⟩:=hk a R' H' h4
 exact ⟨a,w',cC,dY,h1,h2,h3.trans (g1 w' h3.fits),g2⟩
theorem aT.firstCells{α:Type}{K:cB α}{k:Nat}{u:Value}{ys:List α}{Q:Array Value→ax→an→Prop}(hu:gq K k R H u ys)(hQ:∀ es:List Value,aX K k R ys es→Q es.toArray R H):aT P B R H (Builtin.firstCells k ys.length u) Q:=by
 obtain ⟨A,cap,es,rfl,hE,hc⟩:=hu
 cases ys with
 | nil =>
  have e0:es=[]:=by have:=hE.len; simpa using this
  subst e0
  cases A with
  | none=>exact aT.pure (hQ [] hE)
  | some a =>
   simp only [Builtin.firstCells,List.length_nil,Nat.zero_mul,loadCells]
   exact aT.pure (hQ [] hE)
 | cons y ys =>
  obtain ⟨b,o,rfl,pP⟩:=hc (by simp)
  simp only [Builtin.firstCells,loadCells]
  rw [← hE.len]
  exact aT.loadCellsFrom es 0 #[] (by simpa using pP) (by simpa using hQ es hE)
theorem bB.arg{α:Type}{K:cB α}{k e:Nat}{G:an→an}(hG:kV G){v:Value}{xs:List α}{Hs:an}(h:bB K k e R v xs Hs):gq K k R (G Hs) v xs:=by
 rcases h with ⟨A,rfl,rfl,_⟩ | ⟨b,cap,cs,es,rfl,rfl,h3,h4,h5,h6⟩
 ·exact ⟨A,0,[],rfl,.nil,λ h=>absurd rfl h⟩
 ·refine ⟨_,cap,es,rfl,h5,λ _=>⟨b,0,rfl,λ j w hj=>⟨rfl,cs,e,(0,0),.inr ?_,by simpa using h6 j w hj⟩⟩⟩
  obtain ⟨A,D,y3⟩:=hG
  rw [y3]; simp
theorem aBF{n m:Nat}(h:m < n)(hn:n≤16777216):Builtin.nextslicecap n m≤67108864:=by
 unfold Builtin.nextslicecap
 split
 ·omega
 ·split
  ·omega
  ·have:∀ (r c:Nat),c≤16777216→Builtin.growBy n r c≤67108864:=by
    intro r
    induction r with
    | zero=>intro c hc; simp only [Builtin.growBy]; omega
    | succ r ih =>
     intro c hc
     simp only [Builtin.growBy]
     split
     ·omega
     ·rename_i eP
      by_cases h2:c+(c+768) / 4≤16777216
      ·exact ih _ h2
      ·
       cases r with
       | zero=>simp only [Builtin.growBy]; omega
       | succ r=>simp only [Builtin.growBy]; rw [if_pos (by omega)]; omega
   exact this 4 m (by omega)
theorem aT.append{α:Type}{K:cB α}[CM K]{k t e xT T:Nat}{G:an→an}(hG:kV G){v u:Value}{xs ys:List α}{Hs:an}{dx:TypeDesc}(ht:sI P t e k)(VS:P.underlying xT=some dx)(Sm:∀ kd,dx ≠ .int kd)
  (hO:bB K k e R v xs Hs) (hu:gq K k R (G Hs) u ys) (hl:xs.length+ys.length≤16777216) {Q:Value→ax→an→Prop} (hk:∀ v' dR,bB K k e R v' (xs++ys) dR→Q v' R (G dR)) :
  aT P B R (G Hs) (Builtin.append_ #[t,xT] T #[v,u]) Q:=by
 obtain ⟨A2,aMd,es2,hu2⟩:=id hu
 have hv:∃ base cap,v = .slice base xs.length cap:=by
  rcases hO with ⟨A,rfl,rfl,_⟩ | ⟨b,cap,cs,es,rfl,_⟩
  ·exact ⟨A,0,rfl⟩
  ·exact ⟨_,cap,rfl⟩
 obtain ⟨base,cap,rfl⟩:=hv
 obtain ⟨i,hi,anY⟩:=ht.info
 obtain ⟨z,hz,hzs⟩:=ht.zero
 have hlen:ai P (Builtin.lenOf u) ys.length:=by rw [hu2.1]; exact ai.pure _
 have run:aT P B R (G Hs) (do
   let Cz:=xs.length+ys.length
   if Cz≤cap then do
    let new ← Builtin.firstCells k ys.length u
    if let some a:=base then storeCells (a.add (xs.length * k)) new.toList
    Pure.pure (Value.slice base Cz cap)
   else do
    if (Cz:Int) > IntKind.i64.max∧(false=true∨(← typeInfo e).bytes=0) then runtimePanic (.error "growslice: len out of range")
    if Builtin.nextslicecap Cz cap * (← typeInfo e).bytes > 2 ^ 48 then (if false=true then runtimePanic (.error "growslice: len out of range") else do
     if !(← Builtin.mayShare k xs.length ys.length base u) then mark .noRoom
     unsupported (.resourceLimit "append: a slice or a string whose bytes no memory bears"))
    let zN ← Go.choose (Question.appendCap Cz cap e)
    askRoom (zN * (← typeInfo e).bytes)
    let old ← Builtin.firstCells k xs.length (.slice base xs.length cap)
    let new ← Builtin.firstCells k ys.length u
    let rest:=Builtin.zeroCells (← zeroValue e).cells (zN - Cz)
    Pure.pure (Value.slice (some (← newRow e (old++new++rest))) Cz zN)) Q:=by
  dsimp only
  by_cases hc:xs.length+ys.length≤cap
  ·rw [if_pos hc]
   refine aT.bind (aT.firstCells hu λ es hE=>?_)
   rcases hO with ⟨A,e1,rfl,rfl⟩ | ⟨b,aMc,cs,AU,e1,rfl,h3,h4,h5,h6⟩
   ·injection e1 with e1 e2 e3
    subst e1; subst e3
    have hy:ys=[]:=by simpa using hc
    subst hy
    have e0:es=[]:=by have:=hE.len; simpa using this
    subst e0
    have key:Q (.slice base ([]:List α).length 0) R (G []):=hk _ [] (.inl ⟨base,rfl,by simp,rfl⟩)
    cases base with
    | none=>exact aT.bind (aT.pure (aT.pure key))
    | some a=>exact aT.bind (aT.pure (aT.pure key))
   ·injection e1 with e1 _ e3
    subst e1; subst e3
    dsimp only
    rw [show (⟨b,0,none⟩:Addr).add (xs.length * k)=⟨b,0+xs.length * k,none⟩ from rB _ _ _,Nat.zero_add]
    refine aT.given λ dL=>aT.bind (aT.Of es cs (xs.length * k) 0 (G [(b,.cells cs e (0,0))]) (G [(b,.cells (fL cs (xs.length * k) es) e (0,0))]) hE.one ?_ (by simpa using kV.set hG) dL (aT.pure ?_))
    ·rw [h3,hE.len,Nat.add_zero,← Nat.add_mul]; exact Nat.mul_le_mul_right k hc
    ·have wQ:xs.length * k+es.length≤cs.size:=by rw [h3,hE.len,← Nat.add_mul]; exact Nat.mul_le_mul_right k hc
     refine hk _ _ (.inr ⟨b,cap,fL cs (xs.length * k) es,AU++es,by rw [List.length_append],rfl,by rw [J0]; exact h3,by rw [List.length_append]; exact hc,h5.append hE,λ j w hj=>?_⟩)
     rw [CJ es cs _ _ wQ]
     by_cases SH:j < AU.length
     ·rw [List.getElem?_append_left SH] at hj
      rw [if_neg (by rw [← h5.len]; omega)]
      exact h6 j w hj
     ·rw [List.getElem?_append_right (by omega)] at hj
      have:=(List.getElem?_eq_some_iff.1 hj).1
      rw [if_pos (by rw [← h5.len]; omega),← h5.len]
      exact hj
  ·rw [if_neg hc]
   have hnb:Builtin.nextslicecap (xs.length+ys.length) cap * i.bytes≤2 ^ 48:=by
    have h1:=aBF (n:=xs.length+ys.length) (m:=cap) (by omega) hl
    calc _≤67108864 * 65536:=Nat.mul_le_mul h1 anY
     _≤2 ^ 48:=by decide
   have hni:¬ (((xs.length+ys.length:Nat):Int) > IntKind.i64.max∧(false=true∨i.bytes=0)):=by
    intro h
    have:IntKind.i64.max=9223372036854775807:=by decide
    omega
   refine ai.eN (ai.typeInfo hi) ?_
   rw [if_neg hni]
   refine ai.eN (ai.typeInfo hi) ?_
   rw [if_neg (by omega)]
   refine (aT.bind (aT.choose λ tape=>ai.eN (ai.typeInfo hi) (aT.bind ?_)))
   have anX:∀ (n:Nat) (Q':Unit→ax→an→Prop),Q' () R (G Hs)→aT P B R (G Hs) (askRoom n) Q':=by
    intro n Q' hq
    unfold askRoom
    split
    ·exact aT.aBs hq
    ·exact aT.pure hq
   refine anX _ _ ?_
   simp only [Question.forced,Bool.false_eq_true,if_false,Question.cut]
   generalize wM:xs.length+ys.length+tape % (2 ^ 63 - (xs.length+ys.length))=zN
   refine aT.bind (aT.firstCells (bB.arg hG hO) λ AU hEx=>aT.bind (aT.firstCells hu λ LZ hEy=>ai.eN hz ?_))
   simp only [newRow]
   refine aT.bind (aT.bind (aT.weaken (aT.new (K:=λ r R' H'=>R'=R∧H'=(r,.cells (AU.toArray++LZ.toArray++Builtin.zeroCells z.cells (zN - (xs.length+ys.length))) e (0,0))::G Hs) λ r _ _=>⟨rfl,rfl⟩) λ r R' H' hrh=>?_))
   obtain ⟨rfl,rfl⟩:=hrh
   refine ⟨R',G [(r,.cells (AU.toArray++LZ.toArray++Builtin.zeroCells z.cells (zN - (xs.length+ys.length))) e (0,0))],λ w hw=>?_,aT.pure (aT.pure (hk _ _ (.inr ⟨r,zN,_,AU++LZ,by rw [List.length_append],rfl,?_,by rw [List.length_append]; omega,hEx.append hEy,λ j w hj=>?_⟩)))⟩
   ·obtain ⟨A,D,y3⟩:=hG
    rw [y3,y3] at *
    have h1:=Xy (H':=A++(Hs++((r,.cells (AU.toArray++LZ.toArray++Builtin.zeroCells z.cells (zN - (xs.length+ys.length))) e (0,0))::D))) (by simpa using List.perm_middle (l₁:=A++Hs)) hw
    refine h1.trans (Oo ?_ h1.fits)
    exact List.Sublist.append_left (List.sublist_append_right _ _) _
   ·simp only [Array.size_append,List.size_toArray,hEx.len,hEy.len,Builtin.zeroCells,Array.size_map,Array.size_range,hzs]
    rw [← Nat.add_mul,← Nat.add_mul]
    congr 1; omega
   ·have:=(List.getElem?_eq_some_iff.1 hj).1
    rw [Array.getElem?_append_left (by simpa using this)]
    simpa using hj
 unfold Builtin.append_
 refine ai.eN (ai.underlying ht.sl) (ai.eN ht.size (ai.eN (ai.underlying VS) (ai.eN (a:=false) (by cases dx <;> first | exact ai.pure _ | exact absurd rfl (Sm _)) ?_)))
 exact ai.eN hlen run
theorem Ox.append{α:Type}{K:cB α}[CM K]{k t e xT:Nat}(G:an→an){x y:Operand}{v u:Value}{xs ys zs:List α}{Hs:an}{dx:TypeDesc}{C:ax→an→St→Prop}(au:o.op = .call ⟨.builtin .append,#[x,y],#[t,xT]⟩)(hx:bh st x=some v)(hy:bh st y=some u)
  (ht:sI P t e k) (VS:P.underlying xT=some dx) (Sm:∀ kd,dx ≠ .int kd) (hG:kV G) (hO:bB K k e R v xs Hs) (hu:gq K k R (G Hs) u ys) (hl:eJ xs ys=some zs) (hd:bV o.dst c.n)
  (hC:∀ v' dR,bB K k e R v' zs dR→∃ st',aF (bW o.dst v' st) st'∧C R (G dR) st'):aZ P B c o R (G Hs) st C:=by
 obtain ⟨tp,rfl⟩:=aiD hl
 refine ⟨by rw [au]; rfl,hd,λ ρ bf=>?_⟩
 simp only [execOp,au]
 refine ai.eN (a:=⟨.builtin .append #[t,xT] o.type (#[x,y].map λ | .const _=>true | _=>false),#[x,y].map ρ⟩) (ai.pure _) ?_
 simp only [invoke,builtin]
 have e:(#[x,y].map ρ)=#[v,u]:=by simp [bf x _ hx,bf y _ hy]
 rw [e]
 refine aT.bind (aT.append hG ht VS Sm hO hu tp λ v' dR L7=>aT.pure ?_)
 obtain ⟨st',hs,h⟩:=hC v' dR L7
 exact ⟨v',.inl rfl,st',hs,h⟩
theorem U.k6{α:Type}{K:cB α}[CM K]{k e:Nat}{todo:List Item}(G:an→an)(hG:kV G){v:Value}{xs:List α}{Hs H2:an}(h2:G []=H2)(hO:bB K k e R v xs Hs)(h:∀ R',aS R R'→aa K k R' v xs→U ae c R' H2 st todo):U ae c R (G Hs) st todo:=by
 subst h2
 rcases hO with ⟨A,rfl,rfl,rfl⟩ | ⟨b,cap,cs,es,rfl,rfl,h3,h4,h5,h6⟩
 ·exact h R (aS.refl R) .nil
 ·obtain ⟨A,D,y3⟩:=hG
  rw [y3] at h ⊢
  refine U.perm (H':=(b,.cells cs e (0,0))::(A++([]++D))) (by simpa using List.perm_middle.symm) (U.freeze λ R' hR hb=>h R' hR ?_)
  exact ⟨_,cap,es,rfl,h5.mono hR,h4,λ _=>⟨b,0,cs,e,(0,0),rfl,hb,λ j w hj=>by simpa using h6 j w hj⟩⟩
theorem U.pM{α:Type}{K:cB α}[CM K]{k e b n:Nat}{todo:List Item}(G:an→an)(hG:kV G){H2:an}(h2:G []=H2){ys:List α}{cs:Array Value}(hE:aX K k R ys cs.toList)(hn:ys.length=n)(h:∀ R',aS R R'→aa K k R' (.slice (some ⟨b,0,none⟩) n n) ys→U ae c R' H2 st todo):U ae c R (G [(b,.cells cs e (0,0))]) st todo:=by
 subst hn h2
 obtain ⟨A,D,y3⟩:=hG
 rw [y3] at h ⊢
 refine U.perm (H':=(b,.cells cs e (0,0))::(A++([]++D))) (by simpa using List.perm_middle.symm) (U.freeze λ R' hR hb=>h R' hR ?_)
 exact ⟨_,ys.length,cs.toList,rfl,hE.mono hR,Nat.le_refl _,λ _=>⟨b,0,cs,e,(0,0),rfl,hb,λ j w hj=>by simpa using hj⟩⟩
theorem bB.lit{α:Type}{K:cB α}{k e b n:Nat}{ys:List α}{cs:Array Value}(hE:aX K k R ys cs.toList)(hn:ys.length=n):bB K k e R (.slice (some ⟨b,0,none⟩) n n) ys [(b,.cells cs e (0,0))]:=by
 subst hn
 exact .inr ⟨b,_,cs,cs.toList,rfl,rfl,by simpa using hE.len,Nat.le_refl _,hE,λ j w hj=>by simpa using hj⟩
end
end Go.Lg
namespace Go.Lg
open Go.Conc
theorem aF.one{dst:Option Tmp}{d:Tmp}{v:Value}{st:St}(h:dst=some d):aF (bW dst v st) [(d,v)]:=by
 subst h
 intro t u hu
 simp only [List.lookup_cons,List.lookup_nil] at hu
 simp only [bW,List.lookup_cons]
 split at hu
 ·exact hu
 ·cases hu
theorem fa.skip{Ks H H':an}{b:Nat}{o o':Obj}(h:fa H b o o' H'):fa (Ks++H) b o o' (Ks++H'):=by
 induction Ks with
 | nil=>exact h
 | cons p Ks ih=>exact .there ih
theorem aQ.box{R:ax}{H:an}{b:Nat}{e:TypeId}{fz:Nat × Nat}{L:List Value}(hm:(b,Obj.cells L.toArray e fz)∈H):aQ R H b 0 L:=λ j v hj=>⟨rfl,_,e,fz,.inr hm,by simpa using hj⟩
theorem kV.id{D:an}:kV (λ X=>X++D):=⟨[],D,λ _=>rfl⟩
theorem kV.cons{p:Nat × Obj}{G:an→an}(h:kV G):kV (λ X=>p::G X):=by
 obtain ⟨A,D,h⟩:=h
 exact ⟨p::A,D,λ X=>by show p::G X=_; rw [h]; rfl⟩
theorem kV.app{L:an}{G:an→an}(h:kV G):kV (λ X=>L++G X):=by
 obtain ⟨A,D,h⟩:=h
 exact ⟨L++A,D,λ X=>by show L++G X=_; rw [h,List.append_assoc]⟩
theorem mr{place:Nat→Option (Nat × Nat)}{cells:Array Value}:Instr.fill place cells []=some cells:=rfl
theorem aCD(vc:List Value):∀ (cells:Array Value) (off j:Nat),(vc.zipIdx j).foldl (λ cs (c,i)=>cs.setIfInBounds (off+i) c) cells=fL cells (off+j) vc:=by
 induction vc with
 | nil=>intro cells off j; rfl
 | cons v r ih=>intro cells off j; simp only [List.zipIdx_cons,List.foldl_cons,fL]; rw [ih]; rfl
theorem aCE(vc cells:Array Value)(off:Nat):vc.zipIdx.foldl (λ cs (c,i)=>cs.setIfInBounds (off+i) c) cells=fL cells off vc.toList:=by
 have h:=aCD vc.toList cells off 0
 rw [Nat.add_zero] at h
 rw [← h,← Array.foldl_toList]
 simp
theorem lu{place:Nat→Option (Nat × Nat)}{cells cells' out vc:Array Value}{i off size:Nat}{v:Value}{rest:List (Nat × Value)}(hp:place i=some (off,size))(hc:v.cells=vc)
  (hs:(vc.size == size && Nat.ble (off+vc.size) cells.size)=true) (mC:fL cells off vc.toList=cells') (h:Instr.fill place cells' rest=some out):Instr.fill place cells ((i,v)::rest)=some out:=by
 subst hc
 rw [Bool.and_eq_true] at hs
 have h1:v.cells.size=size:=by simpa using hs.1
 have h2:off+v.cells.size≤cells.size:=by simpa [Nat.ble_eq] using hs.2
 simp only [Instr.fill,hp]
 rw [if_neg (by simp [h1]; omega),aCE,mC]
 exact h
theorem bj:∀ u∈([]:List Value),u.oneCell'=true:=λ _ h=>by cases h
theorem cN{v:Value}{l:List Value}(h:v.oneCell'=true)(t:∀ u∈l,u.oneCell'=true):∀ u∈v::l,u.oneCell'=true:=λ u hu=>by
 rcases List.mem_cons.1 hu with rfl | hu
 ·exact h
 ·exact t u hu
theorem br{l m:List Value}(h:∀ u∈l,u.oneCell'=true)(t:∀ u∈m,u.oneCell'=true):∀ u∈l++m,u.oneCell'=true:=λ u hu=>(List.mem_append.1 hu).elim (h u) (t u)
theorem cR{α:Type}{f:α→Value}{xs:List α}(h:∀ x,(f x).oneCell'=true):∀ u∈xs.map f,u.oneCell'=true:=λ u hu=>by
 obtain ⟨x,_,rfl⟩:=List.mem_map.1 hu
 exact h x
theorem aQ.part{R:ax}{H:an}{b o j n:Nat}{L vs:List Value}(h:aQ R H b o L)(hv:(L.drop j).take n=vs):aQ R H b (o+j) vs:=by
 intro i v hi
 subst hv
 rw [List.getElem?_take] at hi
 split at hi
 ·rw [List.getElem?_drop] at hi
  have:=h _ _ hi
  simpa [Nat.add_assoc] using this
 ·cases hi
theorem aQ.arr{α:Type}{R:ax}{H:an}{b o k:Nat}{f:α→Value}{pre post:List Value}{xs:List α}{i:Int}{x:α}(h:aQ R H b o (pre++(xs.map f++post)))(hi:idx xs i=some x)(hk:pre.length=k):Cell R H ⟨b,o+k+i.toNat * 1,none⟩ (f x):=by
 obtain ⟨_,_,h3⟩:=tG hi
 have bE:=(List.getElem?_eq_some_iff.1 h3).1
 have:=h (k+i.toNat) (f x) (by
  rw [List.getElem?_append_right (by omega),← hk,Nat.add_sub_cancel_left,List.getElem?_append_left (by simpa using bE)]
  simp [h3])
 simpa [Nat.add_assoc] using this
theorem aQ.sub{R:ax}{H H':an}{b o:Nat}{L:List Value}(h:aQ R H b o L)(hs:∀ p∈H,p∈H'):aQ R H' b o L:=λ j v hj=>by
 obtain ⟨h1,cs,e,fz,h2,h3⟩:=h j v hj
 exact ⟨h1,cs,e,fz,h2.imp id (hs _),h3⟩
theorem aQ.le{R R':ax}{H:an}{b o:Nat}{L:List Value}(h:aQ R H b o L)(hs:aS R R'):aQ R' H b o L:=λ j v hj=>by
 obtain ⟨h1,cs,e,fz,h2,h3⟩:=h j v hj
 exact ⟨h1,cs,e,fz,h2.imp (hs _ _) id,h3⟩
theorem Qf{α:Type}{f:α→Value}{pre post:List Value}{xs:List α}{i:Int}{x y:α}{k:Nat}(hi:idx xs i=some y)(hk:pre.length=k):((pre++(xs.map f++post)).toArray).setIfInBounds (k+i.toNat * 1) (f x)=(pre++((xs.set i.toNat x).map f++post)).toArray:=by
 obtain ⟨_,_,h3⟩:=tG hi
 have bE:=(List.getElem?_eq_some_iff.1 h3).1
 subst hk
 simp only [Nat.mul_one,List.setIfInBounds_toArray,List.map_set]
 congr 1
 rw [List.set_append_right _ _ (by omega),Nat.add_sub_cancel_left,List.set_append_left _ _ (by simpa using bE)]
theorem Qd{α:Type}{f:α→Value}{pre post:List Value}{xs:List α}{i:Int}{y:α}{k:Nat}(hi:idx xs i=some y)(hk:pre.length=k):Nat.blt (k+i.toNat * 1) ((pre++(xs.map f++post)).toArray).size=true:=by
 obtain ⟨_,_,h3⟩:=tG hi
 have bE:=(List.getElem?_eq_some_iff.1 h3).1
 rw [Nat.blt_eq]
 simp
 omega
theorem eS{L:List Value}{n:Nat}(h:L.length=n):(L.drop 0).take n=L:=by subst h; simp
theorem aEc{pre mid post:List Value}{k n:Nat}(hk:pre.length=k)(hn:mid.length=n):((pre++(mid++post)).drop k).take n=mid:=by subst hk; subst hn; simp
theorem oo{P:Program}{α:Type}{t e len k b m:Nat}{i:Int}{xs:List α}{x:α}(ht:uD P t len e k)(hl:xs.length=len)(hi:idx xs i=some x):yE P t (.pointer (some ⟨b,m,none⟩)) i b (m+i.toNat * k):=by
 obtain ⟨h1,h2,_⟩:=tG hi
 exact acz ht ⟨h1,by omega⟩
theorem aa.one{α:Type}{C:cB α}{k:Nat}{R:ax}{v:Value}{xs:List α}(h:aa C k R v xs):v.oneCell'=true:=by
 obtain ⟨A,cap,es,rfl,_⟩:=h; rfl
theorem aa.cells{α:Type}{C:cB α}{k:Nat}{R:ax}{v:Value}{xs:List α}(h:aa C k R v xs):v.cells=#[v]:=by
 obtain ⟨A,cap,es,rfl,_⟩:=h; rfl
theorem bB.cells{α:Type}{C:cB α}{k e:Nat}{R:ax}{v:Value}{xs:List α}{Hs:an}(h:bB C k e R v xs Hs):v.cells=#[v]:=by
 rcases h with ⟨A,rfl,_⟩ | ⟨b,cap,cs,es,rfl,_⟩ <;> rfl
theorem bB.one{α:Type}{C:cB α}{k e:Nat}{R:ax}{v:Value}{xs:List α}{Hs:an}(h:bB C k e R v xs Hs):v.oneCell'=true:=by
 rcases h with ⟨A,rfl,_⟩ | ⟨b,cap,cs,es,rfl,_⟩ <;> rfl
theorem aX.cons{α:Type}{C:cB α}{k:Nat}{R:ax}{x:α}{xs:List α}{e1 es:List Value}(h:C R x e1)(hk:e1.length=k)(g:aX C k R xs es):aX C k R (x::xs) (e1++es):=(aX.single h hk).append g
theorem aX.le{α:Type}{C:cB α}{k:Nat}{R:ax}{xs:List α}{es fs:List Value}(h:aX C k R xs es)(e:es=fs):aX C k R xs fs:=by subst e; exact h
section
variable {P:Program} {B:Base} {main:Bool} {ae:Jd P B main} {c:Ctx} {R:ax} {H H':an} {st st':St} {o:Oper} {k:List Item}
inductive oK (P:Program) (R:ax) (H:an) (st:St):List ResultVar→List Value→Prop
 | nil:oK P R H st [] []
 | tmp {t:Tmp} {v:Value} {r:List ResultVar} {vs:List Value}:st.lookup t=some v→oK P R H st r vs→oK P R H st (.tmp t::r) (v::vs)
 | one {a:Tmp} {t:TypeId} {b o:Nat} {v:Value} {r:List ResultVar} {vs:List Value}:st.lookup a=some (.pointer (some ⟨b,o,none⟩))→gS P t→Cell R H ⟨b,o,none⟩ v→oK P R H st r vs→oK P R H st (.cell a t::r) (v::vs)
 | agg {a:Tmp} {t:TypeId} {b o n:Nat} {us:List Value} {r:List ResultVar} {vs:List Value}:st.lookup a=some (.pointer (some ⟨b,o,none⟩))→mT P t n→us.length=n→aQ R H b o us→oK P R H st r vs→oK P R H st (.cell a t::r) (.agg us.toArray::vs)
theorem aDr{tmps:Array Value}{n:Nat}(ht:cQ n st tmps):∀ {l:List ResultVar} {vs:List Value},oK P R H st l vs→∀ {K:List Value→ax→an→Prop},K vs R H →
  aT P B R H (l.mapM (m:=Sem) λ
   | .tmp t=>pure (tmps.getD t undef)
   | .cell a t=>do loadVar t (← asAddr (tmps.getD a undef))) K:=by
 intro l vs h
 induction h with
 | nil=>intro K hk; exact aT.pure hk
 | @tmp t v r vs hl _ ih =>
  intro K hk
  rw [List.mapM_cons]
  have:tmps.getD t undef=v:=by simp [Array.getD_eq_getD_getElem?,ht.2 t v hl]
  refine ai.eN (a:=v) (by show ai P (pure (tmps.getD t undef)) v; rw [this]; exact ai.pure _) (aT.bind (ih (K:=λ us R' H'=>K (v::us) R' H') hk |>.mono λ us R' H' h=>aT.pure h))
 | @one a t b o v r vs hl MH hc _ ih =>
  intro K hk
  rw [List.mapM_cons]
  have:tmps.getD a undef = .pointer (some ⟨b,o,none⟩):=by simp [Array.getD_eq_getD_getElem?,ht.2 a _ hl]
  simp only [this]
  refine aT.bind (ai.eN (a:=⟨b,o,none⟩) (ai.pure _) ?_)
  unfold loadVar
  refine ai.eN MH.1 (aT.load hc (aT.bind (ih (K:=λ us R' H'=>K (v::us) R' H') hk |>.mono λ us R' H' h=>aT.pure h)))
 | @agg a t b o n us r vs hl MH hn hc _ ih =>
  intro K hk
  rw [List.mapM_cons]
  have:tmps.getD a undef = .pointer (some ⟨b,o,none⟩):=by simp [Array.getD_eq_getD_getElem?,ht.2 a _ hl]
  simp only [this]
  refine aT.bind (ai.eN (a:=⟨b,o,none⟩) (ai.pure _) ?_)
  unfold loadVar
  refine ai.eN MH.1 ?_
  simp only [if_true]
  subst hn
  refine ai.eN MH.2 (aT.bind (aT.loadCellsFrom us 0 #[] (by simpa using hc) (aT.pure ?_)))
  simp only [List.append_toArray,List.nil_append]
  exact aT.bind (ih (K:=λ vs R' H'=>K (.agg us.toArray::vs) R' H') hk |>.mono λ us R' H' h=>aT.pure h)
theorem N7{fn:Func}{tmps:Array Value}{n:Nat}{vs:List Value}(ht:cQ n st tmps)(h:oK P R H st fn.results.toList vs):aT P B R H (results fn tmps) λ v R' H'=>v=gZ vs∧R'=R∧H'=H:=by
 unfold results
 rw [← Array.toArray_toList (xs:=fn.results),List.mapM_toArray]
 refine aT.bind (aT.map (aDr ht h ?_))
 cases vs with
 | nil=>exact aT.pure ⟨rfl,rfl,rfl⟩
 | cons v r=>cases r with
  | nil=>exact aT.pure ⟨rfl,rfl,rfl⟩
  | cons _ _=>exact aT.pure ⟨rfl,rfl,rfl⟩
theorem U.CK{fr:Frame}{cs:List Frame}{f:FuncId}{n:Nat}{fn:Func}{vs:List Value}(hf:P.funcs[f]? = some fn)(hr:oK P R H st fn.results.toList vs)(hj:ae.J R H (aY (fr.finish (gZ vs)) cs)) :
  U ae ⟨f,.normal,none,n,[],fr::cs⟩ R H st (.code .ret::k):=λ tmps ht=>by
 refine Jd.ctl (g':=aY { (aW ⟨f,.normal,none,n,[],fr::cs⟩ tmps (.code .ret::k)) with mode:=.returning } (fr::cs)) rfl (λ w=>by simp [stepG,stepG.exec,aY,aW])
  (ae.step rfl λ w hw=>?_)
 obtain ⟨v,w',R',H',h1,h2,h3,rfl,rfl,rfl⟩:=N7 (P:=P) ht hr w hw
 refine ⟨aY (fr.finish (gZ vs)) cs,w',seen P f ((results fn tmps).events P w #[]),R',H',?_,λ e he=>h2 e (mem_seen he),h3,hj⟩
 simp [stepG,unwind,doReturn,aY,aW,hf,h1,GStep.after]
theorem U.LL{fr:Frame}{cs:List Frame}{f:FuncId}{n:Nat}{fn:Func}{vs:List Value}(hf:P.funcs[f]? = some fn)(hr:oK P R H st fn.results.toList vs)(hj:ae.J R H (aY (fr.finish (gZ vs)) cs)) :
  U ae ⟨f,.normal,none,n,[],fr::cs⟩ R H st []:=λ tmps ht=>by
 refine Jd.ctl (g':=aY { (aW ⟨f,.normal,none,n,[],fr::cs⟩ tmps []) with mode:=.returning } (fr::cs)) rfl (λ w=>by simp [stepG,stepG.exec,aY,aW])
  (ae.step rfl λ w hw=>?_)
 obtain ⟨v,w',R',H',h1,h2,h3,rfl,rfl,rfl⟩:=N7 (P:=P) ht hr w hw
 refine ⟨aY (fr.finish (gZ vs)) cs,w',seen P f ((results fn tmps).events P w #[]),R',H',?_,λ e he=>h2 e (mem_seen he),h3,hj⟩
 simp [stepG,unwind,doReturn,aY,aW,hf,h1,GStep.after]
end
section
variable {P:Program} {B:Base} {main:Bool}
abbrev nq(α:Type):=ax→α→Value→Prop
def oF(ae:Jd P B main)(R:ax)(H:an){α β:Type}(A:nq α)(D:nq β)(v:Value)(f:α→Option β):Prop :=
 ∃ gL first captured,v = .func (.func gL) first captured∧bl P gL∧∀ R' H',aS R R'→(∀ p∈H,p∈H')→∀ x r va,A R' x va→f x=some r→aB ae gL (first++#[va]++captured) R' H' λ v cC dY=>aS R' cC∧dY=H'∧D cC r v
def VI(kd:IntKind):nq Int:=λ _ x v=>v = .int kd x
def VB:nq Bool:=λ _ x v=>v = .bool x
def jD{α:Type}(C:cB α):nq α:=λ R x v=>∃ es,v = .agg (List.toArray es)∧C R x es
theorem oF.up{ae:Jd P B main}{R R':ax}{H H':an}{α β:Type}{A:nq α}{D:nq β}{v:Value}{f:α→Option β}(h:oF ae R H A D v f)(hR:aS R R')(hH:∀ p∈H,p∈H'):oF ae R' H' A D v f:=by
 obtain ⟨gL,first,captured,h1,h2,h3⟩:=h
 exact ⟨gL,first,captured,h1,h2,λ cC dY Hr hH'=>h3 cC dY (hR.trans Hr) (λ p hp=>hH' p (hH p hp))⟩
end
end Go.Lg
namespace Go.Lg
open Go.Conc
theorem nQ{h l1 l2:an}(p:List.Sublist l1 l2):List.Sublist (h++l1) (h++l2):=List.Sublist.append (List.Sublist.refl _) p
theorem cy{h l1 l2:an}(p:List.Sublist l1 l2):List.Sublist l1 (h++l2):=by
 induction h with
 | nil=>exact p
 | cons a h ih=>exact ih.cons a
def nm{α:Type}(f:α→Value)(n:Nat):cB (List α):=λ _ xs es=>xs.length=n∧es=[]++(xs.map f++[])
theorem cO{vs:List Value}{cs:Array Value}(h:vs.length=cs.size):fL cs 0 vs=vs.toArray:=by
 have hs:(fL cs 0 vs).size=cs.size:=J0 _ _ _
 apply Array.ext_getElem?
 intro j
 rw [CJ vs cs 0 j (by omega)]
 by_cases hj:j < vs.length
 ·rw [if_pos (by omega)]; simp
 ·rw [if_neg (by omega)]
  rw [Array.getElem?_eq_none (by omega)]
  simp [Nat.not_lt.1 hj]
section
variable {P:Program} {B:Base} {main:Bool} {ae:Jd P B main} {c:Ctx} {R:ax} {H:an} {st:St} {k:List Item} {o:Oper} {C:ax→an→St→Prop}
theorem U.ay4{S Q ρ:Type}{body:S→Option (S ⊕ Q)}{s0:S}{code:Code}{g:Q→Option ρ}{r:ρ}(hM:(Go.Lg.bD body s0).bind g=some r)(I:S→ax→an→St→Prop)(h0:I s0 R H st)(hb:∀ s R H st,I s R H st→∀ x,body s=some x→(∀ s',x=Sum.inl s'→∀ R' H' st',I s' R' H' st'→U ae c R' H' st' (.inLoop code::k))→(∀ p,x=(Sum.inr p)→g p=some r)→U ae c R H st (.code code :: .inLoop code::k)):U ae c R H st (.code (.loop code)::k):=U.bD hM I (λ s R H st hI x hx again out=>hb s R H st hI x hx again (λ _ hp=>out _ hp)) h0
theorem U.gF{S P0 ρ:Type}{body:S→Option (S ⊕ P0)}{s0:S}{code:Code}{f0:P0→Option ρ}{r:ρ}{k0:List Item}(hM:(Go.Lg.bD body s0).bind f0=some r)(I:S→ax→an→St→Prop)(E0:P0→ax→an→St→Prop)(VY:Nat)(_:exitTo VY k=some k0)(h0:I s0 R H st)(uY:∀ p R H st,E0 p R H st→f0 p=some r→U ae c R H st k0)(hb:∀ s R H st,I s R H st→∀ x,body s=some x→(∀ s',x=Sum.inl s'→∀ R' H' st',I s' R' H' st'→U ae c R' H' st' (.inLoop code::k))→(∀ p,x=(Sum.inr p)→∀ R' H' st',E0 p R' H' st'→U ae c R' H' st' k0)→U ae c R H st (.code code :: .inLoop code::k)):U ae c R H st (.code (.loop code)::k):=U.bD hM I (λ s R H st hI x hx again out=>hb s R H st hI x hx again (λ p hp R' H' st' hE=>uY p R' H' st' hE (out _ hp))) h0
theorem U.fJ{S P0 Q ρ:Type}{body:S→Option (S ⊕ (P0 ⊕ Q))}{s0:S}{code:Code}{f0:P0→Option ρ}{g:Q→Option ρ}{r:ρ}{k0:List Item}(hM:(Go.Lg.bD body s0).bind (Sum.elim f0 g)=some r)(I:S→ax→an→St→Prop)(E0:P0→ax→an→St→Prop)(VY:Nat)(_:exitTo VY k=some k0)(h0:I s0 R H st)(uY:∀ p R H st,E0 p R H st→f0 p=some r→U ae c R H st k0)(hb:∀ s R H st,I s R H st→∀ x,body s=some x→(∀ s',x=Sum.inl s'→∀ R' H' st',I s' R' H' st'→U ae c R' H' st' (.inLoop code::k))→(∀ p,x=(Sum.inr (Sum.inl p))→∀ R' H' st',E0 p R' H' st'→U ae c R' H' st' k0)→(∀ p,x=(Sum.inr (Sum.inr p))→g p=some r)→U ae c R H st (.code code :: .inLoop code::k)):U ae c R H st (.code (.loop code)::k):=U.bD hM I (λ s R H st hI x hx again out=>hb s R H st hI x hx again (λ p hp R' H' st' hE=>uY p R' H' st' hE (out _ hp)) (λ _ hp=>out _ hp)) h0
theorem U.gW{P0 ρ:Type}{A:Option P0}{it:Item}{f0:P0→Option ρ}{r:ρ}(hM:A.bind f0=some r)(E0:P0→ax→an→St→Prop)(uY:∀ p R H st,E0 p R H st→f0 p=some r→U ae c R H st k)(hb:∀ x,A=some x→(∀ p,x=p→∀ R' H' st',E0 p R' H' st'→U ae c R' H' st' k)→U ae c R H st (it::k)):U ae c R H st (it::k):=by
 obtain ⟨x,h1,h2⟩:=aj hM
 exact hb x h1 (λ p hp R' H' st' hE=>uY p R' H' st' hE (by subst hp; exact h2))
theorem Ox.sY{α β:Type}{A:nq α}{D:nq β}{f:α→Option β}{x y:Operand}{ts:Array TypeId}{v va:Value}{a:α}{r:β}{H0:an}(h:oF ae R H0 A D v f)
  (au:o.op = .call ⟨.value x,#[y],ts⟩) (hx:bh st x=some v) (hy:bh st y=some va) (hA:A R a va) (hf:f a=some r) (hd:bV o.dst c.n) (hH:∀ p∈H0,p∈H)
  (hC:∀ w R',aS R R'→D R' r w→∃ st',aF (bW o.dst w st) st'∧C R' H st'):oJ ae c o R H st C:=by
 obtain ⟨gL,first,captured,rfl,he,hk⟩:=h
 refine Ox.fB (vs:=[va]) au rfl hx (by simp [iD,hy]) he rfl hd ((hk R H (aS.refl _) hH a r va hA hf).mono λ w R' H' h=>?_)
 obtain ⟨h1,rfl,h3⟩:=h
 exact hC w R' h1 h3
end
end Go.Lg
namespace Go.Lg
open Go.Conc
def di{α:Type}(C:cB α)(k:Nat)(R:ax)(H:an)(v:Value)(xs:List α):Prop :=
 ∃ A cap es,v = .slice A xs.length cap∧aX C k R xs es∧xs.length≤cap∧(xs≠[]→∃ b o,A=some ⟨b,o,none⟩∧aQ R H b o es)
theorem di.le{α:Type}{C:cB α}[CM C]{k:Nat}{R R':ax}{H:an}{v:Value}{xs:List α}(h:di C k R H v xs)(hR:aS R R'):di C k R' H v xs:=by
 obtain ⟨A,cap,es,h1,h2,h3,h4⟩:=h
 refine ⟨A,cap,es,h1,h2.mono hR,h3,λ hx=>?_⟩
 obtain ⟨b,o,g1,g2⟩:=h4 hx
 exact ⟨b,o,g1,g2.le hR⟩
theorem di.sub{α:Type}{C:cB α}{k:Nat}{R:ax}{H H':an}{v:Value}{xs:List α}(h:di C k R H v xs)(hs:∀ p∈H,p∈H'):di C k R H' v xs:=by
 obtain ⟨A,cap,es,h1,h2,h3,h4⟩:=h
 refine ⟨A,cap,es,h1,h2,h3,λ hx=>?_⟩
 obtain ⟨b,o,g1,g2⟩:=h4 hx
 exact ⟨b,o,g1,g2.sub hs⟩
theorem aa.rd{α:Type}{C:cB α}{k:Nat}{R:ax}{H:an}{v:Value}{xs:List α}(h:aa C k R v xs):di C k R H v xs:=by
 obtain ⟨A,cap,es,h1,h2,hc,h3⟩:=h
 refine ⟨A,cap,es,h1,h2,hc,λ hx=>?_⟩
 obtain ⟨b,o,arr,e,fz,g1,g2,g3⟩:=h3 hx
 exact ⟨b,o,g1,λ j w hj=>⟨rfl,arr,e,fz,.inl g2,g3 j w hj⟩⟩
theorem bB.rd{α:Type}{C:cB α}{k e:Nat}{R:ax}{H:an}{v:Value}{xs:List α}{Hs:an}(h:bB C k e R v xs Hs)(hs:∀ p∈Hs,p∈H):di C k R H v xs:=by
 rcases h with ⟨A,rfl,rfl,rfl⟩ | ⟨b,cap,cs,es,rfl,rfl,h3,h4,h5,h6⟩
 ·exact ⟨A,0,[],rfl,.nil,Nat.le_refl _,λ h=>absurd rfl h⟩
 ·exact ⟨_,cap,es,rfl,h5,h4,λ _=>⟨b,0,rfl,λ j w hj=>⟨rfl,cs,e,(0,0),.inr (hs _ (by simp)),by simpa using h6 j w hj⟩⟩⟩
theorem di.lit{α:Type}{C:cB α}{k e n b:Nat}{R:ax}{H:an}{ys:List α}{cs:Array Value}{fz:Nat × Nat}(hm:(b,Obj.cells cs e fz)∈H)(hE:aX C k R ys cs.toList)(hn:ys.length=n):di C k R H (.slice (some ⟨b,0,none⟩) n n) ys:=by
 subst hn
 exact ⟨_,ys.length,cs.toList,rfl,hE,Nat.le_refl _,λ _=>⟨b,0,rfl,λ j w hj=>⟨rfl,cs,e,fz,.inr hm,by simpa using hj⟩⟩⟩
theorem di.arg{α:Type}{C:cB α}{k:Nat}{R:ax}{H:an}{v:Value}{xs:List α}(h:di C k R H v xs):gq C k R H v xs:=by
 obtain ⟨A,cap,es,h1,h2,_,h3⟩:=h
 exact ⟨A,cap,es,h1,h2,h3⟩
theorem di.elem{P:Program}{α:Type}{K:cB α}{k t e:Nat}{R:ax}{H:an}{v:Value}{xs:List α}{i:Int}{x:α}(h:di K k R H v xs)(ht:mW P t e k)(hi:idx xs i=some x) :
  ∃ b n es,K R x es∧aQ R H b n es∧yE P t v i b n:=by
 obtain ⟨h1,h2,h3⟩:=tG hi
 obtain ⟨A,cap,es,rfl,hE,_,hc⟩:=h
 obtain ⟨b,o,rfl,g2⟩:=hc (by rintro rfl; simp at h3)
 obtain ⟨e1,f1,f2,f3⟩:=hE.at_ _ _ h3
 refine ⟨b,o+i.toNat * k,e1,f1,λ j w hj=>?_,λ kd=>?_⟩
 ·have:=g2 _ _ (f3 j w hj)
  simpa [Nat.add_assoc] using this
 ·have:=XD (P:=P) (b:=b) (m:=o) (cap:=cap) (kd:=kd) ht (j:=i.toNat) (len:=xs.length) (by omega)
  rwa [Int.toNat_of_nonneg h1] at this
theorem q9(a b:Nat × Obj)(l:an):List.Perm (a::b::l) (b::a::l):=List.Perm.swap _ _ _
section
variable {P:Program} {B:Base} {main:Bool} {ae:Jd P B main} {c:Ctx} {R:ax} {H H':an} {st st':St} {o:Oper} {C:ax→an→St→Prop} {k:List Item}
theorem Ox.Wa{α:Type}{K:cB α}{k:Nat}{x:Operand}{t e:TypeId}{v:Value}{xs:List α}{H0:an}(au:o.op = .call ⟨.builtin .len,#[x],#[t]⟩)(hx:bh st x=some v)(hl:di K k R H0 v xs)(ht:P.underlying t=some (.slice e))
  (hd:bV o.dst c.n) (hs:aF (bW o.dst (.int .i64 (xs.length:Int)) st) st') (h:C R H st'):aZ P B c o R H st C:=by
 obtain ⟨A,cap,es,rfl,_⟩:=hl
 exact Ox.len au hx ht hd hs h
theorem U.cut{it:Item}(E:ax→an→St→Prop)(h1:∀ R' H' st',E R' H' st'→U ae c R' H' st' k)(h2:(∀ R' H' st',E R' H' st'→U ae c R' H' st' k)→U ae c R H st (it::k)):U ae c R H st (it::k):=h2 h1
theorem Any.aEl{S:Nat→an}{ops:Array Oper}{n:Nat}{rem ra rb:List Nat}{i j:Nat}{a b:Oper}(ha:ops[i]? = some a)(hb:ops[j]? = some b)(mD:rem.filter (nM ops rem)=[i,j])(IJ:cJ ops st a=some true)(IK:cJ ops st b=some true)(dL:rem.Nodup)(Bo:rem.erase i=ra)(S5:rem.erase j=rb)
  (h1:oJ ae c a R H st λ R' H' st'=>aS R R'∧(∀ p∈S i,p∈H→p∈H')∧Any ae c S ops k n ra R' H' st')
  (h2:oJ ae c b R H st λ R' H' st'=>aS R R'∧(∀ p∈S j,p∈H→p∈H')∧Any ae c S ops k n rb R' H' st'):Any ae c S ops k (n+1) rem R H st:=by
 subst Bo S5
 refine ⟨dL,λ tmps ht=>.inr ⟨(λ e=>by rw [e] at mD; cases mD),λ _ x hx VT=>?_⟩⟩
 have:x∈rem.filter (nM ops rem):=List.mem_filter.2 ⟨hx,VT⟩
 rw [mD] at this
 simp only [List.mem_cons,List.not_mem_nil,or_false] at this
 rcases this with rfl | rfl
 ·exact h1.Fw ha (kz ht IJ) ht
 ·exact h2.Fw hb (kz ht IK) ht
theorem Any.Oj{S:Nat→an}{ops:Array Oper}{n:Nat}{rem ra rb rc:List Nat}{i j l:Nat}{a b d:Oper}(ha:ops[i]? = some a)(hb:ops[j]? = some b)(hd:ops[l]? = some d)(mD:rem.filter (nM ops rem)=[i,j,l])(IJ:cJ ops st a=some true)(IK:cJ ops st b=some true)(hwd:cJ ops st d=some true)(dL:rem.Nodup)(Bo:rem.erase i=ra)(S5:rem.erase j=rb)(hrc:rem.erase l=rc)
  (h1:oJ ae c a R H st λ R' H' st'=>aS R R'∧(∀ p∈S i,p∈H→p∈H')∧Any ae c S ops k n ra R' H' st')
  (h2:oJ ae c b R H st λ R' H' st'=>aS R R'∧(∀ p∈S j,p∈H→p∈H')∧Any ae c S ops k n rb R' H' st')
  (h3:oJ ae c d R H st λ R' H' st'=>aS R R'∧(∀ p∈S l,p∈H→p∈H')∧Any ae c S ops k n rc R' H' st'):Any ae c S ops k (n+1) rem R H st:=by
 subst Bo S5 hrc
 refine ⟨dL,λ tmps ht=>.inr ⟨(λ e=>by rw [e] at mD; cases mD),λ _ x hx VT=>?_⟩⟩
 have:x∈rem.filter (nM ops rem):=List.mem_filter.2 ⟨hx,VT⟩
 rw [mD] at this
 simp only [List.mem_cons,List.not_mem_nil,or_false] at this
 rcases this with rfl | rfl | rfl
 ·exact h1.Fw ha (kz ht IJ) ht
 ·exact h2.Fw hb (kz ht IK) ht
 ·exact h3.Fw hd (kz ht hwd) ht
end
end Go.Lg
namespace Go.Lg
open Go.Conc
section
variable {P:Program} {d:Nat} {xs ys:Array Value}
inductive Gl (P:Program) (d:Nat) (xs ys:Array Value):List Field→Bool→Prop
 | nil:Gl P d xs ys [] true
 | cons {f:Field} {rest:List Field} {a b:Value} {r r':Bool}:(f.name == "_")=false→ai P (part f.type xs f.offset) a→ai P (part f.type ys f.offset) b→ai P (Op.equalIn d f.type a b) r→Gl P d xs ys rest r'→Gl P d xs ys (f::rest) (r && r')
def qR(r:Bool):Option Bool × Unit:=(if r then none else some false,())
theorem aEA{fs:List Field}{r:Bool}(h:Gl P d xs ys fs r) :
  ai P (forIn fs ((none:Option Bool),()) λ f (_:Option Bool × Unit) =>
      if f.name ≠ "_" then do
       let a ← part f.type xs f.offset
       let b ← part f.type ys f.offset
       let q ← Op.equalIn d f.type a b
       if (!q)=true then pure (ForInStep.done (some false,())) else pure (ForInStep.yield (none,()))
      else pure (ForInStep.yield (none,()))) (qR r):=by
 induction h with
 | nil=>rw [List.forIn_nil]; exact ai.pure _
 | @cons f rest a b r r' hn ha hb hq _ ih =>
  have wT:f.name ≠ "_":=by simpa using hn
  rw [List.forIn_cons]
  simp only [wT,ne_eq,not_false_iff,if_true,bind_assoc]
  refine ai.bind ha (ai.bind hb (ai.bind hq ?_))
  cases r with
  | false=>simp only [Bool.not_false,if_true,pure_bind,Bool.false_and]; exact ai.pure _
  | true =>
   simp only [Bool.not_true,Bool.false_eq_true,if_false,pure_bind,Bool.true_and]
   simpa only [ne_eq] using ih
theorem Kj{t:TypeId}{fields:Array Field}{r:Bool}(hu:P.underlying t=some (.struct fields))(cL:P.stoodInHeld t=false)(h:Gl P d xs ys fields.toList r):ai P (Op.equalIn (d+1) t (.agg xs) (.agg ys)) r:=by
 rw [Op.equalIn]
 refine ai.bind (ai.underlying hu) ?_
 dsimp only
 refine ai.bind ai.program ?_
 simp only [cL,Bool.false_eq_true,if_false]
 rw [← Array.forIn_toList]
 refine ai.bind (aEA h) ?_
 cases r <;> exact ai.pure _
theorem um{t:TypeId}{kd:IntKind}{a b:Int}(hu:P.underlying t=some (.int kd)):ai P (Op.equalIn (d+1) t (.int kd a) (.int kd b)) (a == b):=by
 rw [Op.equalIn]
 refine ai.bind (ai.underlying hu) ?_
 simp only [if_true]
 exact ai.pure _
theorem Ki{t:TypeId}{a b:Bool}(hu:P.underlying t=some .bool):ai P (Op.equalIn (d+1) t (.bool a) (.bool b)) (a == b):=by
 rw [Op.equalIn]
 exact ai.bind (ai.underlying hu) (ai.pure _)
inductive Gk (P:Program) (d:Nat) (elem:TypeId) (n:Nat) (xs ys:Array Value):List Nat→Bool→Prop
 | nil:Gk P d elem n xs ys [] true
 | cons {i:Nat} {rest:List Nat} {a b:Value} {r r':Bool}:ai P (part elem xs (i * n)) a→ai P (part elem ys (i * n)) b→ai P (Op.equalIn d elem a b) r→Gk P d elem n xs ys rest r'→Gk P d elem n xs ys (i::rest) (r && r')
theorem aEz{elem:TypeId}{n:Nat}{is:List Nat}{r:Bool}(h:Gk P d elem n xs ys is r) :
  ai P (forIn is ((none:Option Bool),()) λ i (_:Option Bool × Unit)=>do
      let a ← part elem xs (i * n)
      let b ← part elem ys (i * n)
      let q ← Op.equalIn d elem a b
      if (!q)=true then pure (ForInStep.done (some false,())) else pure (ForInStep.yield (none,()))) (qR r):=by
 induction h with
 | nil=>rw [List.forIn_nil]; exact ai.pure _
 | @cons i rest a b r r' ha hb hq _ ih =>
  rw [List.forIn_cons]
  simp only [bind_assoc]
  refine ai.bind ha (ai.bind hb (ai.bind hq ?_))
  cases r with
  | false=>simp only [Bool.not_false,if_true,pure_bind,Bool.false_and]; exact ai.pure _
  | true =>
   simp only [Bool.not_true,Bool.false_eq_true,if_false,pure_bind,Bool.true_and]
   exact ih
theorem aEw{n len:Nat}{t elem:TypeId}{r:Bool}(hu:P.underlying t=some (.array len elem))(hs:ai P (sizeOf elem) n)(h:Gk P d elem n xs ys (List.range len) r):ai P (Op.equalIn (d+1) t (.agg xs) (.agg ys)) r:=by
 rw [Op.equalIn]
 refine ai.bind (ai.underlying hu) ?_
 dsimp only
 refine ai.bind hs ?_
 rw [Std.Legacy.Range.forIn_eq_forIn_range']
 simp only [Std.Legacy.Range.size,Nat.sub_zero,Nat.add_sub_cancel,Nat.div_one]
 rw [← List.range_eq_range']
 refine ai.bind (aEz h) ?_
 cases r <;> exact ai.pure _
end
end Go.Lg
namespace Go.Lg
open Go.Conc
def gP(s:ByteArray):List Int:=s.data.toList.map λ b=>(b.toNat:Int)
def uk(s:ByteArray)(i:Int):Option Int:=idx (gP s) i
section
variable {P:Program} {B:Base} {main:Bool} {ae:Jd P B main} {c:Ctx} {R:ax} {H H':an} {st st':St} {o:Oper} {C:ax→an→St→Prop} {k:List Item}
theorem Ox.MY{x y:Operand}{t:TypeId}{s:ByteArray}{kd:IntKind}{i z:Int}(au:o.op = .index t x y)(hx:bh st x=some (.string s))(hy:bh st y=some (.int kd i))(ht:P.underlying t=some .string)(hz:uk s i=some z)
  (hd:bV o.dst c.n) (hs:aF (bW o.dst (.int .u8 z) st) st') (h:C R H st'):aZ P B c o R H st C :=
 Ox.mf (s:=λ ρ=>Instr.index t (ρ x) (ρ y)) (by rw [au]; rfl) hd (λ ρ=>by simp only [execOp,au]) (λ ρ bf=>by
  rw [bf x _ hx,bf y _ hy]
  obtain ⟨h1,h2,h3⟩:=tG hz
  unfold gP at h3
  rw [List.getElem?_map] at h3
  obtain ⟨b,hb,rfl⟩:=Option.map_eq_some_iff.1 h3
  unfold Instr.index
  refine ai.bind (a:=(kd,i)) (ai.pure _) (ai.bind (ai.underlying ht) ?_)
  have e:(if 0≤i then s[i.toNat]? else none)=some b:=by
   rw [if_pos h1]
   have fY:s.data[i.toNat]? = some b:=by simpa using hb
   rw [← fY]
   rfl
  simp only [e]
  exact ai.pure _) hs h
def Yo(P:Program)(t:TypeId)(z:Array Value):Prop:=jf P t z∧∃ n e m,P.underlying t=some (.array n e)∧ai P (sizeOf e) m
theorem Ox.Lt{t:TypeId}{z:Array Value}(au:o.op = .build t #[])(ht:Yo P t z)
  (hd:bV o.dst c.n) (hs:aF (bW o.dst (.agg z) st) st') (h:C R H st'):aZ P B c o R H st C :=
 Ox.mf (s:=λ _=>Instr.build t #[]) (by rw [au]; rfl) hd (λ ρ=>by simp [execOp,au]) (λ ρ bf=>by
  obtain ⟨⟨z0,hz,rfl⟩,n,e,m,h1,h2⟩:=ht
  unfold Instr.build
  exact ai.bind hz (ai.bind (ai.underlying h1) (ai.bind h2 (ai.pure _)))) hs h
def Du(P:Program)(t _:Nat)(v:Value)(len l h:Int)(v':Value):Prop :=
 ∀ (ρ:Operand→Value) (st:St) (x:Operand) (lo hi:Option Operand),Knows st ρ→ρ x=v→Je st lo=some l→HR st len.toNat hi=some h→ai P (Instr.sliceAt t (ρ x) (lo.map ρ) (hi.map ρ) none) v'
theorem di.cut{α:Type}{K:cB α}{k t e:Nat}{xs ys:List α}{v:Value}{l h:Int}{H0:an}(hS:di K k R H0 v xs)(ht:mW P t e k)(hc:oN xs l h=some ys):∃ v',di K k R H0 v' ys∧Du P t k v (xs.length:Int) l h v':=by
 obtain ⟨h1,h2,h3,rfl⟩:=Hd hc
 obtain ⟨A,cap,es,rfl,hE,wM,hm⟩:=hS
 refine ⟨(.slice (if cap=l.toNat then A else A.map (·.add (l.toNat * k))) (h.toNat - l.toNat) (cap - l.toNat)),?_,?_⟩
 ·have zi:((xs.take h.toNat).drop l.toNat).length=h.toNat - l.toNat:=by
   simp only [List.length_drop,List.length_take]
   omega
  refine ⟨(if cap=l.toNat then A else A.map (·.add (l.toNat * k))),cap - l.toNat,(es.take (h.toNat * k)).drop (l.toNat * k),by rw [zi],hE.take.drop,by rw [zi]; omega,λ eH=>?_⟩
  have bE:l.toNat < h.toNat:=by
   apply Classical.byContradiction
   intro hn
   apply eH
   apply List.eq_nil_of_length_eq_zero
   simp only [List.length_drop,List.length_take]
   omega
  obtain ⟨b,o',rfl,g2⟩:=hm (by rintro rfl; simp at h3; omega)
  refine ⟨b,o'+l.toNat * k,?_,λ j w hj=>?_⟩
  ·rw [if_neg (by omega)]; simp [rB]
  ·rw [List.getElem?_drop,List.getElem?_take] at hj
   split at hj
   ·have:=g2 _ _ hj
    simpa [Nat.add_assoc] using this
   ·cases hj
 ·intro ρ st x lo hi bf hx hl hh
  rw [Int.toNat_natCast] at hh
  rw [hx]
  unfold Instr.sliceAt
  refine ai.bind (ai.underlying ht.1) ?_
  unfold Instr.slice
  refine ai.bind (ai.underlying ht.1) (ai.bind (OL bf hl hh ⟨h1,h2,h3⟩ wM) (ai.bind ht.2 (ai.pure _)))
theorem aa.cut{α:Type}{K:cB α}{k t e:Nat}{xs ys:List α}{v:Value}{l h:Int}(hS:aa K k R v xs)(ht:mW P t e k)(hc:oN xs l h=some ys):∃ v',aa K k R v' ys∧Du P t k v (xs.length:Int) l h v':=by
 obtain ⟨h1,h2,h3,rfl⟩:=Hd hc
 obtain ⟨A,cap,es,rfl,hE,wM,hm⟩:=hS
 refine ⟨(.slice (if cap=l.toNat then A else A.map (·.add (l.toNat * k))) (h.toNat - l.toNat) (cap - l.toNat)),?_,?_⟩
 ·have zi:((xs.take h.toNat).drop l.toNat).length=h.toNat - l.toNat:=by
   simp only [List.length_drop,List.length_take]
   omega
  refine ⟨(if cap=l.toNat then A else A.map (·.add (l.toNat * k))),cap - l.toNat,(es.take (h.toNat * k)).drop (l.toNat * k),by rw [zi],hE.take.drop,by rw [zi]; omega,λ eH=>?_⟩
  have bE:l.toNat < h.toNat:=by
   apply Classical.byContradiction
   intro hn
   apply eH
   apply List.eq_nil_of_length_eq_zero
   simp only [List.length_drop,List.length_take]
   omega
  obtain ⟨b,o',arr,e',fz,rfl,g2,g3⟩:=hm (by rintro rfl; simp at h3; omega)
  refine ⟨b,o'+l.toNat * k,arr,e',fz,?_,g2,λ j w hj=>?_⟩
  ·rw [if_neg (by omega)]; simp [rB]
  ·rw [List.getElem?_drop,List.getElem?_take] at hj
   split at hj
   ·have:=g3 _ _ hj
    simpa [Nat.add_assoc] using this
   ·cases hj
 ·intro ρ st x lo hi bf hx hl hh
  rw [Int.toNat_natCast] at hh
  rw [hx]
  unfold Instr.sliceAt
  refine ai.bind (ai.underlying ht.1) ?_
  unfold Instr.slice
  refine ai.bind (ai.underlying ht.1) (ai.bind (OL bf hl hh ⟨h1,h2,h3⟩ wM) (ai.bind ht.2 (ai.pure _)))
theorem Ox.He{x:Operand}{t k:Nat}{lo hi:Option Operand}{v v':Value}{len l h:Int}(au:o.op = .slice t x lo hi none)(hx:bh st x=some v)(hl:Je st lo=some l)(hh:HR st len.toNat hi=some h)(hc:Du P t k v len l h v')(hd:bV o.dst c.n)
  (hs:aF (bW o.dst v' st) st') (hC:C R H st'):aZ P B c o R H st C :=
 Ox.mf (s:=λ ρ=>Instr.sliceAt t (ρ x) (lo.map ρ) (hi.map ρ) none) (by rw [au]; rfl) hd (λ ρ=>by simp only [execOp,au]; rfl) (λ ρ bf=>hc ρ st x lo hi bf (bf x _ hx) hl hh) hs hC
theorem bB.QT{α:Type}{K:cB α}{k t e:Nat}{v:Value}{xs:List α}{Hs:an}{i:Int}{x:α}(h:bB K k e R v xs Hs)(ht:mW P t e k)(hi:idx xs i=some x) :
  ∃ b cs es,K R x es∧Hs=[(b,.cells cs e (0,0))]∧aQ R Hs b (i.toNat * k) es∧(∀ (j:Nat) (w:Value),es[j]? = some w→cs[i.toNat * k+j]? = some w)∧yE P t v i b (i.toNat * k)∧es.length=k∧i.toNat * k+k≤cs.size ∧
   ∀ x' s5,K R x' s5→s5.length=k→bB K k e R v (xs.set i.toNat x') [(b,.cells (fL cs (i.toNat * k) s5) e (0,0))]:=by
 obtain ⟨h1,h2,h3⟩:=tG hi
 rcases h with ⟨A,rfl,rfl,rfl⟩ | ⟨b,cap,cs,es,rfl,rfl,g3,g4,g5,g6⟩
 ·simp at h3
 obtain ⟨e1,f1,f2,f3⟩:=g5.at_ _ _ h3
 have bE:i.toNat < xs.length:=(List.getElem?_eq_some_iff.1 h3).1
 have fC:i.toNat * k+k≤xs.length * k:=by
  calc i.toNat * k+k=(i.toNat+1) * k:=by rw [Nat.add_mul,Nat.one_mul]
   _≤xs.length * k:=Nat.mul_le_mul_right k bE
 have pP:xs.length * k≤cs.size:=by rw [g3]; exact Nat.mul_le_mul_right k g4
 refine ⟨b,cs,e1,f1,rfl,λ j w hj=>⟨rfl,cs,e,(0,0),.inr (by simp),g6 _ _ (f3 j w hj)⟩,λ j w hj=>g6 _ _ (f3 j w hj),λ kd=>?_,f2,by omega,λ x' s5 zn hl'=>?_⟩
 ·have:=XD (P:=P) (b:=b) (m:=0) (cap:=cap) (kd:=kd) ht (j:=i.toNat) (len:=xs.length) bE
  rw [Int.toNat_of_nonneg h1] at this
  simpa using this
 ·refine .inr ⟨b,cap,_,(es.take (i.toNat * k))++(s5++es.drop (i.toNat * k+k)),by rw [List.length_set],rfl,by rw [J0]; exact g3,by rw [List.length_set]; exact g4,?_,?_⟩
  ·have lF:=g5.len
   refine ⟨?_,λ j y hy=>?_⟩
   ·simp only [List.length_append,List.length_take,List.length_drop,List.length_set,hl',lF]
    omega
   ·rw [List.getElem?_set] at hy
    split at hy
    ·rename_i gj
     subst gj
     cases hy
     refine ⟨s5,zn,hl',λ a w hw=>?_⟩
     have ha:=(List.getElem?_eq_some_iff.1 hw).1
     rw [List.getElem?_append_right (by simp only [List.length_take]; omega)]
     simp only [List.length_take,lF]
     rw [show i.toNat * k+a - min (i.toNat * k) (xs.length * k)=a by omega,List.getElem?_append_left ha]
     exact hw
    ·rename_i gj
     obtain ⟨e2,q1,q2,q3⟩:=g5.at_ _ _ hy
     refine ⟨e2,q1,q2,λ a w hw=>?_⟩
     have ha:=(List.getElem?_eq_some_iff.1 hw).1
     rw [q2] at ha
     have hold:=q3 a w hw
     rcases Nat.lt_or_ge j i.toNat with ab0 | ti
     ·have:j * k+k≤i.toNat * k:=by
       calc j * k+k=(j+1) * k:=by rw [Nat.add_mul,Nat.one_mul]
        _≤i.toNat * k:=Nat.mul_le_mul_right k ab0
      rw [List.getElem?_append_left (by simp only [List.length_take,lF]; omega),List.getElem?_take,if_pos (by omega)]
      exact hold
     ·have:i.toNat * k+k≤j * k:=by
       calc i.toNat * k+k=(i.toNat+1) * k:=by rw [Nat.add_mul,Nat.one_mul]
        _≤j * k:=Nat.mul_le_mul_right k (by omega)
      rw [List.getElem?_append_right (by simp only [List.length_take]; omega),List.getElem?_append_right (by simp only [List.length_take,lF,hl']; omega),List.getElem?_drop]
      simp only [List.length_take,lF,hl']
      rw [show i.toNat * k+k+(j * k+a - min (i.toNat * k) (xs.length * k) - k)=j * k+a by omega]
      exact hold
  ·intro j w hj
   have lF:=g5.len
   rw [CJ s5 cs (i.toNat * k) j (by rw [hl']; omega)]
   rw [List.getElem?_append] at hj
   simp only [List.length_take,lF] at hj
   split at hj
   ·rename_i ab0
    rw [List.getElem?_take] at hj
    split at hj
    ·rw [if_neg (by omega)]
     exact g6 _ _ hj
    ·cases hj
   ·rw [List.getElem?_append] at hj
    split at hj
    ·rename_i h5 h6
     rw [if_pos (by omega),← hj]
     congr 1
     omega
    ·rename_i h5 h6
     rw [hl'] at h6
     rw [if_neg (by rw [hl']; omega)]
     rw [List.getElem?_drop,hl'] at hj
     have:=g6 _ _ hj
     rwa [show i.toNat * k+k+(j - min (i.toNat * k) (xs.length * k) - k)=j by omega] at this
theorem W8:∀ (vs ws:List Value) (cs:Array Value) (o:Nat),fL cs o (vs++ws)=fL (fL cs o vs) (o+vs.length) ws
 | [],ws,cs,o=>by simp [fL]
 | v::vs,ws,cs,o=>by
  simp only [List.cons_append,fL,List.length_cons]
  rw [W8 vs ws]
  congr 1
  omega
theorem W9:∀ (vs:List Value) (cs:Array Value) (o:Nat),(∀ j w,vs[j]? = some w→cs[o+j]? = some w)→fL cs o vs=cs
 | [],cs,o,_=>rfl
 | v::vs,cs,o,h=>by
  have h0:cs[o]? = some v:=h 0 v rfl
  have bE:=(Array.getElem?_eq_some_iff.1 h0).1
  have e:cs.setIfInBounds o v=cs:=by
   apply Array.ext_getElem?
   intro j
   by_cases hj:o=j
   ·subst hj; rw [Array.getElem?_setIfInBounds_self_of_lt bE,h0]
   ·rw [Array.getElem?_setIfInBounds_ne hj]
  simp only [fL,e]
  exact W9 vs cs (o+1) λ j w hj=>by
   have:=h (j+1) w (by simpa using hj)
   rwa [show o+(j+1)=o+1+j by omega] at this
theorem Ox.Xo{α:Type}{K:cB α}{k e t b j n:Nat}{x y:Operand}{G:an→an}{v w:Value}{xs:List α}{i:Int}{x':α}{cs:Array Value}{pre mid post vs:List Value}(hG:kV G)
  (au:o.op = .store t x y) (hx:bh st x=some (.pointer (some ⟨b,i.toNat * k+j,none⟩))) (hy:bh st y=some w) (hw:w.cells.toList=vs) (ht:ai P (sizeOf t) n) (hn:vs.length=n) (h1:∀ u∈vs,u.oneCell'=true)
  (hc:∀ (j:Nat) (w:Value),(pre++(mid++post))[j]? = some w→cs[i.toNat * k+j]? = some w) (hj:pre.length=j) (hm:mid.length=n) (hk:(pre++(mid++post)).length=k) (fC:i.toNat * k+k≤cs.size)
  (hO:∀ x' s5,K R x' s5→s5.length=k→bB K k e R v (xs.set i.toNat x') [(b,.cells (fL cs (i.toNat * k) s5) e (0,0))]) (hK:K R x' (pre++(vs++post)))
  (hd:o.dst=none) (Ia:aF st st') (h:∀ dR,bB K k e R v (xs.set i.toNat x') dR→C R (G dR) st'):aZ P B c o R (G [(b,.cells cs e (0,0))]) st C:=by
 have mC:fL cs (i.toNat * k+j) vs=fL cs (i.toNat * k) (pre++(vs++post)):=by
  rw [W8,W9 pre cs _ (λ a u ha=>hc a u (by rw [List.getElem?_append_left (List.getElem?_eq_some_iff.1 ha).1]; exact ha)),W8,hj,hn]
  rw [W9 post]
  intro a u ha
  have h2:=hc (j+n+a) u (by
   rw [List.getElem?_append_right (by omega),List.getElem?_append_right (by omega)]
   rw [show j+n+a - pre.length - mid.length=a by omega]
   exact ha)
  have bE:=(Array.getElem?_eq_some_iff.1 h2).1
  rw [CJ vs cs (i.toNat * k+j) _ (by rw [hn]; have:=hk; simp only [List.length_append] at this; omega),if_neg (by omega)]
  rwa [show i.toNat * k+(j+n+a)=i.toNat * k+j+n+a by omega] at h2
 have hlen:(pre++(vs++post)).length=k:=by
  simp only [List.length_append] at hk ⊢
  omega
 have L7:=hO x' _ hK hlen
 rw [← mC] at L7
 refine Ox.Ns (s:=λ ρ=>Instr.storeAt t (ρ x) (ρ y)) (by rw [au]; rfl) hd (λ ρ=>by simp only [execOp,au]) Ia (λ ρ bf=>?_)
 rw [bf x _ hx,bf y _ hy]
 simp only [Instr.storeAt,Instr.sureAddr]
 refine ai.eN (ai.pure _) ?_
 have atj:w.cells.size=n:=by rw [← hn,← hw]; simp
 refine aT.storeVar (cs:=cs) (e:=e) ht atj (by rw [hw]; exact h1) (by simp only [List.length_append] at hk; omega) ?_ (h _ L7)
 rw [hw]
 exact hG.set
def DV{α:Type}(xs ys:List α):List α:=ys.take xs.length++xs.drop ys.length
end
end Go.Lg
namespace Go.Lg
open Go.Conc
section
variable {P:Program} {B:Base} {main:Bool} {ae:Jd P B main} {c:Ctx} {R:ax} {H:an} {st:St} {k:List Item}
theorem aT.getLoop{l:Nat}{r:Loop}{K:Loop→ax→an→Prop}(h:(l,Obj.loop r)∈H)(hk:K r R H):aT P B R H (Instr.getLoop l) K:=by
 unfold Instr.getLoop
 exact aT.bind (aT.getObj rfl (.inr h) (aT.pure hk))
theorem fa.at_{b:Nat}{o o':Obj}{T:an}:∀ {Hs:an},fa (Hs++(b,o)::T) b o o' (Hs++(b,o')::T)
 | []=>.here
 | _::_=>.there fa.at_
def GH(ae:Jd P B main)(v:Value)(args:Array Value)(R:ax)(H:an)(Post:Value→ax→an→Prop):Prop :=
 ∃ l r,v = .func (.yield l) #[] #[]∧(l,Obj.loop r)∈H∧r.params.size=args.size ∧
  ∀ fr cs,(∀ w R' H',Post w R' H'→ae.J R' H' (aY (fr.finish w) cs)) →
   ae.J R H (aY (Frame.round l r.fn ((r.params.zip args).foldl (λ tmps (t,a)=>tmps.setIfInBounds t a) r.tmps) r.assign r.body .normal) (fr::cs))
theorem GH.mono{v:Value}{args:Array Value}{Post GB:Value→ax→an→Prop}(h:GH ae v args R H Post)(hp:∀ w R' H',Post w R' H'→GB w R' H'):GH ae v args R H GB:=by
 obtain ⟨l,r,h1,h2,h3,h4⟩:=h
 exact ⟨l,r,h1,h2,h3,λ fr cs hk=>h4 fr cs λ w R' H' hw=>hk w R' H' (hp _ _ _ hw)⟩
theorem aiE{fr:Frame}{cs:List Frame}{s:Sem Next}{w w':World}{l:Nat}{f:FuncId}{tmps:Array Value}{assign body:Code}(hk:fr.kind ≠ .early)(hr:s.run P w = .ok (.round l f tmps assign body) w') :
  stepG.apply P true fr cs none s w = .go (aY (Frame.round l f tmps assign body .normal) (fr::cs)) w' (seen P fr.fn (s.events P w #[])):=by
 have dI:(fr.kind == CallKind.early)=false:=by simpa using hk
 simp [stepG.apply,hr,aY,dI,GStep.after]
theorem U.aeS{ops:Array Oper}{i:Nat}{rest:List Nat}{o:Oper}{ca:Call}{x:Operand}{v:Value}{vs:List Value}(ho:ops[i]? = some o)(hw:cJ ops st o=some true)(hk:(c.kind == CallKind.early)=false)
  (au:o.op = .call ca) (hc:ca.callee = .value x) (hx:bh st x=some v) (ha:iD st ca.args.toList=some vs) (lE:bV o.dst c.n)
  (h:GH ae v vs.toArray R H λ w R' H'=>∃ st',aF (bW o.dst w st) st'∧U ae c R' H' st' (.inRegion ops rest::k)) :
  U ae c R H st (.inRegion ops (i::rest)::k):=by
 intro tmps ht
 obtain ⟨l,r,rfl,hl,fC,hj⟩:=h
 have jq:=ht.knows c (.inRegion ops (i::rest)::k)
 have hd:mF o.op=false:=by rw [au]; rfl
 have hs:aT P B R H (execOp (aW c tmps (.inRegion ops (i::rest)::k)).eval o) λ nx R' H'=>nx = .round l r.fn ((r.params.zip vs.toArray).foldl (λ tmps (t,a)=>tmps.setIfInBounds t a) r.tmps) r.assign r.body∧R'=R∧H'=H:=by
  simp only [execOp,au,resolve,hc,jq x _ hx,Deferred.ofValue]
  have e:ca.args.map (aW c tmps (.inRegion ops (i::rest)::k)).eval=vs.toArray:=by apply Array.ext'; simpa using AH jq _ _ ha
  refine ai.eN (a:=⟨.fn (.yield l) #[],#[]++vs.toArray⟩) (by rw [e]; exact ai.pure _) ?_
  simp only [invoke,Instr.yield]
  refine aT.bind (aT.getLoop hl ?_)
  simp only [Array.empty_append,fC,ne_eq,not_true_eq_false,if_false]
  exact aT.pure ⟨rfl,rfl,rfl⟩
 refine ae.step rfl λ w pR=>?_
 obtain ⟨nx,w',R',H',h1,h2,h3,rfl,rfl,rfl⟩:=hs w pR
 refine ⟨_,w',seen P c.fn ((execOp (aW c tmps (.inRegion ops (i::rest)::k)).eval o).events P w #[]),R',H',?_,λ e he=>h2 e (mem_seen he),h3,hj (aW c tmps (.inRegion ops (i::rest)::k)) c.cs λ u cC dY hp=>?_⟩
 ·rw [po ho (kz ht hw) hd]
  exact aiE (by simpa [aW] using hk) h1
 ·obtain ⟨st',hs',jM⟩:=hp
  rw [pK ho]
  exact jM _ ((ht.put u lE).sub hs')
structure lP (ae:Jd P B main) (R:ax) {α S:Type} (A:nq α) (v:Value) (y:α→S→Option (S × Bool)) (Inv:S→ax→an→Prop):Prop where
 fn:∃ l,v = .func (.yield l) #[] #[]
 mono:∀ {s:S} {R1 R2:ax} {Hy:an},aS R R1→aS R1 R2→Inv s R1 Hy→Inv s R2 Hy
 call:∀ (Hf:an) {R':ax} {Hy:an} {s:S} {x:α} {va:Value} {z:S × Bool},aS R R'→Inv s R' Hy→A R' x va→y x s=some z →
  GH ae v #[va] R' (Hf++Hy) λ w cC dY=>aS R' cC∧w = .bool z.2∧∃ yD,Inv z.1 cC yD∧dY=Hf++yD
theorem lP.up{R':ax}{α S:Type}{A:nq α}{v:Value}{y:α→S→Option (S × Bool)}{Inv:S→ax→an→Prop}(h:lP ae R A v y Inv)(hR:aS R R'):lP ae R' A v y Inv :=
 ⟨h.fn,λ h1 h2=>h.mono (hR.trans h1) h2,λ Hf=>λ h1=>h.call Hf (hR.trans h1)⟩
theorem lP.cells{α S:Type}{A:nq α}{v:Value}{y:α→S→Option (S × Bool)}{Inv:S→ax→an→Prop}(h:lP ae R A v y Inv):v.cells=#[v]:=by
 obtain ⟨l,rfl⟩:=h.fn; rfl
def gm{α S O:Type}(body:α→S→Option (S ⊕ O))(x:α):S ⊕ O→Option ((S ⊕ O) × Bool)
 | .inl s=>(body x s).map λ z=>(z,z.isLeft)
 | .inr _=>none
def Shape(I:ax→an→an→Prop):Prop:=∀ R T H,I R T H→∃ Hs,H=Hs++T∧∀ R' T',aS R R'→I R' T' (Hs++T')
theorem aDp{l:Nat}{jump:Option Code}{r:Loop}{Hs T:an}:aT P B R (Hs++(l,.loop r)::T) (Instr.endRound l jump) λ v R' H'=>v = .bool jump.isNone∧R'=R∧H'=Hs++(l,.loop { r with state:=if jump.isNone then .ready else .done,pending:=jump })::T:=by
 unfold Instr.endRound
 exact aT.bind (aT.getLoop (by simp) (aT.bind (aT.setObj rfl rfl fa.at_ (aT.pure ⟨rfl,rfl,rfl⟩))))
theorem aDo{l:Nat}{r:Loop}{Hs T:an}(hb:(r.state == .busy)=false):aT P B R (Hs++(l,.loop r)::T) (Instr.endLoop l) λ v R' H'=>v=r.pending∧R'=R∧H'=Hs++(l,.loop { r with state:=.exhausted })::T:=by
 unfold Instr.endLoop
 refine aT.bind (aT.getLoop (r:=r) (by simp) ?_)
 simp only [hb]
 exact aT.bind (aT.setObj rfl rfl fa.at_ (aT.pure ⟨rfl,rfl,rfl⟩))
theorem aDn{l:Nat}{r:Loop}{H':an}(hs:fa H l (.loop r) (.loop { r with state:=.busy }) H')(hr:r.state = .ready):aT P B R H (do Instr.beginRound l; pure Next.skip) λ v cC dY=>v = .skip∧cC=R∧dY=H':=by
 unfold Instr.beginRound
 refine aT.bind (aT.bind (aT.getLoop hs.mem (aT.bind (aT.setObj rfl rfl hs ?_))))
 simp only [hr]
 exact aT.pure (aT.pure ⟨rfl,rfl,rfl⟩)
theorem U.beginRound{l:Nat}{r:Loop}{H':an}(kg:c.ro=some l)(hk:(c.kind == CallKind.early)=false)(hs:fa H l (.loop r) (.loop { r with state:=.busy }) H')(hr:r.state = .ready)(h:U ae c R H' st k):U ae c R H st (.beginRound::k):=λ tmps ht=>by
 refine ae.step rfl λ w hw=>?_
 obtain ⟨v,w',R',dY,h1,h2,h3,rfl,rfl,rfl⟩:=aDn (P:=P) hs hr w hw
 refine ⟨aY (aW c tmps k) c.cs,w',seen P c.fn ((do Instr.beginRound l; pure Next.skip:Sem Next).events P w #[]),R',dY,?_,λ e he=>h2 e (mem_seen he),h3,h tmps ht⟩
 have e:=Qb (P:=P) (fr:=aW c tmps (.beginRound::k)) (cs:=c.cs) (by simpa [aW] using hk) h1
 simpa [stepG,stepG.exec,aY,aW,kg,Frame.finish] using e
def Leaves(todo:List Item)(jump:Option Code):Prop :=
 (todo=[]∧jump=none)∨(∃ k',todo = .code .ret::k'∧jump=some .ret)∨(∃ id k',todo = .code (.exit id)::k'∧exitTo id k'=none∧jump=some (.exit id))
theorem acQ{l f:Nat}{n:Nat}{cs:List Frame}{fr:Frame}{tmps:Array Value}{todo:List Item}{jump:Option Code}{r:Loop}{Hs T:an}(hl:Leaves todo jump)
  (h:ae.J R (Hs++(l,.loop { r with state:=if jump.isNone then .ready else .done,pending:=jump })::T) (aY (fr.finish (.bool jump.isNone)) cs)) :
  ae.J R (Hs++(l,.loop r)::T) (aY (aW ⟨f,.normal,some l,n,[],fr::cs⟩ tmps todo) (fr::cs)):=by
 refine ae.step rfl λ w hw=>?_
 obtain ⟨v,w',R',H',h1,h2,h3,rfl,rfl,rfl⟩:=aDp (P:=P) (jump:=jump) w hw
 refine ⟨aY (fr.finish (.bool jump.isNone)) cs,w',seen P f ((Instr.endRound l jump).events P w #[]),R',_,?_,λ e he=>h2 e (mem_seen he),h3,h⟩
 rcases hl with ⟨rfl,rfl⟩ | ⟨k',rfl,rfl⟩ | ⟨id,k',rfl,dI,rfl⟩
 ·simp at h1; simp [stepG,stepG.exec,aW,h1,doReturn,GStep.after,aY]
 ·simp at h1; simp [stepG,stepG.exec,aW,h1,doReturn,GStep.after,aY]
 ·simp at h1; simp [stepG,stepG.exec,aW,h1,dI,doReturn,GStep.after,aY]
def tK(fn:FuncId)(tmps:Array Value)(t:Tmp)(assign body:Code)(d:Nat):Loop:={ state:=.ready,pending:=none,fn,tmps,params:=#[t],assign,body,defers:=d }
theorem W7{p:Nat × Obj}{Hf Hs D:an}:List.Perm (Hs++p::(Hf++D)) (Hf++(Hs++p::D)):=by
 have h1:List.Perm (Hs++p::(Hf++D)) (p::(Hs++(Hf++D))):=List.perm_middle
 have h2:List.Perm (Hf++(Hs++p::D)) (p::(Hf++(Hs++D))):=by
  rw [← List.append_assoc,← List.append_assoc]
  exact List.perm_middle
 refine h1.trans (List.Perm.trans (List.Perm.cons _ ?_) h2.symm)
 rw [← List.append_assoc,← List.append_assoc]
 exact List.perm_append_comm.append_right D
section
variable {α S O:Type} {A:nq α} {body:α→S→Option (S ⊕ O)} {t:Tmp} {assign jE:Code}
 (I:S→ax→an→an→Prop) (E:O→ax→an→an→Prop) (jc:O→Code)
def RInv(R:ax)(l:Nat)(r:Loop)(D:an):S ⊕ O→ax→an→Prop
 | .inl s,R',Hy=>aS R R'∧I s R' ((l,.loop r)::D) Hy
 | .inr o,R',Hy=>aS R R'∧E o R' ((l,.loop { r with state:=.done,pending:=some (jc o) })::D) Hy
def YJ(ae:Jd P B main)(c:Ctx)(R:ax)(H:an)(st:St)(A:nq α)(body:α→S→Option (S ⊕ O))(t:Tmp)(assign jE:Code):Prop :=
 ∀ (va:Value) (x:α) (s:S) (z:S ⊕ O) (R':ax) (T H':an) (l:Nat) (ld:Loop) (cs:List Frame),aS R R'→List.Sublist H T→A R' x va→I s R' ((l,.loop ld)::T) H'→ld.state = .ready→body x s=some z →
  (∀ s' cC dY nP,z = .inl s'→aS R' cC→I s' cC ((l,.loop { ld with state:=.busy })::T) dY→U ae ⟨c.fn,.normal,some l,c.n,[],cs⟩ cC dY nP []) →
  (∀ o cC dY nP zt,z = .inr o→aS R' cC→E o cC ((l,.loop { ld with state:=.busy })::T) dY→Leaves (.code (jc o)::zt) (some (jc o))→U ae ⟨c.fn,.normal,some l,c.n,[],cs⟩ cC dY nP (.code (jc o)::zt)) →
  U ae ⟨c.fn,.normal,some l,c.n,[],cs⟩ R' H' ((t,va)::st) [.code assign,.beginRound,.code jE]
variable {I E jc}
theorem anU{D:an}{l:Nat}{d:Nat}{tmps:Array Value}(s8:∀ s,Shape (I s))(AY:∀ o,Shape (E o))(ht:cQ c.n st tmps)(hd:Nat.blt t c.n=true)(hH:List.Sublist H D)
  (hb:YJ I E jc ae c R H st A body t assign jE) :
  lP ae R A (.func (.yield l) #[] #[]) (gm body) (RInv I E jc R l (tK c.fn tmps t assign jE d) D) where
 fn:=⟨l,rfl⟩
 mono:=by
  intro s R1 R2 Hy h1 h2 hI
  cases s with
  | inl s =>
   obtain ⟨hr,hI⟩:=hI
   obtain ⟨Hs,rfl,h⟩:=s8 s _ _ _ hI
   exact ⟨hr.trans h2,h _ _ h2⟩
  | inr o =>
   obtain ⟨hr,hI⟩:=hI
   obtain ⟨Hs,rfl,h⟩:=AY o _ _ _ hI
   exact ⟨hr.trans h2,h _ _ h2⟩
 call:=by
  intro Hf R' Hy s x va z hR hI hA hy
  cases s with
  | inr o=>cases hy
  | inl s =>
   simp only [gm,Option.map_eq_some_iff] at hy
   obtain ⟨z',hz,rfl⟩:=hy
   obtain ⟨hr,hI⟩:=hI
   obtain ⟨Hs,rfl,bg⟩:=s8 s _ _ _ hI
   refine ⟨l,tK c.fn tmps t assign jE d,rfl,by simp,rfl,λ fr cs hk=>?_⟩
   refine J.perm (H':=Hs++(l,.loop (tK c.fn tmps t assign jE d))::(Hf++D)) W7 ?_
   have S6:cQ c.n ((t,va)::st) (((tK c.fn tmps t assign jE d).params.zip #[va]).foldl (λ tmps (t,a)=>tmps.setIfInBounds t a) (tK c.fn tmps t assign jE d).tmps):=by
    have:=ht.put (dst:=some t) va hd
    simpa [tK,bW,fw] using this
   refine hb va x s z' R' (Hf++D) _ l (tK c.fn tmps t assign jE d) (fr::cs) hR (hH.trans (List.sublist_append_right _ _)) hA (bg R' _ (aS.refl _)) rfl hz (λ s' cC dY nP VU rK ani=>?_) (λ o cC dY nP zt VU rK anh hl=>?_) _ S6
   ·subst VU
    obtain ⟨dR,rfl,Bp⟩:=s8 s' _ _ _ ani
    intro ba _
    refine acQ (jump:=none) (.inl ⟨rfl,rfl⟩) ?_
    refine J.perm W7.symm ?_
    exact hk _ _ _ ⟨rK,rfl,_,⟨hR.trans rK,Bp cC _ (aS.refl _)⟩,rfl⟩
   ·subst VU
    obtain ⟨dR,rfl,Bp⟩:=AY o _ _ _ anh
    intro ba _
    refine acQ (jump:=some (jc o)) hl ?_
    refine J.perm W7.symm ?_
    exact hk _ _ _ ⟨rK,rfl,_,⟨hR.trans rK,Bp cC _ (aS.refl _)⟩,rfl⟩
theorem aDq{fn:FuncId}{tmps:Array Value}{ps:Array Tmp}{assign jE:Code}:aT P B R H (Instr.enterLoop fn tmps ps assign jE none) λ q R' H'=>R'=R∧∃ r,q.2=[⟨.collected r,#[]⟩]∧H'=(q.1,.loop ⟨.ready,none,fn,tmps,ps,assign,jE,r⟩)::(r,.deferred (some []))::H:=by
 unfold Instr.enterLoop
 refine aT.bind (aT.new λ r _ _=>aT.bind (aT.pure ?_))
 refine aT.bind (aT.new λ l _ _=>aT.pure ?_)
 exact ⟨rfl,r,rfl,rfl⟩
theorem U.alf{x:Operand}{gL:FuncId}{first cap:Array Value}(hx:bh st x=some (.func (.func gL) first cap))(he:bl P gL)(hk:(c.kind == CallKind.early)=false){K:Nat × List Deferred→ax→an→Prop}
  (Mm:∀ tmps,aT P B R H (Instr.enterLoop c.fn tmps #[t] assign jE c.ro) λ q R' H'=>R'=R∧∃ d Hm,H'=(q.1,.loop (tK c.fn tmps t assign jE d))::Hm∧K q R Hm)
  (h:∀ l mark d Hm tmps,cQ c.n st tmps→K (l,mark) R Hm→ae.J R ((l,.loop (tK c.fn tmps t assign jE d))::Hm) (aY (Frame.enter P gL (first++#[.func (.yield l) #[] #[]]++cap) .normal) (aW ⟨c.fn,c.kind,c.ro,c.n,mark++c.defers,c.cs⟩ tmps (.inRangeFunc l::k)::c.cs))) :
  U ae c R H st (.code (.rangeFunc x #[t] assign jE)::k):=by
 intro tmps ht
 refine ae.step rfl λ w hw=>?_
 obtain ⟨⟨l,mark⟩,w',R',H',h1,h2,h3,rfl,d,Hm,rfl,hK⟩:=Mm tmps w hw
 have jq:=ht.knows ⟨c.fn,c.kind,c.ro,c.n,mark++c.defers,c.cs⟩ (.inRangeFunc l::k)
 have hv:ai P (do let d ← resolve (aW ⟨c.fn,c.kind,c.ro,c.n,mark++c.defers,c.cs⟩ tmps (.inRangeFunc l::k)).eval { callee:=.value x,args:=#[.const (.func (.yield l) #[] #[])],argTypes:=#[] } 0; invoke d.target d.args) (.enter gL (first++#[.func (.yield l) #[] #[]]++cap)):=by
  obtain ⟨fn,e1,e2,e3⟩:=he.ex
  simp only [resolve,jq x _ hx,Deferred.ofValue]
  refine ai.bind (a:=⟨.fn (.func gL) cap,first++#[.func (.yield l) #[] #[]]⟩) (by simpa [Frame.eval] using ai.pure _) ?_
  simp only [invoke]
  exact C2 e1 e2 e3
 have hj:=h l mark d Hm tmps ht hK
 refine ⟨_,w',seen P c.fn ((Instr.enterLoop c.fn tmps #[t] assign jE c.ro).events P w #[]),R',_,?_,λ e HN=>h2 e (mem_seen HN),h3,hj⟩
 have II:=hv w'
 simp only [aW] at II
 have dI:(c.kind == CallKind.early)=false:=hk
 simp [stepG,stepG.exec,stepG.apply,aY,aW,h1,II.1,II.2,GStep.after,dI,seen]
theorem U.aay{l:Nat}{r:Loop}{Hs T:an}{pend:Option Code}(hb:(r.state == .busy)=false)(hp:r.pending=pend)(h:U ae c R (Hs++T) st ((pend.map Item.code).toList++k)):U ae c R (Hs++(l,.loop r)::T) st (.endRangeFunc l::k):=λ tmps ht=>by
 subst hp
 refine ae.step rfl λ w hw=>?_
 obtain ⟨v,w',R',H',h1,h2,h3,rfl,rfl,rfl⟩:=aDo (P:=P) hb w hw
 refine ⟨aY (aW c tmps ((r.pending.map Item.code).toList++k)) c.cs,w',seen P c.fn ((Instr.endLoop l).events P w #[]),R',_,?_,λ e he=>h2 e (mem_seen he),h3,J.drop ?_ (h tmps ht)⟩
 ·simp [stepG,stepG.exec,aY,aW,h1,GStep.after]
 ·exact (List.sublist_cons_self _ _).append_left _
theorem amS{tmps:Array Value}{l:Nat}{w:Value}:(aW c tmps (.inRangeFunc l::k)).finish w=aW c tmps (.endRangeFunc l::k):=rfl
theorem U.aew{ρ:Type}{r8:(α→(S ⊕ O)→Option ((S ⊕ O) × Bool))→(S ⊕ O)→Option (S ⊕ O)}{cont:S ⊕ O→Option ρ}{s0:S}{rr:ρ}{x:Operand}{gL:FuncId}{first cap:Array Value}{H1:an}
  (hM:(r8 (gm body) (.inl s0)).bind cont=some rr) (hx:bh st x=some (.func (.func gL) first cap)) (he:bl P gL) (hk:(c.kind == CallKind.early)=false) (kg:c.ro=none) (hd:Nat.blt t c.n=true)
  (I:S→ax→an→an→Prop) (E:O→ax→an→an→Prop) (jc:O→Code) (s8:∀ s,Shape (I s)) (AY:∀ o,Shape (E o))
  (H6:∀ v Inv Hy z,lP ae R A v (gm body) Inv→Inv (.inl s0) R Hy→r8 (gm body) (.inl s0)=some z→aB ae gL (first++#[v]++cap) R Hy λ _ R' H'=>aS R R'∧Inv z R' H')
  (h0:I s0 R H H1)
  (ha:∀ r s R' H',aS R R'→I s R' ((r,.deferred (some []))::H) H'→cont (.inl s)=some rr→U ae ⟨c.fn,c.kind,none,c.n,⟨.collected r,#[]⟩::c.defers,c.cs⟩ R' H' st k)
  (hz:∀ r o R' H',aS R R'→E o R' ((r,.deferred (some []))::H) H'→cont (.inr o)=some rr→U ae ⟨c.fn,c.kind,none,c.n,⟨.collected r,#[]⟩::c.defers,c.cs⟩ R' H' st (.code (jc o)::k))
  (hb:YJ I E jc ae c R H st A body t assign jE) :
  U ae c R H1 st (.code (.rangeFunc x #[t] assign jE)::k):=by
 obtain ⟨z,hm,hc⟩:=aj hM
 refine U.alf hx he hk (K:=λ q R' Hm=>∃ r,q.2=[⟨.collected r,#[]⟩]∧Hm=(r,.deferred (some []))::H1) (λ tmps=>?_) ?_
 ·rw [kg]
  exact aDq.mono λ q R' H' ⟨h1,r,h2,h3⟩=>⟨h1,r,_,h3,r,h2,rfl⟩
 rintro l mark d Hm tmps ht ⟨r,SJ,rfl⟩
 have SJ:mark=[⟨.collected r,#[]⟩]:=SJ
 subst SJ
 obtain ⟨Hs,rfl,bg⟩:=s8 s0 _ _ _ h0
 have apj:lP ae R A (.func (.yield l) #[] #[]) (gm body) (RInv I E jc R l (tK c.fn tmps t assign jE d) ((r,.deferred (some []))::H)):=anU s8 AY ht hd (List.sublist_cons_self _ _) hb
 refine J.perm (H':=Hs++(l,.loop (tK c.fn tmps t assign jE d))::(r,.deferred (some []))::H) ?_ ?_
 ·exact List.perm_middle.trans (List.Perm.cons _ List.perm_middle)
 refine H6 _ _ _ z apj ⟨aS.refl R,bg R _ (aS.refl R)⟩ hm _ _ λ v R' H' hv=>?_
 rw [amS]
 obtain ⟨hR,hI⟩:=hv
 cases z with
 | inl s =>
  obtain ⟨_,hI⟩:=hI
  obtain ⟨dR,rfl,Bp⟩:=s8 s _ _ _ hI
  rw [kg]
  exact U.aay (c:=⟨c.fn,c.kind,none,c.n,⟨.collected r,#[]⟩::c.defers,c.cs⟩) rfl rfl (ha r s R' _ hR (Bp R' _ (aS.refl R')) hc) tmps ht
 | inr o =>
  obtain ⟨_,hI⟩:=hI
  obtain ⟨dR,rfl,Bp⟩:=AY o _ _ _ hI
  rw [kg]
  exact U.aay (c:=⟨c.fn,c.kind,none,c.n,⟨.collected r,#[]⟩::c.defers,c.cs⟩) rfl rfl (hz r o R' _ hR (Bp R' _ (aS.refl R')) hc) tmps ht
theorem U.Xa{ρ:Type}{body:α→S→Option (S ⊕ Empty)}(r8:(α→(S ⊕ Empty)→Option ((S ⊕ Empty) × Bool))→(S ⊕ Empty)→Option (S ⊕ Empty)){f:S→Option ρ}{g:Empty→Option ρ}{s0:S}{rr:ρ}{x:Operand}{gL:FuncId}{first cap:Array Value}{H1:an}
  (hM:(r8 (gm body) (.inl s0)).bind (Sum.elim f g)=some rr) (hx:bh st x=some (.func (.func gL) first cap)) (he:bl P gL) (hk:(c.kind == CallKind.early)=false) (kg:c.ro=none) (hd:Nat.blt t c.n=true)
  (I:S→ax→an→an→Prop) (s8:∀ s,Shape (I s))
  (H6:∀ v Inv Hy z,lP ae R A v (gm body) Inv→Inv (.inl s0) R Hy→r8 (gm body) (.inl s0)=some z→aB ae gL (first++#[v]++cap) R Hy λ _ R' H'=>aS R R'∧Inv z R' H')
  (h0:I s0 R H H1)
  (ha:∀ r s R' H',aS R R'→I s R' ((r,.deferred (some []))::H) H'→f s=some rr→U ae ⟨c.fn,c.kind,none,c.n,⟨.collected r,#[]⟩::c.defers,c.cs⟩ R' H' st k)
  (hb:∀ (va:Value) (x:α) (s:S) (R':ax) (T H':an) (l:Nat) (ld:Loop) (cs:List Frame),aS R R'→List.Sublist H T→A R' x va→I s R' ((l,.loop ld)::T) H'→ld.state = .ready→∀ z,body x s=some z →
   (∀ s',z = .inl s'→∀ cC dY nP,aS R' cC→I s' cC ((l,.loop { ld with state:=.busy })::T) dY→U ae ⟨c.fn,.normal,some l,c.n,[],cs⟩ cC dY nP []) →
   U ae ⟨c.fn,.normal,some l,c.n,[],cs⟩ R' H' ((t,va)::st) [.code assign,.beginRound,.code jE]) :
  U ae c R H1 st (.code (.rangeFunc x #[t] assign jE)::k) :=
 U.aew (r8:=r8) hM hx he hk kg hd I (λ o=>o.elim) (λ o=>o.elim) s8 (λ o=>o.elim) H6 h0 ha (λ _ o=>o.elim)
  (λ va x s z R' T H' l ld cs h1 h2 h3 h4 h5 h6 h7 _=>hb va x s R' T H' l ld cs h1 h2 h3 h4 h5 z h6 λ s' hz cC dY nP=>h7 s' cC dY nP hz)
theorem U.Xb{ρ:Type}(r8:(α→(S ⊕ O)→Option ((S ⊕ O) × Bool))→(S ⊕ O)→Option (S ⊕ O)){f:S→Option ρ}{g:O→Option ρ}{s0:S}{rr:ρ}{x:Operand}{gL:FuncId}{first cap:Array Value}{H1:an}(jc:Code)
  (hM:(r8 (gm body) (.inl s0)).bind (Sum.elim f g)=some rr) (hx:bh st x=some (.func (.func gL) first cap)) (he:bl P gL) (hk:(c.kind == CallKind.early)=false) (kg:c.ro=none) (hd:Nat.blt t c.n=true)
  (I:S→ax→an→an→Prop) (E:O→ax→an→an→Prop) (s8:∀ s,Shape (I s)) (AY:∀ s,Shape (E s))
  (H6:∀ v Inv Hy z,lP ae R A v (gm body) Inv→Inv (.inl s0) R Hy→r8 (gm body) (.inl s0)=some z→aB ae gL (first++#[v]++cap) R Hy λ _ R' H'=>aS R R'∧Inv z R' H')
  (h0:I s0 R H H1)
  (ha:∀ r s R' H',aS R R'→I s R' ((r,.deferred (some []))::H) H'→f s=some rr→U ae ⟨c.fn,c.kind,none,c.n,⟨.collected r,#[]⟩::c.defers,c.cs⟩ R' H' st k)
  (hz:∀ r o R' H',aS R R'→E o R' ((r,.deferred (some []))::H) H'→g o=some rr→U ae ⟨c.fn,c.kind,none,c.n,⟨.collected r,#[]⟩::c.defers,c.cs⟩ R' H' st (.code jc::k))
  (hb:∀ (va:Value) (x:α) (s:S) (R':ax) (T H':an) (l:Nat) (ld:Loop) (cs:List Frame),aS R R'→List.Sublist H T→A R' x va→I s R' ((l,.loop ld)::T) H'→ld.state = .ready→∀ z,body x s=some z →
   (∀ s',z = .inl s'→∀ cC dY nP,aS R' cC→I s' cC ((l,.loop { ld with state:=.busy })::T) dY→U ae ⟨c.fn,.normal,some l,c.n,[],cs⟩ cC dY nP []) →
   (∀ o,z = .inr o→∀ cC dY nP zt,aS R' cC→E o cC ((l,.loop { ld with state:=.busy })::T) dY→Leaves (.code jc::zt) (some jc)→U ae ⟨c.fn,.normal,some l,c.n,[],cs⟩ cC dY nP (.code jc::zt)) →
   U ae ⟨c.fn,.normal,some l,c.n,[],cs⟩ R' H' ((t,va)::st) [.code assign,.beginRound,.code jE]) :
  U ae c R H1 st (.code (.rangeFunc x #[t] assign jE)::k) :=
 U.aew (r8:=r8) hM hx he hk kg hd I E (λ _=>jc) s8 AY H6 h0 ha hz
  (λ va x s z R' T H' l ld cs h1 h2 h3 h4 h5 h6 h7 h8=>hb va x s R' T H' l ld cs h1 h2 h3 h4 h5 z h6 (λ s' hz cC dY nP=>h7 s' cC dY nP hz) (λ o hz cC dY nP zt=>h8 o cC dY nP zt hz))
theorem aDs{r:Nat}{H':an}(hs:fa H r (.deferred (some [])) (.deferred none) H'):aT P B R H (Instr.takeDeferred r) λ v cC dY=>v=[]∧cC=R∧dY=H':=by
 unfold Instr.takeDeferred
 exact aT.bind (aT.getObj rfl (.inr hs.mem) (aT.bind (aT.setObj rfl rfl hs (aT.pure ⟨rfl,rfl,rfl⟩))))
theorem aCZ{fr:Frame}{cs:List Frame}{f:FuncId}{n r:Nat}{H':an}{tmps:Array Value}{todo:List Item}(hs:fa H r (.deferred (some [])) (.deferred none) H')
  (h:ae.J R H' (aY { (aW ⟨f,.normal,none,n,[],fr::cs⟩ tmps todo) with mode:=.returning } (fr::cs))) :
  ae.J R H (aY { (aW ⟨f,.normal,none,n,[⟨.collected r,#[]⟩],fr::cs⟩ tmps todo) with mode:=.returning } (fr::cs)):=by
 refine ae.step rfl λ w hw=>?_
 obtain ⟨v,w',R',H',h1,h2,h3,rfl,rfl,rfl⟩:=aDs (P:=P) hs w hw
 refine ⟨_,w',seen P f ((Instr.takeDeferred r).events P w #[]),R',_,?_,λ e he=>h2 e (mem_seen he),h3,h⟩
 simp [stepG,unwind,aY,aW,h1,GStep.after]
theorem aCY{fr:Frame}{cs:List Frame}{f:FuncId}{n:Nat}{fn:Func}{vs:List Value}{tmps:Array Value}{todo:List Item}(hf:P.funcs[f]? = some fn)(ht:cQ n st tmps)(hr:oK P R H st fn.results.toList vs)(hj:ae.J R H (aY (fr.finish (gZ vs)) cs)) :
  ae.J R H (aY { (aW ⟨f,.normal,none,n,[],fr::cs⟩ tmps todo) with mode:=.returning } (fr::cs)):=by
 refine ae.step rfl λ w hw=>?_
 obtain ⟨v,w',R',H',h1,h2,h3,rfl,rfl,rfl⟩:=N7 (P:=P) ht hr w hw
 refine ⟨aY (fr.finish (gZ vs)) cs,w',seen P f ((results fn tmps).events P w #[]),R',H',?_,λ e he=>h2 e (mem_seen he),h3,hj⟩
 simp [stepG,unwind,doReturn,aY,aW,hf,h1,GStep.after]
theorem U.xR{fr:Frame}{cs:List Frame}{f:FuncId}{n r:Nat}{H':an}{fn:Func}{vs:List Value}(hs:fa H r (.deferred (some [])) (.deferred none) H')(hf:P.funcs[f]? = some fn)(hr:oK P R H' st fn.results.toList vs)(hj:ae.J R H' (aY (fr.finish (gZ vs)) cs)) :
  U ae ⟨f,.normal,none,n,[⟨.collected r,#[]⟩],fr::cs⟩ R H st (.code .ret::k):=λ tmps ht=>by
 refine Jd.ctl (g':=aY { (aW ⟨f,.normal,none,n,[⟨.collected r,#[]⟩],fr::cs⟩ tmps (.code .ret::k)) with mode:=.returning } (fr::cs)) rfl (λ w=>by simp [stepG,stepG.exec,aY,aW]) ?_
 exact aCZ hs (aCY hf ht hr hj)
end
theorem aB.hole{f:FuncId}{args:Array Value}{G:an→an}{Hs:an}(hG:kV G){Q:Value→ax→an→Prop}(h:aB ae f args R (Hs++G []) λ v R' H'=>∃ dR,Q v R' dR∧H'=dR++G []) :
  aB ae f args R (G Hs) λ v R' H'=>∃ dR,Q v R' dR∧H'=G dR:=by
 obtain ⟨A,D,hG⟩:=hG
 have key:∀ X:an,List.Perm (X++G []) (G X):=λ X=>by
  rw [hG,hG,List.nil_append,← List.append_assoc,← List.append_assoc]
  exact List.perm_append_comm.append_right D
 intro fr cs hk
 refine J.perm (key Hs) (h fr cs λ v R' H' hv=>?_)
 obtain ⟨dR,hq,rfl⟩:=hv
 exact J.perm (key dR).symm (hk v R' _ ⟨dR,hq,rfl⟩)
theorem Ox.uQ{x y:Operand}{t u e:TypeId}{o:Oper}{C:ax→an→St→Prop}{A:Option Addr}{n cap:Nat}{b:Bool}{st':St}(au:o.op = .binOp .eql t x y u)(hx:bh st x=some (.slice A n cap))(hy:bh st y=some (.slice none 0 0))(ht:P.underlying t=some (.slice e))(hb:A.isNone=b)
  (hd:bV o.dst c.n) (hs:aF (bW o.dst (.bool b) st) st') (h:C R H st'):aZ P B c o R H st C :=
 Ox.mf (s:=λ ρ=>do eqGuard .eql t x y (ρ x) (ρ y); binOp .eql t (ρ x) (ρ y)) (by rw [au]; rfl) hd (λ ρ=>by simp only [execOp,au]) (λ ρ bf=>by
  rw [bf x _ hx,bf y _ hy]
  refine ai.bind (a:=()) (ai.pure _) ?_
  simp only [binOp]
  refine ai.bind (a:=b) ?_ (ai.pure _)
  unfold Op.equal Op.maxDepth Op.equalIn
  refine ai.bind (ai.underlying ht) ?_
  cases A with
  | none=>subst hb; exact ai.pure _
  | some a=>subst hb; exact ai.pure _) hs h
theorem di.JQ{α:Type}{K:cB α}{k:Nat}{v:Value}{xs:List α}(h:di K k R H v xs):(∃ cap,v = .slice none 0 cap∧xs=[])∨∃ a n cap,v = .slice (some a) n cap:=by
 obtain ⟨A,cap,es,rfl,h2,h3,h4⟩:=h
 cases A with
 | some a=>exact .inr ⟨a,_,cap,rfl⟩
 | none =>
  cases xs with
  | nil=>exact .inl ⟨cap,rfl,rfl⟩
  | cons x xs =>
   obtain ⟨b,o,g,_⟩:=h4 (by simp)
   cases g
theorem Ox.BR{x y:Operand}{t e len:Nat}{cs:Array Value}{v:Value}{kd:IntKind}{i:Int}{o:Oper}{C:ax→an→St→Prop}{st':St}(au:o.op = .index t x y)(hx:bh st x=some (.agg cs))(hy:bh st y=some (.int kd i))(ht:uD P t len e 1)(he:ai P (isAgg e) false)(hi:0≤i∧i < len)(hv:cs[i.toNat * 1]? = some v)
  (hd:bV o.dst c.n) (hs:aF (bW o.dst v st) st') (h:C R H st'):aZ P B c o R H st C :=
 Ox.mf (s:=λ ρ=>Instr.index t (ρ x) (ρ y)) (by rw [au]; rfl) hd (λ ρ=>by simp only [execOp,au]) (λ ρ bf=>by
  rw [bf x _ hx,bf y _ hy]
  unfold Instr.index
  refine ai.bind (a:=(kd,i)) (ai.pure _) (ai.bind (ai.underlying ht.1) ?_)
  simp only [hi,and_self,if_true]
  refine ai.bind ht.2 ?_
  unfold part
  refine ai.bind he ?_
  simp only [hv]
  exact ai.pure _) hs h
theorem U.pL{todo:List Item}{b:Nat}{cs:Array Value}{e:TypeId}{fz:Nat × Nat}(G:an→an)(hG:kV G){H2:an}(h2:G []=H2)(h:∀ R',aS R R'→aQ R' [] b 0 cs.toList→U ae c R' H2 st todo):U ae c R (G [(b,.cells cs e fz)]) st todo:=by
 obtain ⟨A,D,hG⟩:=hG
 refine U.perm (H':=(b,.cells cs e fz)::(A++D)) ?_ (U.freeze λ R' hR hb=>?_)
 ·rw [hG]; exact List.perm_middle.symm
 ·have e2:A++D=H2:=by rw [← h2,hG]; rfl
  rw [e2]
  exact h R' hR (aQ.known (n:=cs.toList.length) hb (by rw [List.drop_zero,List.take_length]))
def AE(ae:Jd P B main)(R:ax){α S:Type}(A:nq α)(v:Value)(q:(α→S→Option (S × Bool))→S→Option S):Prop :=
 ∃ gL first cap,v = .func (.func gL) first cap∧bl P gL∧∀ R',aS R R'→∀ (w:Value) (y:α→S→Option (S × Bool)) (Inv:S→ax→an→Prop) (Hy:an) (s z:S),lP ae R' A w y Inv→Inv s R' Hy→q y s=some z →
  aB ae gL (first++#[w]++cap) R' Hy λ _ cC H'=>aS R' cC∧Inv z cC H'
theorem AE.mono{R':ax}{α S:Type}{A:nq α}{v:Value}{q:(α→S→Option (S × Bool))→S→Option S}(h:AE ae R A v q)(hR:aS R R'):AE ae R' A v q:=by
 obtain ⟨gL,first,cap,h1,h2,h3⟩:=h
 exact ⟨gL,first,cap,h1,h2,λ cC Hr=>h3 cC (hR.trans Hr)⟩
theorem lP.frame{α S:Type}{A:nq α}{v:Value}{y:α→S→Option (S × Bool)}{Inv:S→ax→an→Prop}(h:lP ae R A v y Inv)(Hf:an):lP ae R A v y λ s R' H'=>∃ Hy,Inv s R' Hy∧H'=Hf++Hy where
 fn:=h.fn
 mono:=λ h1 h2 ⟨Hy,hi,e⟩=>⟨Hy,h.mono h1 h2 hi,e⟩
 call:=by
  intro H2 R' Hy s x va z hR hI hA hy
  obtain ⟨Hy,hI,rfl⟩:=hI
  have:=h.call (H2++Hf) hR hI hA hy
  rw [List.append_assoc] at this
  refine this.mono λ w cC dY ⟨h1,h2,yD,h3,h4⟩=>⟨h1,h2,Hf++yD,⟨yD,h3,rfl⟩,by rw [h4,List.append_assoc]⟩
def many(a:an):List (Nat × an)→Nat→an
 | [],_=>a
 | (q,l)::r,j=>if j=q then l else many a r j
section
variable {a N:an} {ex:List (Nat × an)} {rem D:List Nat} {i q:Nat} {l H':an}
theorem gw(ha:∀ p∈N,p∈a):∀ j∈rem,j≠i→j ∉ D→∀ p∈N,p∈many a [] j:=λ _ _ _ _ p hp=>ha p hp
theorem dW(hd:(D.contains q || q == i || !rem.contains q)=true)(h:∀ j∈rem,j≠i→j ∉ D→∀ p∈N,p∈many a ex j):∀ j∈rem,j≠i→j ∉ D→∀ p∈N,p∈many a ((q,l)::ex) j:=by
 intro j hj gj qw p hp
 unfold many
 split
 ·subst_vars
  simp only [Bool.or_eq_true,Bool.not_eq_true',List.contains_iff_mem,beq_iff_eq] at hd
  rcases hd with (x | x) | x
  ·exact absurd x qw
  ·exact absurd x gj
  ·have:rem.contains j=true:=List.contains_iff_mem.2 hj
   rw [this] at x; cases x
 ·exact h j hj gj qw p hp
theorem adH(hl:∀ p∈N,p∈l)(h:∀ j∈rem,j≠i→j ∉ D→∀ p∈N,p∈many a ex j):∀ j∈rem,j≠i→j ∉ D→∀ p∈N,p∈many a ((q,l)::ex) j:=by
 intro j hj gj qw p hp
 unfold many
 split
 ·exact hl p hp
 ·exact h j hj gj qw p hp
theorem eX(he:many a ex i=l)(h:∀ p∈l,p∈H'):∀ p∈many a ex i,p∈H→p∈H':=by
 rw [he]; exact λ p hp _=>h p hp
end
end
end Go.Lg
namespace Go.Lg
open Go.Conc
def fI(p:Int):Value:=.int .i64 p
theorem MW{p p':Int}(h:fI p=fI p'):p=p':=by
 simpa [fI] using h
def sC(m:Int→Int)(p z:Int):Int→Int:=λ a=>if a=p then z else m a
structure yA (es:List MapEntry) (m:Int→Int) (clock:Nat):Prop where
 LM:∀ e∈es,∃ p,e.key=fI p∧e.val = .int .i64 (m p)
 zero:∀ p,(∀ e∈es,e.key≠fI p)→m p=0
 keys:∀ (i j:Nat) (a b:MapEntry),es[i]? = some a→es[j]? = some b→a.key=b.key→i=j
 old:∀ e∈es,e.born < clock
 ZB:∀ (i j:Nat) (a b:MapEntry),es[i]? = some a→es[j]? = some b→a.born=b.born→i=j
def Ay(v:Value)(m:Int→Int)(Hs:an):Prop:=∃ b es clock,v = .map (some b)∧Hs=[(b,.map es clock)]∧yA es.toList m clock
structure KU (P:Program) (t kt et:TypeId):Prop where
 ty:P.underlying t=some (.map kt et)
 key:P.underlying kt=some (.int .i64)
 gr:∀ (e:Bool) (a:Int),ai P (Instr.checkKey e 10000 kt (fI a)) ()
 zero:ai P (zeroValue et) (.int .i64 0)
section
variable {P:Program} {B:Base} {main:Bool} {ae:Jd P B main} {c:Ctx} {R:ax} {H:an} {st st':St} {o:Oper} {C:ax→an→St→Prop}
def agJ(es:List MapEntry)(p:Int)(r:Option (Nat × Value)):Prop :=
 (r=none∧∀ e∈es,e.key≠fI p)∨∃ (i:Nat) (e:MapEntry),es[i]? = some e∧e.key=fI p∧r=some (i,e.val)
theorem abv(p:Int):∀ (es:List MapEntry) (i:Nat),(∀ e∈es,∃ p,e.key=fI p)→∃ r,Instr.findNow (.int .i64) (fI p) es i=some r∧((r=none∧∀ e∈es,e.key≠fI p)∨∃ (j:Nat) (e:MapEntry),es[j]? = some e∧e.key=fI p∧r=some (i+j,e.val))
 | [],i,h=>⟨none,rfl,.inl ⟨rfl,λ e he=>(by cases he)⟩⟩
 | e::es,i,h=>by
  obtain ⟨p',hk⟩:=h e (by simp)
  by_cases heq:p=p'
  ·subst heq
   refine ⟨some (i,e.val),?_,.inr ⟨0,e,rfl,hk,rfl⟩⟩
   unfold Instr.findNow
   rw [hk]
   simp [fI,Instr.sameNow]
  ·obtain ⟨r,hr,hc⟩:=abv p es (i+1) (λ e he=>h e (by simp [he]))
   refine ⟨r,?_,?_⟩
   ·unfold Instr.findNow
    rw [hk]
    simp only [fI] at hr ⊢
    have hb:(p == p')=false:=by simpa using heq
    simp [Instr.sameNow,hb,hr]
   ·rcases hc with ⟨rfl,hc⟩ | ⟨j,e',h1,h2,rfl⟩
    ·refine .inl ⟨rfl,λ x hx=>?_⟩
     rcases List.mem_cons.1 hx with rfl | hx
     ·intro e2
      exact heq (MW (hk.symm.trans e2)).symm
     ·exact hc x hx
    ·exact .inr ⟨j+1,e',by simpa using h1,h2,by simp; omega⟩
theorem afc{t kt et:TypeId}(ht:KU P t kt et)(p:Int){es:List MapEntry}{m:Int→Int}{cl:Nat}(h:yA es m cl):∃ r,ai P (Instr.findKey kt (fI p) es) r∧agJ es p r:=by
 obtain ⟨r,hr,hc⟩:=abv p es 0 (λ e he=>let ⟨p,hk,_⟩:=h.LM e he; ⟨p,hk⟩)
 refine ⟨r,?_,?_⟩
 ·unfold Instr.findKey
  refine ai.bind (ai.underlying ht.key) ?_
  rw [hr]
  exact ai.pure _
 ·rcases hc with hc | ⟨j,e',h1,h2,h3⟩
  ·exact .inl hc
  ·exact .inr ⟨j,e',h1,h2,by simpa using h3⟩
theorem Ox.aBo{t:TypeId}(au:o.op = .makeMap t none)(hd:bV o.dst c.n)
  (hC:∀ v Hs,Ay v (λ _=>0) Hs→∃ st',aF (bW o.dst v st) st'∧C R (Hs++H) st'):aZ P B c o R H st C :=
 Ox.mem (s:=λ ρ=>Instr.makeMap t none) (by rw [au]; rfl) hd (λ ρ=>by simp only [execOp,au]; rfl) (λ ρ bf=>by
  unfold Instr.makeMap
  refine aT.bind (aT.new λ b _ _=>aT.pure ?_)
  exact hC (.map (some b)) [(b,.map #[] 0)] ⟨b,#[],0,rfl,rfl,⟨λ e he=>(by cases he),λ _ _=>rfl,λ i j a b ha=>(by simp at ha),λ e he=>(by cases he),λ i j a b ha=>(by simp at ha)⟩⟩)
theorem Ox.acV{x y:Operand}{t kt et:TypeId}{v:Value}{m:Int→Int}{p:Int}{Hs:an}(au:o.op = .lookup t x y false)(hx:bh st x=some v)(hy:bh st y=some (fI p))(ht:KU P t kt et)(hm:Ay v m Hs)(hH:∀ q∈Hs,q∈H)
  (hd:bV o.dst c.n) (hs:aF (bW o.dst (.int .i64 (m p)) st) st') (h:C R H st'):aZ P B c o R H st C :=
 Ox.mem (s:=λ ρ=>Instr.lookup t (ρ x) (ρ y) false) (by rw [au]; rfl) hd (λ ρ=>by simp only [execOp,au]) (λ ρ bf=>by
  rw [bf x _ hx,bf y _ hy]
  unfold Instr.lookup
  refine ai.eN (ai.underlying ht.ty) ?_
  obtain ⟨b,es,cl,rfl,rfl,he⟩:=hm
  refine aT.bind (aT.getObj rfl (.inr (hH (b,.map es cl) (by simp))) ?_)
  refine aT.bind (aT.pure ?_)
  obtain ⟨r,hr,hf⟩:=afc ht p he
  refine ai.eN (ht.gr _ p) (ai.eN hr ?_)
  rcases hf with ⟨rfl,hn⟩ | ⟨i,e,h1,h2,rfl⟩
  ·refine ai.eN ht.zero (aT.bind (aT.pure (aT.pure ?_)))
   rw [he.zero p hn] at hs
   exact ⟨st',hs,h⟩
  ·obtain ⟨p',hk,hv⟩:=he.LM e (List.mem_of_getElem? h1)
   obtain rfl:=MW (hk.symm.trans h2)
   rw [hv]
   exact aT.bind (aT.pure (aT.pure ⟨st',hs,h⟩)))
theorem aDm(p:Int):Instr.sameBits 10000 (fI p) (fI p)=true:=by
 simp [Instr.sameBits,fI]
theorem yA.push{es:Array MapEntry}{m:Int→Int}{cl:Nat}{p z:Int}(h:yA es.toList m cl)(hn:∀ e∈es.toList,e.key≠fI p) :
  yA (es.push { key:=fI p,val:=.int .i64 z,born:=cl }).toList (sC m p z) (cl+1):=by
 rw [Array.toList_push]
 refine ⟨λ e he=>?_,λ p' eH=>?_,λ i j a b ha hb bH=>?_,λ e he=>?_,λ i j a b ha hb bH=>?_⟩
 ·rcases List.mem_append.1 he with he | he
  ·obtain ⟨p',h1,h2⟩:=h.LM e he
   refine ⟨p',h1,?_⟩
   unfold sC
   rw [if_neg (λ e2=>hn e he (by rw [h1,e2])),h2]
  ·rcases List.mem_singleton.1 he with rfl
   exact ⟨p,rfl,by simp [sC]⟩
 ·have h1:=h.zero p' λ e he=>eH e (List.mem_append.2 (.inl he))
  unfold sC
  rw [if_neg,h1]
  rintro rfl
  exact eH { key:=fI p',val:=.int .i64 z,born:=cl } (List.mem_append.2 (.inr (by simp))) rfl
 ·rw [List.getElem?_append] at ha hb
  split at ha <;> split at hb
  ·exact h.keys i j a b ha hb bH
  ·have:b={ key:=fI p,val:=.int .i64 z,born:=cl }:=by
    have:=List.mem_of_getElem? hb; simpa using this
   subst this
   exact absurd bH (hn a (List.mem_of_getElem? ha))
  ·have:a={ key:=fI p,val:=.int .i64 z,born:=cl }:=by
    have:=List.mem_of_getElem? ha; simpa using this
   subst this
   exact absurd bH.symm (hn b (List.mem_of_getElem? hb))
  ·have h1:=(List.getElem?_eq_some_iff.1 ha).1
   have h2:=(List.getElem?_eq_some_iff.1 hb).1
   simp only [List.length_singleton,Array.length_toList] at *
   omega
 ·rcases List.mem_append.1 he with he | he
  ·have:=h.old e he; omega
  ·rcases List.mem_singleton.1 he with rfl
   exact Nat.lt_succ_self _
 ·rw [List.getElem?_append] at ha hb
  split at ha <;> split at hb
  ·exact h.ZB i j a b ha hb bH
  ·have:b={ key:=fI p,val:=.int .i64 z,born:=cl }:=by
    have:=List.mem_of_getElem? hb; simpa using this
   subst this
   have:=h.old a (List.mem_of_getElem? ha)
   simp only at bH
   omega
  ·have:a={ key:=fI p,val:=.int .i64 z,born:=cl }:=by
    have:=List.mem_of_getElem? ha; simpa using this
   subst this
   have:=h.old b (List.mem_of_getElem? hb)
   simp only at bH
   omega
  ·have h1:=(List.getElem?_eq_some_iff.1 ha).1
   have h2:=(List.getElem?_eq_some_iff.1 hb).1
   simp only [List.length_singleton,Array.length_toList] at *
   omega
theorem Hl{α:Type}{a:Array α}{j:Nat}{x:α}(h:a.toList[j]? = some x):a[j]? = some x:=by rwa [Array.getElem?_toList] at h
theorem yA.sB{es:Array MapEntry}{m:Int→Int}{cl i:Nat}{p z:Int}{e:MapEntry}(he:yA es.toList m cl)(hi:es[i]? = some e)(hk:e.key=fI p) :
  yA (es.modify i λ e=>{ e with key:=fI p,val:=.int .i64 z }).toList (sC m p z) cl:=by
 have tj:∀ j a,(es.modify i λ e=>{ e with key:=fI p,val:=.int .i64 z })[j]? = some a→∃ a0,es[j]? = some a0∧a.key=a0.key∧a.born=a0.born∧a.val=if i=j then .int .i64 z else a0.val:=by
  intro j a ha
  rw [Array.getElem?_modify] at ha
  by_cases hj:i=j
  ·subst hj
   rw [hi] at ha
   simp only [if_true,Option.map_some,Option.some.injEq] at ha
   subst ha
   exact ⟨e,hi,hk.symm,rfl,by simp⟩
  ·simp only [hj,if_false] at ha
   exact ⟨a,ha,rfl,rfl,by simp [hj]⟩
 have mB:∀ a∈(es.modify i λ e=>{ e with key:=fI p,val:=.int .i64 z }).toList,∃ j,(es.modify i λ e=>{ e with key:=fI p,val:=.int .i64 z })[j]? = some a:=λ a ha=>by
  obtain ⟨j,hj⟩:=List.mem_iff_getElem?.1 ha
  exact ⟨j,Hl hj⟩
 refine ⟨λ a ha=>?_,λ p' eH=>?_,λ j k a b' ha hb bH=>?_,λ a ha=>?_,λ j k a b' ha hb bH=>?_⟩
 ·obtain ⟨j,hj⟩:=mB a ha
  obtain ⟨a0,h1,h2,h3,h4⟩:=tj j a hj
  obtain ⟨p',dI,II⟩:=he.LM a0 (by rw [← Array.mem_def]; exact Array.mem_of_getElem? h1)
  refine ⟨p',h2.trans dI,?_⟩
  rw [h4]
  by_cases tn:i=j
  ·subst tn
   rw [hi] at h1; cases h1
   obtain rfl:=MW (hk.symm.trans dI)
   simp [sC]
  ·rw [if_neg tn,II]
   unfold sC
   rw [if_neg]
   rintro rfl
   exact tn (he.keys i j e a0 (by simpa using hi) (by simpa using h1) (hk.trans dI.symm))
 ·unfold sC
  by_cases SX:p'=p
  ·subst SX
   exfalso
   obtain ⟨bE,ti⟩:=Array.getElem?_eq_some_iff.1 hi
   refine eH { e with key:=fI p',val:=.int .i64 z } ?_ rfl
   rw [← Array.mem_def]
   exact Array.mem_of_getElem? (i:=i) (by rw [Array.getElem?_modify]; simp [hi])
  ·rw [if_neg SX]
   refine he.zero p' λ a ha=>?_
   obtain ⟨j,hj⟩:=List.mem_iff_getElem?.1 ha
   have zf:es[j]? = some a:=by simpa using hj
   by_cases tn:i=j
   ·subst tn
    rw [hi] at zf; cases zf
    intro e2
    exact SX (MW (hk.symm.trans e2)).symm
   ·exact eH a (by rw [← Array.mem_def]; exact Array.mem_of_getElem? (i:=j) (by rw [Array.getElem?_modify]; simp [tn,zf]))
 ·obtain ⟨a0,h1,h2,_⟩:=tj j a (Hl ha)
  obtain ⟨b0,k1,k2,_⟩:=tj k b' (Hl hb)
  exact he.keys j k a0 b0 (by simpa using h1) (by simpa using k1) (h2.symm.trans (bH.trans k2))
 ·obtain ⟨j,hj⟩:=mB a ha
  obtain ⟨a0,h1,h2,h3,h4⟩:=tj j a hj
  rw [h3]
  exact he.old a0 (by rw [← Array.mem_def]; exact Array.mem_of_getElem? h1)
 ·obtain ⟨a0,h1,_,h3,_⟩:=tj j a (Hl ha)
  obtain ⟨b0,k1,_,k3,_⟩:=tj k b' (Hl hb)
  exact he.ZB j k a0 b0 (by simpa using h1) (by simpa using k1) (h3.symm.trans (bH.trans k3))
theorem Ox.aBq{x y u:Operand}{t kt et:TypeId}{v:Value}{m:Int→Int}{p z:Int}{Hs:an}(G:an→an)(au:o.op = .mapUpdate t x y u)(hx:bh st x=some v)(hy:bh st y=some (fI p))(hz:bh st u=some (.int .i64 z))(ht:KU P t kt et)(hG:kV G)(hm:Ay v m Hs)
  (hd:o.dst=none) (cL:aF st st') (hC:∀ dR,Ay v (sC m p z) dR→C R (G dR) st'):aZ P B c o R (G Hs) st C :=
 Ox.Ns (s:=λ ρ=>Instr.mapUpdate t (ρ x) (ρ y) (ρ u)) (by rw [au]; rfl) hd (λ ρ=>by simp only [execOp,au]) cL (λ ρ bf=>by
  rw [bf x _ hx,bf y _ hy,bf u _ hz]
  unfold Instr.mapUpdate
  refine ai.eN (ai.underlying ht.ty) ?_
  obtain ⟨b,es,cl,rfl,rfl,he⟩:=hm
  refine aT.bind (aT.getObj rfl (.inr (hG.set (o':=.map es cl)).mem) ?_)
  obtain ⟨r,hr,hf⟩:=afc ht p he
  refine ai.eN (ht.gr _ p) (ai.eN hr ?_)
  rcases hf with ⟨rfl,hn⟩ | ⟨i,e,h1,h2,rfl⟩
  ·exact aT.setObj rfl rfl hG.set (hC _ ⟨b,_,_,rfl,rfl,he.push hn⟩)
  ·have uT:es[i]? = some e:=by simpa using h1
   have cL:ai P (Instr.keyThatStays (((es[i]?).map (·.key)).getD (fI p)) (fI p)) (fI p):=by
    rw [uT]
    simp only [Option.map_some,Option.getD_some,h2,Instr.keyThatStays,aDm,if_true]
    exact ai.pure _
   exact ai.eN cL (aT.setObj rfl rfl hG.set (hC _ ⟨b,_,_,rfl,rfl,he.sB uT h2⟩)))
end
end Go.Lg
namespace Go.Lg
open Go.Conc
def ja{α:Type}(m:Nat)(xs:List α)(i:Int):Option (List α):=if 0≤i∧i.toNat * m+m≤xs.length then some ((xs.drop (i.toNat * m)).take m) else none
def pn{α:Type}(m:Nat)(xs:List α)(i k:Int)(x:α):List α:=xs.set (i.toNat * m+k.toNat) x
def FU{α:Type}(m:Nat)(xs:List α)(i:Int)(r:List α):List α:=xs.take (i.toNat * m)++(r++xs.drop (i.toNat * m+m))
section
variable {α:Type} {m n:Nat} {xs r g:List α} {i k:Int} {x y:α}
theorem xU(h:ja m xs i=some r):0≤i∧i.toNat * m+m≤xs.length∧r=(xs.drop (i.toNat * m)).take m:=by
 unfold ja at h
 split at h
 ·rename_i hc; cases h; exact ⟨hc.1,hc.2,rfl⟩
 ·cases h
theorem ox(h:ja m xs i=some r):r.length=m:=by
 obtain ⟨_,h2,rfl⟩:=xU h
 simp only [List.length_take,List.length_drop]
 omega
theorem FV(h:xs.length=n):(pn m xs i k x).length=n:=by simpa [pn] using h
theorem aDt(h:ja m xs i=some r)(hx:xs.length=n)(hg:g.length=m):(FU m xs i g).length=n:=by
 obtain ⟨_,h2,_⟩:=xU h
 simp only [FU,List.length_append,List.length_take,List.length_drop]
 omega
theorem vw{P:Program}{t e len K b o:Nat}(ht:uD P t len e K)(hl:xs.length=len * m)(hm:0 < m)(h:ja m xs i=some r):yE P t (.pointer (some ⟨b,o,none⟩)) i b (o+i.toNat * K):=by
 obtain ⟨h1,h2,_⟩:=xU h
 refine acz ht ⟨h1,?_⟩
 rw [hl] at h2
 have h3:(i.toNat+1) * m≤len * m:=by rw [Nat.add_mul]; omega
 have:=Nat.le_of_mul_le_mul_right h3 hm
 omega
theorem aDi{pre post:List Value}{f:α→Value}{p:Nat}(h:ja m xs i=some r)(hp:pre.length=p):∃ a c,pre++(xs.map f++post)=a++(r.map f++c)∧a.length=p+i.toNat * m:=by
 obtain ⟨_,h2,rfl⟩:=xU h
 refine ⟨pre++(xs.take (i.toNat * m)).map f,(xs.drop (i.toNat * m+m)).map f++post,?_,by simp [hp]; omega⟩
 have e:xs=xs.take (i.toNat * m)++((xs.drop (i.toNat * m)).take m++xs.drop (i.toNat * m+m)):=by
  rw [← List.drop_drop,List.take_append_drop,List.take_append_drop]
 conv=>lhs; rw [e]
 simp
theorem aQ.row{R:ax}{H:an}{b o p:Nat}{f:α→Value}{pre post:List Value}(hc:aQ R H b o (pre++(xs.map f++post)))(h:ja m xs i=some r)(hp:pre.length=p):aQ R H b (o+p+i.toNat * m) ([]++(r.map f++[])):=by
 obtain ⟨a,c,e,ha⟩:=aDi (post:=post) (f:=f) h hp
 rw [e] at hc
 have:=hc.part (j:=a.length) (n:=(r.map f).length) (aEc rfl rfl)
 rw [ha] at this
 simpa [Nat.add_assoc] using this
theorem Qe{pre post:List Value}{f:α→Value}{p:Nat}(h:ja m xs i=some r)(hk:idx r k=some y)(hp:pre.length=p):Nat.blt (p+i.toNat * m+k.toNat * 1) ((pre++(xs.map f++post)).toArray).size=true:=by
 obtain ⟨_,h2,_⟩:=xU h
 obtain ⟨_,h4,h5⟩:=tG hk
 have:=ox h
 have:=(List.getElem?_eq_some_iff.1 h5).1
 rw [Nat.blt_eq]
 simp
 omega
theorem Qg{pre post:List Value}{f:α→Value}{p:Nat}(h:ja m xs i=some r)(hk:idx r k=some y)(hp:pre.length=p):((pre++(xs.map f++post)).toArray).setIfInBounds (p+i.toNat * m+k.toNat * 1) (f x)=(pre++((pn m xs i k x).map f++post)).toArray:=by
 obtain ⟨_,h2,_⟩:=xU h
 obtain ⟨_,h4,h5⟩:=tG hk
 have:=ox h
 have:=(List.getElem?_eq_some_iff.1 h5).1
 subst hp
 unfold pn
 simp only [Nat.mul_one,List.setIfInBounds_toArray,List.map_set]
 congr 1
 rw [List.set_append_right _ _ (by omega),show pre.length+i.toNat * m+k.toNat - pre.length=i.toNat * m+k.toNat by omega,List.set_append_left _ _ (by simp; omega)]
theorem aDg{pre post:List Value}{f:α→Value}{p:Nat}(h:ja m xs i=some r)(hp:pre.length=p):Nat.ble (p+i.toNat * m+m) ((pre++(xs.map f++post)).toArray).size=true:=by
 obtain ⟨_,h2,_⟩:=xU h
 rw [Nat.ble_eq]
 simp
 omega
theorem aCB{a c vs ws:List Value}{cs:Array Value}{off:Nat}(pP:cs=(a++(vs++c)).toArray)(ha:a.length=off)(hl:ws.length=vs.length):fL cs off ws=(a++(ws++c)).toArray:=by
 subst pP ha
 apply Array.ext_getElem?
 intro j
 rw [CJ ws _ _ j (by simp; omega)]
 by_cases hj:a.length≤j∧j < a.length+ws.length
 ·rw [if_pos hj]
  simp only [List.getElem?_toArray]
  rw [List.getElem?_append_right hj.1,List.getElem?_append_left (by omega)]
 ·rw [if_neg hj]
  simp only [List.getElem?_toArray]
  by_cases h1:j < a.length
  ·rw [List.getElem?_append_left h1,List.getElem?_append_left h1]
  ·rw [List.getElem?_append_right (by omega),List.getElem?_append_right (by omega),List.getElem?_append_right (by omega),List.getElem?_append_right (by omega),hl]
theorem aDk{pre post:List Value}{f:α→Value}{p:Nat}(h:ja m xs i=some r)(hg:g.length=m)(hp:pre.length=p):fL ((pre++(xs.map f++post)).toArray) (p+i.toNat * m) (([]:List Value)++(g.map f++[]))=(pre++((FU m xs i g).map f++post)).toArray:=by
 obtain ⟨_,h2,_⟩:=xU h
 have hr:=ox h
 have e:xs=xs.take (i.toNat * m)++(r++xs.drop (i.toNat * m+m)):=by
  obtain ⟨_,_,rfl⟩:=xU h
  rw [← List.drop_drop,List.take_append_drop,List.take_append_drop]
 have e2:(pre++(xs.map f++post)).toArray=((pre++(xs.take (i.toNat * m)).map f)++(r.map f++((xs.drop (i.toNat * m+m)).map f++post))).toArray:=by
  conv=>lhs; rw [e]
  simp
 have:=aCB (ws:=([]:List Value)++(g.map f++[])) (off:=p+i.toNat * m) e2 (by simp [hp]; omega) (by simp [hg,hr])
 rw [this]
 simp [FU]
end
section
variable {P:Program} {B:Base} {main:Bool} {c:Ctx} {R:ax} {H:an} {st st':St} {o:Oper} {C:ax→an→St→Prop}
theorem Ox.V0{α:Type}{x y:Operand}{t e len:Nat}{f:α→Value}{xs:List α}{a:α}{kd:IntKind}{i:Int}(au:o.op = .index t x y) (hx:bh st x=some (.agg (List.toArray ([]++(xs.map f++[]))))) (hy:bh st y=some (.int kd i)) (ht:uD P t len e 1) (he:ai P (isAgg e) false) (hl:xs.length=len) (hi:idx xs i=some a)
  (hd:bV o.dst c.n) (hs:aF (bW o.dst (f a) st) st') (h:C R H st'):aZ P B c o R H st C:=by
 obtain ⟨h1,h2,h3⟩:=tG hi
 exact Ox.BR au hx hy ht he ⟨h1,by omega⟩ (by simp [h3]) hd hs h
end
end Go.Lg
namespace Go.Lg
instance {n:Nat}:CM (nm Value.bool n):=⟨λ _ h=>h,λ ⟨_,h⟩ u hu=>by
 subst h
 simp only [List.nil_append,List.append_nil,List.mem_map] at hu
 obtain ⟨_,_,rfl⟩:=hu
 rfl⟩
instance {n:Nat} {kd:IntKind}:CM (nm (Value.int kd) n):=⟨λ _ h=>h,λ ⟨_,h⟩ u hu=>by
 subst h
 simp only [List.nil_append,List.append_nil,List.mem_map] at hu
 obtain ⟨_,_,rfl⟩:=hu
 rfl⟩
end Go.Lg
namespace Go.Lg
open Go.Conc
section
variable {P:Program} {B:Base} {main:Bool} {c:Ctx} {R:ax} {H:an} {st st':St} {o:Oper} {C:ax→an→St→Prop}
theorem Ox.aCH{t:TypeId}{x:Operand}{s:ByteArray}(au:o.op = .range t x)(hx:bh st x=some (.string s))(hu:P.underlying t=some .string)(hd:bV o.dst c.n)
  (hC:∀ b,R b=none→(∀ y,(b,y) ∉ H)→∃ st',aF (bW o.dst (.pointer (some ⟨b,0,none⟩)) st) st'∧C R ((b,.stringIter s 0)::H) st'):aZ P B c o R H st C :=
 Ox.mem (s:=λ ρ=>Instr.range t (ρ x)) (by rw [au]; rfl) hd (λ ρ=>by simp only [execOp,au]) (λ ρ bf=>by
  rw [bf x _ hx]
  unfold Instr.range
  refine ai.eN (ai.underlying hu) (ai.eN (ai.pure _) ?_)
  exact aT.bind (aT.new λ b h1 h2=>aT.pure (hC b h1 h2)))
theorem Ox.aBB{x:Operand}{b:Nat}{s:ByteArray}{pos:Nat}(au:o.op = .next x true)(hx:bh st x=some (.pointer (some ⟨b,0,none⟩)))(hb:(b,Obj.stringIter s pos)∈H)(hp:¬ pos < s.size)(hd:bV o.dst c.n)
  (hs:aF (bW o.dst (.tuple #[.bool false]) st) st') (h:C R H st'):aZ P B c o R H st C :=
 Ox.mem (s:=λ ρ=>Instr.next (ρ x) true o.type) (by rw [au]; rfl) hd (λ ρ=>by simp only [execOp,au]) (λ ρ bf=>by
  rw [bf x _ hx]
  unfold Instr.next
  refine aT.bind (aT.getObj rfl (.inr hb) ?_)
  simp only [hp,if_false]
  exact aT.pure ⟨st',hs,h⟩)
theorem Ox.aBC{x:Operand}{b:Nat}{s:ByteArray}{pos:Nat}{H':an}(au:o.op = .next x true)(hx:bh st x=some (.pointer (some ⟨b,0,none⟩)))(hb:fa H b (.stringIter s pos) (.stringIter s (pos+(Utf8.decode s pos).2)) H')(hp:pos < s.size)(hd:bV o.dst c.n)
  (hs:aF (bW o.dst (.tuple #[.bool true,.int .i64 (pos:Int),.int .i32 ((Utf8.decode s pos).1:Int)]) st) st') (h:C R H' st'):aZ P B c o R H st C :=
 Ox.mem (s:=λ ρ=>Instr.next (ρ x) true o.type) (by rw [au]; rfl) hd (λ ρ=>by simp only [execOp,au]) (λ ρ bf=>by
  rw [bf x _ hx]
  unfold Instr.next
  refine aT.bind (aT.getObj rfl (.inr hb.mem) ?_)
  simp only [hp,if_true]
  exact aT.bind (aT.setObj rfl rfl hb (aT.pure ⟨st',hs,h⟩)))
end
end Go.Lg
namespace Go.Lg
open Go.Conc
class mg (P:Program) where
 off:Nat→Nat→Option Nat
 ok:∀ s f n,off s f=some n→gf P s f n
def N2(fo:Nat→Nat→Option Nat)(st:St)(o:Oper):Option Value :=
 match o.op with
 | .move x=>bh st x
 | .assign x=>bh st x
 | .pick x y z=>match bh st x with
  | some (.bool true)=>bh st y
  | some (.bool false)=>bh st z
  | _=>none
 | .extract x j=>match bh st x with
  | some (.tuple vs)=>vs[j]?
  | _=>none
 | .unOp .not _ x=>match bh st x with
  | some (.bool a)=>some (.bool (!a))
  | _=>none
 | .binOp bo _ x y _=>match bh st x,bh st y with
  | some (.int kd a),some (.int BS b)=>if kd=BS then (match QP bo a b with
   | some r=>some (.bool r)
   | none=>match Qc bo a b with
    | some z=>some (.int kd (kd.wrap z))
    | none=>none) else none
  | _,_=>none
 | .fieldAddr s x f=>match bh st x,fo s f with
  | some (.pointer (some ⟨b,n,none⟩)),some off=>some (.pointer (some ⟨b,n+off,none⟩))
  | _,_=>none
 | _=>none
section
variable {P:Program} [mg P] {B:Base} {main:Bool} {ae:Jd P B main} {c:Ctx} {R:ax} {H:an} {st st':St} {o:Oper} {C:ax→an→St→Prop} {k:List Item}
theorem aev{v:Value}(h:N2 (mg.off P) st o=some v)(hd:bV o.dst c.n)(hs:aF (bW o.dst v st) st')(hC:C R H st'):aZ P B c o R H st C:=by
 unfold N2 at h
 split at h
 ·rename_i x au; exact Ox.move au h hd hs hC
 ·rename_i x au; exact Ox.assign au h hd hs hC
 ·rename_i x y z au
  split at h
  ·rename_i hx; exact Ox.aCw au hx h hd hs hC
  ·rename_i hx; exact Ox.aCv au hx h hd hs hC
  ·cases h
 ·rename_i x j au
  split at h
  ·rename_i hx; exact Ox.extract au hx h hd hs hC
  ·cases h
 ·rename_i t x au
  split at h
  ·rename_i hx; cases h; exact Ox.not au hx hd hs hC
  ·cases h
 ·rename_i bo t x y u au
  split at h
  ·rename_i kd a BS b hx hy
   split at h
   ·rename_i e; subst e
    split at h
    ·rename_i r hr; cases h; exact Ox.cmp au hx hy hr hd hs hC
    ·split at h
     ·rename_i z hz; cases h; exact Ox.ar au hx hy hz hd hs hC
     ·cases h
   ·cases h
  ·cases h
 ·rename_i s x f au
  split at h
  ·rename_i hx hf; cases h; exact Ox.fieldAddr au hx (mg.ok s f _ hf) hd hs hC
  ·cases h
 ·cases h
def Xn(fo:Nat→Nat→Option Nat)(ops:Array Oper)(n:Nat)(st:St)(i:Nat):Option St :=
 match ops[i]? with
 | none=>none
 | some o=>match cJ ops st o with
  | some true=>match N2 fo st o,o.dst with
   | some v,some d=>if Nat.blt d n=true then some ((d,v)::st) else none
   | _,_=>none
  | some false=>match mF o.op,o.dst with
   | false,some d=>if Nat.blt d n=true then some ((d,undef)::st) else none
   | false,none=>some st
   | _,_=>none
  | none=>none
def zW(fo:Nat→Nat→Option Nat)(ops:Array Oper)(n:Nat):List Nat→St→Option St
 | [],st=>some st
 | i::is,st=>match Xn fo ops n st i with
  | some st'=>zW fo ops n is st'
  | none=>none
theorem aeR{ops:Array Oper}{n i:Nat}{fo:Nat→Nat→Option Nat}(h:Xn fo ops n st i=some st'):∃ o,ops[i]? = some o ∧
  ((cJ ops st o=some true∧∃ v d,N2 fo st o=some v∧o.dst=some d∧bV (some d) n∧st'=(d,v)::st) ∨
   (cJ ops st o=some false∧mF o.op=false∧bV o.dst n∧st'=bW o.dst undef st)):=by
 unfold Xn at h
 split at h
 ·cases h
 ·rename_i o ho
  refine ⟨o,ho,?_⟩
  split at h
  ·rename_i hw
   split at h
   ·rename_i v d hv hd
    split at h
    ·rename_i hl; cases h; exact .inl ⟨hw,v,d,hv,hd,hl,rfl⟩
    ·cases h
   ·cases h
  ·rename_i hw
   split at h
   ·rename_i d lZ hd
    split at h
    ·rename_i hl; cases h; exact .inr ⟨hw,lZ,by rw [hd]; exact hl,by rw [hd]; rfl⟩
    ·cases h
   ·rename_i lZ hd
    cases h; exact .inr ⟨hw,lZ,by rw [hd]; rfl,by rw [hd]; rfl⟩
   ·cases h
  ·cases h
theorem U.run{ops:Array Oper}(hk:(c.kind == CallKind.early)=false):∀ {is rest:List Nat} {st:St},zW (mg.off P) ops c.n is st=some st'→U ae c R H st' (.inRegion ops rest::k)→U ae c R H st (.inRegion ops (is++rest)::k)
 | [],rest,st,h,ha=>by cases h; exact ha
 | i::is,rest,st,h,ha=>by
  unfold zW at h
  split at h
  ·rename_i vS h1
   have ih:=U.run hk h ha
   obtain ⟨o,ho,⟨hw,v,d,hv,hd,hl,rfl⟩ | ⟨hw,lZ,hl,rfl⟩⟩:=aeR h1
   ·exact U.ix ho hw hk (aev hv (by rw [hd]; exact hl) (by rw [hd]; exact aF.refl _) ih)
   ·exact U.unwanted ho hw hl (aF.refl _) ih
  ·cases h
theorem U.vs(m:Nat){ops:Array Oper}{is qG:List Nat}(h:zW (mg.off P) ops c.n (is.take m) st=some st')(hr:is.drop m=qG)(ha:U ae c R H st' (.inRegion ops qG::k))(hk:(c.kind == CallKind.early)=false:=by rfl):U ae c R H st (.inRegion ops is::k):=by
 subst hr
 have:=U.run (rest:=is.drop m) hk h ha
 rwa [List.take_append_drop] at this
def aao(ops:Array Oper)(rem:List Nat)(i:Nat):Nat→List Nat→List Nat
 | 0,D=>D
 | n+1,D=>aao ops rem i n (rem.filter λ j=>j != i && (D.contains j || match ops[j]? with | some o=>o.after.any λ e=>Region.binds .any e && (e.on == i || D.contains e.on) | none=>false))
def LJ(ops:Array Oper)(rem:List Nat)(i:Nat):List Nat:=aao ops rem i rem.length []
def LG(ops:Array Oper):List Nat→List Nat→Bool
 | _,[]=>true
 | rem,i::is=>decide rem.Nodup && p8 ops rem i (LJ ops rem i) && LG ops (rem.erase i) is
theorem Any.vs'{S:Nat→an}{ops:Array Oper}{n:Nat}:∀ (is:List Nat) {rem:List Nat} {st:St},zW (mg.off P) ops c.n is st=some st'→LG ops rem is=true→Any ae c S ops k n (is.foldl List.erase rem) R H st'→Any ae c S ops k (n+is.length) rem R H st
 | [],rem,st,h,_,ha=>by cases h; exact ha
 | i::is,rem,st,h,hc,ha=>by
  unfold zW at h
  split at h
  ·rename_i vS h1
   simp only [LG,Bool.and_eq_true,decide_eq_true_eq] at hc
   obtain ⟨⟨dL,jQ⟩,hc⟩:=hc
   have ih:=Any.vs' is h hc ha
   obtain ⟨o,ho,⟨hw,v,d,hv,hd,hl,rfl⟩ | ⟨hw,lZ,hl,rfl⟩⟩:=aeR h1
   ·exact Any.CX (N:=[]) _ ho hd hw jQ (λ _ _ _ _ p hp=>by cases hp) (λ p hp=>by cases hp) (λ R' H' _ _=>aev hv (by rw [hd]; exact hl) (.one hd) ⟨rfl,rfl,rfl⟩) (aF.refl _) dL rfl ih
   ·exact Any.aD9 _ ho jQ lZ hl hw (aF.refl _) dL rfl ih
  ·cases h
theorem Any.vs{S:Nat→an}{ops:Array Oper}{n:Nat}(m:Nat)(is:List Nat){rem:List Nat}{st:St}(h:zW (mg.off P) ops c.n is st=some st')(ha:Any ae c S ops k n (is.foldl List.erase rem) R H st')(hc:LG ops rem is=true:=by decide +kernel)(hm:is.length=m:=by rfl):Any ae c S ops k (n+m) rem R H st:=by
 subst hm
 exact Any.vs' is h hc ha
end
section
variable {P:Program} {B:Base} {main:Bool} {ae:Jd P B main} {c:Ctx} {R:ax} {H:an} {st st':St} {o:Oper} {C:ax→an→St→Prop} {k:List Item}
theorem U.rg(is:List Nat){id:Nat}{ops:Array Oper}(h:U ae c R H st (.inRegion ops is::k))(hn:ops.size=is.length:=by rfl)(l5:List.range is.length=is:=by rfl):U ae c R H st (.code (.region id ops false)::k):=U.aCV hn l5 h
theorem U.dw(is:List Nat){id:Nat}{ops:Array Oper}(hm:P.follows .mixedOrders=true)(h:Any ae c (λ _=>H) ops k is.length is R H st)(hk:(c.kind == CallKind.early)=false:=by rfl)(hb:backward ops=true:=by decide +kernel)(hn:ops.size=is.length:=by rfl)(l5:List.range is.length=is:=by rfl):U ae c R H st (.code (.region id ops true)::k):=U.ajI hm hk hb hn l5 h
theorem Any.tk(i:Nat){N:an}{ops:Array Oper}{n d:Nat}{rem:List Nat}{v:Value}(ho:ops[i]? = some o)(hS:∀ p∈N,p∈H)(hf:∀ R' H',aS R R'→(∀ p∈N,p∈H')→aZ P B c o R' H' st λ R1 H1 vS=>R1=R'∧H1=H'∧vS=[(d,v)])
  (h:Any ae c (λ _=>N) ops k n (rem.erase i) R H ((d,v)::st)) (om:o.dst=some d:=by rfl) (hw:cJ ops st o=some true:=by rfl) (jQ:p8 ops rem i (LJ ops rem i)=true:=by decide +kernel) (dL:rem.Nodup:=by decide):Any ae c (λ _=>N) ops k (n+1) rem R H st :=
 Any.CX _ ho om hw jQ (λ _ _ _ _ _ hp=>hp) hS hf (aF.refl _) dL rfl h
theorem U.cv{ops:Array Oper}{i d:Nat}{rest:List Nat}{ca:Call}{x:Operand}{f:FuncId}{first captured:Array Value}{vs:List Value}{args:Array Value}{Post:Value→ax→an→Prop}(he:bl P f)(hf:aB ae f args R H Post)
  (h:∀ v R' H',Post v R' H'→U ae c R' H' ((d,v)::st) (.inRegion ops rest::k))
  (ho:ops[i]? = some o:=by rfl) (hw:cJ ops st o=some true:=by rfl) (hk:(c.kind == CallKind.early)=false:=by rfl) (au:o.op = .call ca:=by rfl) (hc:ca.callee = .value x:=by rfl) (hx:bh st x=some (.func (.func f) first captured):=by rfl)
  (ha:iD st ca.args.toList=some vs:=by rfl) (HG:first++vs.toArray++captured=args:=by rfl) (hd:o.dst=some d:=by rfl) (hl:Nat.blt d c.n=true:=by rfl):U ae c R H st (.inRegion ops (i::rest)::k) :=
 U.step ho hw hk (Ox.fB au hc hx ha he HG (by rw [hd]; exact hl) (hf.mono λ v R' H' hp=>⟨_,.put hd,h v R' H' hp⟩))
theorem Any.cv(i:Nat){S:Nat→an}{ops:Array Oper}{n d:Nat}{rem:List Nat}{ca:Call}{x:Operand}{f:FuncId}{first captured:Array Value}{vs:List Value}{args:Array Value}{Post:Value→ax→an→Prop}(he:bl P f)(hf:aB ae f args R H Post)
  (h:∀ v R' H',Post v R' H'→aS R R'∧(∀ p∈S i,p∈H→p∈H')∧Any ae c S ops k n (rem.erase i) R' H' ((d,v)::st))
  (ho:ops[i]? = some o:=by rfl) (hw:cJ ops st o=some true:=by rfl) (au:o.op = .call ca:=by rfl) (hc:ca.callee = .value x:=by rfl) (hx:bh st x=some (.func (.func f) first captured):=by rfl)
  (ha:iD st ca.args.toList=some vs:=by rfl) (HG:first++vs.toArray++captured=args:=by rfl) (hd:o.dst=some d:=by rfl) (hl:Nat.blt d c.n=true:=by rfl) (mD:rem.filter (nM ops rem)=[i]:=by decide +kernel) (dL:rem.Nodup:=by decide):Any ae c S ops k (n+1) rem R H st :=
 Any.one ho mD hw dL rfl (Ox.fB au hc hx ha he HG (by rw [hd]; exact hl) (hf.mono λ v R' H' hp=>⟨_,.put hd,h v R' H' hp⟩))
theorem Any.on(i:Nat){S:Nat→an}{ops:Array Oper}{n:Nat}{rem:List Nat}(ho:ops[i]? = some o)(hw:cJ ops st o=some true)
  (h:oJ ae c o R H st λ R' H' st'=>aS R R'∧(∀ p∈S i,p∈H→p∈H')∧Any ae c S ops k n (rem.erase i) R' H' st') (mD:rem.filter (nM ops rem)=[i]:=by decide +kernel) (dL:rem.Nodup:=by decide):Any ae c S ops k (n+1) rem R H st:=Any.one ho mD hw dL rfl h
theorem U.ld{ops:Array Oper}{i d:Nat}{rest:List Nat}{x:Operand}{t:TypeId}{b off:Nat}{v:Value}(ht:gS P t)(hc:Cell R H ⟨b,off,none⟩ v)(h:U ae c R H ((d,v)::st) (.inRegion ops rest::k))
  (ho:ops[i]? = some o:=by rfl) (hw:cJ ops st o=some true:=by rfl) (hk:(c.kind == CallKind.early)=false:=by rfl) (au:o.op = .load t x:=by rfl) (hx:bh st x=some (.pointer (some ⟨b,off,none⟩)):=by rfl) (hd:o.dst=some d:=by rfl) (hl:Nat.blt d c.n=true:=by rfl):U ae c R H st (.inRegion ops (i::rest)::k) :=
 U.ix ho hw hk (Ox.dg au hx ht hc (by rw [hd]; exact hl) (.put hd) h)
theorem U.kn(t:Nat){x b:Bool}{todo:List Item}(hb:x=b)(h:U ae c R H ((t,.bool b)::st) todo)(hx:st.lookup t=some (.bool x):=by rfl):U ae c R H st todo:=U.known hx hb h
theorem U.s{ops:Array Oper}{i:Nat}{rest:List Nat}(ho:ops[i]? = some o)(hw:cJ ops st o=some true)(h:aZ P B c o R H st λ R' H' st'=>U ae c R' H' st' (.inRegion ops rest::k))(hk:(c.kind == CallKind.early)=false:=by rfl):U ae c R H st (.inRegion ops (i::rest)::k):=U.ix ho hw hk h
end
abbrev aK:List Nat:=[0]
abbrev aU:List Nat:=[0,1]
abbrev bc:List Nat:=[0,1,2]
abbrev bR:List Nat:=[0,1,2,3]
abbrev bZ:List Nat:=[0,1,2,3,4]
abbrev hF:List Nat:=[0,1,2,3,4,5]
abbrev ey:List Nat:=[0,1,2,3,4,5,6]
abbrev gl:List Nat:=[0,1,2,3,4,5,6,7]
abbrev lg:List Nat:=[0,1,2,3,4,5,6,7,8]
abbrev pf:List Nat:=[0,1,2,3,4,5,6,7,8,9]
abbrev qV:List Nat:=[0,1,2,3,4,5,6,7,8,9,10]
abbrev zU:List Nat:=[0,1,2,3,4,5,6,7,8,9,10,11]
abbrev J4:List Nat:=[0,1,2,3,4,5,6,7,8,9,10,11,12]
abbrev Xc:List Nat:=[0,1,2,3,4,5,6,7,8,9,10,11,12,13]
abbrev Xd:List Nat:=[0,1,2,3,4,5,6,7,8,9,10,11,12,13,14]
abbrev N4:List Nat:=[0,1,2,3,4,5,6,7,8,9,10,11,12,13,14,15]
abbrev aC0:List Nat:=[0,1,2,3,4,5,6,7,8,9,10,11,12,13,14,15,16]
abbrev Xe:List Nat:=[0,1,2,3,4,5,6,7,8,9,10,11,12,13,14,15,16,17]
abbrev aC1:List Nat:=[0,1,2,3,4,5,6,7,8,9,10,11,12,13,14,15,16,17,18,19,20,21,22,23,24,25]
abbrev aey:List Nat:=[0,1,2,3,4,5,6,7,8,9,10,11,12,13,14,15,16,17,18,19,20,21,22,23,24,25,26]
abbrev aC2:List Nat:=[0,1,2,3,4,5,6,7,8,9,10,11,12,13,14,15,16,17,18,19,20,21,22,23,24,25,26,27]
abbrev aez:List Nat:=[0,1,2,3,4,5,6,7,8,9,10,11,12,13,14,15,16,17,18,19,20,21,22,23,24,25,26,27,28]
abbrev aC3:List Nat:=[0,1,2,3,4,5,6,7,8,9,10,11,12,13,14,15,16,17,18,19,20,21,22,23,24,25,26,27,28,29,30,31]
abbrev aC4:List Nat:=[0,1,2,3,4,5,6,7,8,9,10,11,12,13,14,15,16,17,18,19,20,21,22,23,24,25,26,27,28,29,30,31,32,33,34,35,36,37]
abbrev aC5:List Nat:=[0,1,2,3,4,5,6,7,8,9,10,11,12,13,14,15,16,17,18,19,20,21,22,23,24,25,26,27,28,29,30,31,32,33,34,35,36,37,38,39,40,41]
abbrev aC6:List Nat:=[0,1,2,3,4,5,6,7,8,9,10,11,12,13,14,15,16,17,18,19,20,21,22,23,24,25,26,27,28,29,30,31,32,33,34,35,36,37,38,39,40,41,42]
abbrev aC7:List Nat:=[0,1,2,3,4,5,6,7,8,9,10,11,12,13,14,15,16,17,18,19,20,21,22,23,24,25,26,27,28,29,30,31,32,33,34,35,36,37,38,39,40,41,42,43,44]
abbrev aC8:List Nat:=[0,1,2,3,4,5,6,7,8,9,10,11,12,13,14,15,16,17,18,19,20,21,22,23,24,25,26,27,28,29,30,31,32,33,34,35,36,37,38,39,40,41,42,43,44,45,46,47,48,49]
abbrev aC9:List Nat:=[0,1,2,3,4,5,6,7,8,9,10,11,12,13,14,15,16,17,18,19,20,21,22,23,24,25,26,27,28,29,30,31,32,33,34,35,36,37,38,39,40,41,42,43,44,45,46,47,48,49,50,51]
end Go.Lg
namespace Go.Lg
section
variable {α:Type} {a DU G5 Lu Qo ZK ajl aMa aMb x:α} {l l₁ EI:List α}
theorem so(h:List.Sublist l₁ EI):List.Sublist l₁ (a::EI):=h.cons a
theorem sk(h:List.Sublist l₁ EI):List.Sublist (a::l₁) (a::EI):=List.Sublist.cons_cons a h
theorem sr:List.Sublist l l:=.refl _
theorem sn:List.Sublist [] l:=List.nil_sublist _
theorem su(h:List.Sublist l₁ EI):∀ p∈l₁,p∈EI:=λ _ hp=>h.subset hp
theorem pp:∀ p∈l,p∈l:=λ _ h=>h
theorem z0:x∈x::l:=.head _
theorem z1:x∈a::x::l:=.tail _ z0
theorem z2:x∈a::DU::x::l:=.tail _ z1
theorem z3:x∈a::DU::G5::x::l:=.tail _ z2
theorem z4:x∈a::DU::G5::Lu::x::l:=.tail _ z3
theorem z5:x∈a::DU::G5::Lu::Qo::x::l:=.tail _ z4
theorem z6:x∈a::DU::G5::Lu::Qo::ZK::x::l:=.tail _ z5
theorem z7:x∈a::DU::G5::Lu::Qo::ZK::ajl::x::l:=.tail _ z6
end
section
variable {P:Program} {B:Base} {main:Bool} {ae:Jd P B main} {c:Ctx} {R:ax} {H:an} {st st':St} {o:Oper} {k:List Item}
theorem sq{x y:Code}(h:U ae c R H st (.code x :: .code y::k)):U ae c R H st (.code (.seq x y)::k):=U.seq h
theorem er{ops:Array Oper}(h:U ae c R H st k):U ae c R H st (.inRegion ops []::k):=U.aV h
theorem es{ops:Array Oper}{x y:Code}(h:U ae c R H st (.code x :: .code y::k)):U ae c R H st (.inRegion ops [] :: .code (.seq x y)::k):=U.aV (U.seq h)
theorem sg(is:List Nat){id:Nat}{ops:Array Oper}{y:Code}(h:U ae c R H st (.inRegion ops is :: .code y::k))(hn:ops.size=is.length:=by rfl)(l5:List.range is.length=is:=by rfl):U ae c R H st (.code (.seq (.region id ops false) y)::k):=U.seq (U.rg is h hn l5)
theorem nx(is:List Nat){id:Nat}{os ops:Array Oper}{y:Code}(h:U ae c R H st (.inRegion ops is :: .code y::k))(hn:ops.size=is.length:=by rfl)(l5:List.range is.length=is:=by rfl):U ae c R H st (.inRegion os [] :: .code (.seq (.region id ops false) y)::k):=U.aV (sg is h hn l5)
theorem sp(h:U ae c R H st k):U ae c R H st (.code .skip::k):=U.skip h
theorem vs[mg P](m:Nat){ops:Array Oper}{is qG:List Nat}(ha:U ae c R H st' (.inRegion ops qG::k))(h:zW (mg.off P) ops c.n (is.take m) st=some st':=by rfl)(hr:is.drop m=qG:=by rfl)(hk:(c.kind == CallKind.early)=false:=by rfl):U ae c R H st (.inRegion ops is::k):=U.vs m h hr ha hk
theorem ld(j:Nat){ops:Array Oper}{i d:Nat}{rest:List Nat}{x:Operand}{t e:TypeId}{b:Nat}{fz:Nat × Nat}{L:List Value}{v:Value}(ht:gS P t)(hm:(b,Obj.cells L.toArray e fz)∈H)(h:U ae c R H ((d,v)::st) (.inRegion ops rest::k))(hj:L[j]? = some v:=by rfl)
  (ho:ops[i]? = some o:=by rfl) (hw:cJ ops st o=some true:=by rfl) (hk:(c.kind == CallKind.early)=false:=by rfl) (au:o.op = .load t x:=by rfl) (hx:bh st x=some (.pointer (some ⟨b,0+j,none⟩)):=by rfl) (hd:o.dst=some d:=by rfl) (hl:Nat.blt d c.n=true:=by rfl):U ae c R H st (.inRegion ops (i::rest)::k) :=
 U.ld ht ((aQ.box hm).one hj) h ho hw hk au hx hd hl
theorem lN(vs:List Value)(j n:Nat){ops:Array Oper}{i d:Nat}{rest:List Nat}{x:Operand}{t e:TypeId}{b:Nat}{fz:Nat × Nat}{L:List Value}{m:Nat}(ht:mT P t m)(hm:(b,Obj.cells L.toArray e fz)∈H)(h:U ae c R H ((d,.agg vs.toArray)::st) (.inRegion ops rest::k))(hv:(L.drop j).take n=vs:=by rfl)
  (ho:ops[i]? = some o:=by rfl) (hw:cJ ops st o=some true:=by rfl) (hk:(c.kind == CallKind.early)=false:=by rfl) (au:o.op = .load t x:=by rfl) (hx:bh st x=some (.pointer (some ⟨b,0+j,none⟩)):=by rfl) (hn:vs.length=m:=by rfl) (hd:o.dst=some d:=by rfl) (hl:Nat.blt d c.n=true:=by rfl):U ae c R H st (.inRegion ops (i::rest)::k) :=
 U.s ho hw (Ox.bN au hx ht hn ((aQ.box hm).part hv) (by rw [hd]; exact hl) (.put hd) h) hk
theorem bx{ops:Array Oper}{i d:Nat}{rest:List Nat}{x:Operand}{t:TypeId}{vs:Array Value}(h:∀ b,U ae c R ((b,.cells vs t)::H) ((d,.pointer (some ⟨b,0,none⟩))::st) (.inRegion ops rest::k))
  (ho:ops[i]? = some o:=by rfl) (hw:cJ ops st o=some true:=by rfl) (hk:(c.kind == CallKind.early)=false:=by rfl) (au:o.op = .box t x:=by rfl) (hx:bh st x=some (.agg vs):=by rfl) (hd:o.dst=some d:=by rfl) (hl:Nat.blt d c.n=true:=by rfl):U ae c R H st (.inRegion ops (i::rest)::k) :=
 U.s ho hw (Ox.ZC au hx (by rw [hd]; exact hl) λ b _ _=>⟨_,.put hd,h b⟩) hk
theorem sc{α:Type}{t:Bool}{a b:Option α}{r:α}{x:Operand}{th el:Code}(hM:ag t a b=some r)(h1:t=true→a=some r→U ae c R H st (.code th::k))(h2:t=false→b=some r→U ae c R H st (.code el::k))(hx:bh st x=some (.bool t):=by rfl):U ae c R H st (.code (.cond x th el)::k) :=
 bL hM (λ h hM=>U.fu hx h (h1 h hM)) (λ h hM=>U.eD hx h (h2 h hM))
theorem ls{α:Type}{K:cB α}{n:Nat}{ops:Array Oper}{i d:Nat}{rest:List Nat}{x:Operand}{t e:TypeId}{v:Value}{xs:List α}(hl:aa K n R v xs)(ht:P.underlying t=some (.slice e))(h:U ae c R H ((d,.int .i64 (xs.length:Int))::st) (.inRegion ops rest::k))
  (ho:ops[i]? = some o:=by rfl) (hw:cJ ops st o=some true:=by rfl) (hk:(c.kind == CallKind.early)=false:=by rfl) (au:o.op = .call ⟨.builtin .len,#[x],#[t]⟩:=by rfl) (hx:bh st x=some v:=by rfl) (hd:o.dst=some d:=by rfl) (hn:Nat.blt d c.n=true:=by rfl):U ae c R H st (.inRegion ops (i::rest)::k) :=
 U.s ho hw (Ox.tJ au hx hl ht (by rw [hd]; exact hn) (.put hd) h) hk
theorem lr{α:Type}{K:cB α}{n:Nat}{ops:Array Oper}{i d:Nat}{rest:List Nat}{x:Operand}{t e:TypeId}{v:Value}{xs:List α}{H0:an}(hl:di K n R H0 v xs)(ht:P.underlying t=some (.slice e))(h:U ae c R H ((d,.int .i64 (xs.length:Int))::st) (.inRegion ops rest::k))
  (ho:ops[i]? = some o:=by rfl) (hw:cJ ops st o=some true:=by rfl) (hk:(c.kind == CallKind.early)=false:=by rfl) (au:o.op = .call ⟨.builtin .len,#[x],#[t]⟩:=by rfl) (hx:bh st x=some v:=by rfl) (hd:o.dst=some d:=by rfl) (hn:Nat.blt d c.n=true:=by rfl):U ae c R H st (.inRegion ops (i::rest)::k) :=
 U.s ho hw (Ox.Wa au hx hl ht (by rw [hd]; exact hn) (.put hd) h) hk
theorem rt{fr:Frame}{cs:List Frame}{f:FuncId}{n:Nat}{fn:Func}{vs:List Value}{H':an}(hf:P.funcs[f]? = some fn)(hr:oK P R H st fn.results.toList vs)(hs:List.Sublist H' H)(hj:ae.J R H' (aY (fr.finish (gZ vs)) cs)):U ae ⟨f,.normal,none,n,[],fr::cs⟩ R H st (.code .ret::k) :=
 U.CK hf hr (J.drop hs hj)
theorem ts(i:Nat){ops:Array Oper}{n d:Nat}{rem:List Nat}{S:Nat→an}{v:Value}{N:an}(D:List Nat)(ho:ops[i]? = some o)(wL:∀ j∈rem,j≠i→j ∉ D→∀ p∈N,p∈S j)(hS:∀ p∈N,p∈H)
  (hf:∀ R' H',aS R R'→(∀ p∈N,p∈H')→aZ P B c o R' H' st λ R1 H1 vS=>R1=R'∧H1=H'∧vS=[(d,v)]) (h:Any ae c S ops k n (rem.erase i) R H ((d,v)::st))
  (om:o.dst=some d:=by rfl) (hw:cJ ops st o=some true:=by rfl) (jQ:p8 ops rem i D=true:=by decide +kernel) (dL:rem.Nodup:=by decide):Any ae c S ops k (n+1) rem R H st :=
 Any.CX D ho om hw jQ wL hS hf (aF.refl _) dL rfl h
theorem tl(i j:Nat){ops:Array Oper}{n d:Nat}{rem:List Nat}{x:Operand}{t e:TypeId}{b:Nat}{fz:Nat × Nat}{L:List Value}{v:Value}(ht:gS P t)(hm:(b,Obj.cells L.toArray e fz)∈H)(h:Any ae c (λ _=>H) ops k n (rem.erase i) R H ((d,v)::st))(hj:L[j]? = some v:=by rfl)
  (ho:ops[i]? = some o:=by rfl) (au:o.op = .load t x:=by rfl) (hx:bh st x=some (.pointer (some ⟨b,0+j,none⟩)):=by rfl) (om:o.dst=some d:=by rfl) (hl:Nat.blt d c.n=true:=by rfl) (hw:cJ ops st o=some true:=by rfl) (jQ:p8 ops rem i (LJ ops rem i)=true:=by decide +kernel) (dL:rem.Nodup:=by decide):Any ae c (λ _=>H) ops k (n+1) rem R H st :=
 Any.tk i ho pp (λ _ _ _ hS=>Ox.dg au hx ht ((aQ.box (hS _ hm)).one hj) (by rw [om]; exact hl) (.one om) ⟨rfl,rfl,rfl⟩) h om hw jQ dL
theorem tN(i:Nat)(vs:List Value)(j m:Nat){ops:Array Oper}{n d:Nat}{rem:List Nat}{x:Operand}{t e:TypeId}{b:Nat}{fz:Nat × Nat}{L:List Value}{q:Nat}(ht:mT P t q)(hm:(b,Obj.cells L.toArray e fz)∈H)(h:Any ae c (λ _=>H) ops k n (rem.erase i) R H ((d,.agg vs.toArray)::st))(hv:(L.drop j).take m=vs:=by rfl)
  (ho:ops[i]? = some o:=by rfl) (au:o.op = .load t x:=by rfl) (hx:bh st x=some (.pointer (some ⟨b,0+j,none⟩)):=by rfl) (hq:vs.length=q:=by rfl) (om:o.dst=some d:=by rfl) (hl:Nat.blt d c.n=true:=by rfl) (hw:cJ ops st o=some true:=by rfl) (jQ:p8 ops rem i (LJ ops rem i)=true:=by decide +kernel) (dL:rem.Nodup:=by decide):Any ae c (λ _=>H) ops k (n+1) rem R H st :=
 Any.tk i ho pp (λ _ _ _ hS=>Ox.bN au hx ht hq ((aQ.box (hS _ hm)).part hv) (by rw [om]; exact hl) (.one om) ⟨rfl,rfl,rfl⟩) h om hw jQ dL
theorem tw(i j:Nat){S:Nat→an}{ops:Array Oper}{n:Nat}{rem:List Nat}{a b:Oper}(h1:oJ ae c a R H st λ R' H' st'=>aS R R'∧(∀ p∈S i,p∈H→p∈H')∧Any ae c S ops k n (rem.erase i) R' H' st')
  (h2:oJ ae c b R H st λ R' H' st'=>aS R R'∧(∀ p∈S j,p∈H→p∈H')∧Any ae c S ops k n (rem.erase j) R' H' st') (ha:ops[i]? = some a:=by rfl) (hb:ops[j]? = some b:=by rfl) (mD:rem.filter (nM ops rem)=[i,j]:=by decide +kernel) (IJ:cJ ops st a=some true:=by rfl) (IK:cJ ops st b=some true:=by rfl) (dL:rem.Nodup:=by decide):Any ae c S ops k (n+1) rem R H st :=
 Any.aEl ha hb mD IJ IK dL rfl rfl h1 h2
theorem ka{H X:an}:∀ p∈H,p∈X→p∈H:=λ _ h _=>h
theorem kp{R:ax}{H X:an}{C:Prop}(h:C):aS R R∧(∀ p∈H,p∈X→p∈H)∧C:=⟨aS.refl _,ka,h⟩
theorem ku{H H' X:an}(h:List.Sublist H H'):∀ p∈H,p∈X→p∈H':=λ _ hp _=>h.subset hp
theorem rr{R:ax}:aS R R:=aS.refl _
end
abbrev CZ:cB Int:=CI .i64
end Go.Lg
namespace Go.Lg
open Go.Conc
def sG(v:Value)(lo k:Nat):Value:=match v with | .slice A n cap=>.slice (if cap=lo then A else A.map (·.add (lo * k))) (n - lo) (cap - lo) | v=>v
def yT(xs:List Int)(lo:Nat):List Int:=xs.take lo++List.replicate (xs.length - lo) 0
theorem ajy{α:Type}{xs ys:List α}{lo hi:Int}(h:oN xs lo hi=some ys):lo.toNat≤xs.length:=by
 obtain ⟨h1,h2,h3,_⟩:=Hd h
 omega
section
variable {P:Program} {B:Base} {main:Bool} {ae:Jd P B main} {c:Ctx} {R:ax} {H H':an} {st st':St} {o:Oper} {C:ax→an→St→Prop}
theorem bB.view{α:Type}{K:cB α}{k e:Nat}{v:Value}{xs:List α}{Hs:an}{lo:Nat}(h:bB K k e R v xs Hs)(hs:∀ p∈Hs,p∈H):di K k R H (sG v lo k) (xs.drop lo):=by
 obtain ⟨A,cap,es,rfl,hE,wM,hm⟩:=h.rd hs
 refine ⟨if cap=lo then A else A.map (·.add (lo * k)),cap - lo,es.drop (lo * k),by simp [sG],hE.drop,by simp; omega,λ eH=>?_⟩
 have bE:lo < xs.length:=by
  apply Classical.byContradiction
  intro hn
  exact eH (List.drop_eq_nil_of_le (by omega))
 obtain ⟨b,o',rfl,g2⟩:=hm (by rintro rfl; simp at bE)
 refine ⟨b,o'+lo * k,?_,λ j w hj=>?_⟩
 ·rw [if_neg (by omega)]; simp [rB]
 ·rw [List.getElem?_drop] at hj
  have:=g2 _ _ hj
  simpa [Nat.add_assoc] using this
theorem bB.afh{α:Type}{K:cB α}{k t e e':Nat}{v:Value}{xs ys:List α}{Hs:an}{lo:Int}(h:bB K k e R v xs Hs)(ht:mW P t e' k)(hc:oN xs lo (xs.length:Int)=some ys):Du P t k v (xs.length:Int) lo (xs.length:Int) (sG v lo.toNat k):=by
 obtain ⟨h1,h2,h3,_⟩:=Hd hc
 obtain ⟨A,cap,es,rfl,hE,wM,hm⟩:=h.rd (H:=Hs) (λ _ h=>h)
 intro ρ st x lo' hi bf hx hl hh
 rw [Int.toNat_natCast] at hh
 rw [hx]
 unfold Instr.sliceAt
 refine ai.bind (ai.underlying ht.1) ?_
 unfold Instr.slice
 refine ai.bind (ai.underlying ht.1) (ai.bind (OL bf hl hh ⟨h1,h2,h3⟩ wM) (ai.bind ht.2 ?_))
 simp only [sG,Int.toNat_natCast]
 exact ai.pure _
theorem bB.front{α:Type}{K:cB α}{k t e e':Nat}{v:Value}{xs ys:List α}{Hs:an}{hi:Int}(h:bB K k e R v xs Hs)(ht:mW P t e' k)(hc:oN xs 0 hi=some ys):∃ v',bB K k e R v' ys Hs∧Du P t k v (xs.length:Int) 0 hi v':=by
 obtain ⟨h1,h2,h3,rfl⟩:=Hd hc
 have key:∀ A cap,v = .slice A xs.length cap→xs.length≤cap→Du P t k v (xs.length:Int) 0 hi (.slice (if cap=0 then A else A.map (·.add (0 * k))) (hi.toNat - 0) (cap - 0)):=by
  rintro A cap rfl wM ρ st x lo' oY bf hx hl hh
  rw [Int.toNat_natCast] at hh
  rw [hx]
  unfold Instr.sliceAt
  refine ai.bind (ai.underlying ht.1) ?_
  unfold Instr.slice
  exact ai.bind (ai.underlying ht.1) (ai.bind (OL bf hl hh ⟨h1,h2,h3⟩ wM) (ai.bind ht.2 (ai.pure _)))
 rcases h with ⟨A,rfl,rfl,rfl⟩ | ⟨b,cap,cs,es,rfl,rfl,g3,g4,g5,g6⟩
 ·have:=key A 0 rfl (Nat.le_refl _)
  have h0:hi.toNat=0:=by simp at h3; omega
  rw [h0] at this
  exact ⟨_,.inl ⟨A,rfl,by simp,rfl⟩,by simpa using this⟩
 ·refine ⟨_,?_,key _ cap rfl g4⟩
  have zi:((xs.take hi.toNat).drop (0:Int).toNat).length=hi.toNat:=by simp; omega
  refine .inr ⟨b,cap,cs,es.take (hi.toNat * k),?_,rfl,g3,by rw [zi]; omega,by simpa using g5.take,λ j w hj=>?_⟩
  ·rw [zi]
   congr 1
   split <;> simp [rB]
  ·rw [List.getElem?_take] at hj
   split at hj
   ·exact g6 _ _ hj
   ·cases hj
theorem Ox.ay0{α:Type}{K:cB α}{k e' lo:Nat}{x:Operand}{t e:TypeId}{v:Value}{xs:List α}{Hs:an}(au:o.op = .call ⟨.builtin .len,#[x],#[t]⟩)(hx:bh st x=some (sG v lo k))(hl:bB K k e' R v xs Hs)(ht:P.underlying t=some (.slice e))
  (hd:bV o.dst c.n) (hs:aF (bW o.dst (.int .i64 ((xs.drop lo).length:Int)) st) st') (h:C R H st'):aZ P B c o R H st C :=
 Ox.Wa au hx (hl.view (H:=Hs) (λ _ h=>h)) ht hd hs h
theorem Ox.ajt{t e lo:Nat}(G:an→an){x:Operand}{v:Value}{xs:List Int}{Hs:an}(au:o.op = .call ⟨.builtin .clear,#[x],#[t]⟩)(hx:bh st x=some (sG v lo 1))(ht:mW P t e 1)(hz:jf P e #[.int .i64 0])(hG:kV G)
  (hO:bB (CI .i64) 1 e R v xs Hs) (hlo:lo≤xs.length) (hd:bV o.dst c.n) (hC:∀ dR,bB (CI .i64) 1 e R v (yT xs lo) dR→∃ st',aF (bW o.dst (.tuple #[]) st) st'∧C R (G dR) st'):aZ P B c o R (G Hs) st C:=by
 refine ⟨by rw [au]; rfl,hd,λ ρ bf=>?_⟩
 simp only [execOp,au]
 refine ai.eN (a:=⟨.builtin .clear #[t] o.type (#[x].map λ | .const _=>true | _=>false),#[x].map ρ⟩) (ai.pure _) ?_
 simp only [invoke,builtin]
 have e1:(#[x].map ρ)=#[sG v lo 1]:=by simp [bf x _ hx]
 rw [e1]
 have fin:∀ dR,bB (CI .i64) 1 e R v (yT xs lo) dR→aT P B R (G dR) (pure (Value.tuple #[])) λ a R' H'=>aT P B R' H' (pure (Next.value a)) λ nx R' H'=>∃ v,(nx = .value v∨(nx = .skip∧v=undef))∧∃ st',aF (bW o.dst v st) st'∧C R' H' st':=λ dR h=>by
  obtain ⟨st',hs,hC'⟩:=hC dR h
  exact aT.pure (aT.pure ⟨_,.inl rfl,st',hs,hC'⟩)
 refine aT.bind ?_
 unfold Builtin.clear_
 refine ai.eN (ai.underlying ht.1) ?_
 by_cases hn:xs.length - lo=0
 ·have hv:∃ A cap,sG v lo 1 = .slice A 0 cap:=by
   obtain ⟨A,cap,es,rfl,_⟩:=hO.rd (H:=Hs) (λ _ h=>h)
   exact ⟨_,_,by simp only [sG,hn]; rfl⟩
  obtain ⟨A,cap,hv⟩:=hv
  rw [hv]
  have hcl:yT xs lo=xs:=by
   unfold yT
   rw [hn,List.replicate_zero,List.append_nil,List.take_of_length_le (by omega)]
  rw [hcl] at fin
  cases A with
  | none=>exact aT.bind (aT.pure (fin Hs hO))
  | some a=>exact aT.bind (aT.pure (fin Hs hO))
 ·rcases hO with ⟨A,rfl,rfl,rfl⟩ | ⟨b,cap,cs,es,rfl,rfl,g3,g4,g5,g6⟩
  ·simp at hn
  ·have hv:sG (.slice (some ⟨b,0,none⟩) xs.length cap) lo 1 = .slice (some ⟨b,lo,none⟩) (xs.length - lo) (cap - lo):=by
    simp only [sG]
    rw [if_neg (by omega)]
    simp [rB]
   rw [hv]
   obtain ⟨m,hm⟩:∃ m,xs.length - lo=m+1:=⟨xs.length - lo - 1,by omega⟩
   rw [hm]
   dsimp only
   obtain ⟨z0,hz0,hzc⟩:=hz
   refine ai.eN hz0 (aT.bind ?_)
   have S6:(Builtin.zeroCells z0.cells (m+1)).toList=List.replicate (m+1) (Value.int .i64 0):=by
    rw [hzc]
    apply List.ext_getElem?
    intro j
    simp only [Builtin.zeroCells]
    by_cases hj:j < m+1
    ·simp [hj,Nat.mod_one]
    ·simp [hj]
   rw [S6]
   have fC:lo+(m+1)≤cs.size:=by omega
   refine aT.given λ dL=>aT.Of _ cs lo 0 (G [(b,.cells cs e (0,0))]) (G [(b,.cells (fL cs lo (List.replicate (m+1) (Value.int .i64 0))) e (0,0))]) (λ u hu=>by rw [List.eq_of_mem_replicate hu]; rfl) (by simp; omega) (by simpa using kV.set hG) dL ?_
   have abU:(yT xs lo).length=xs.length:=by simp [yT]; omega
   refine fin _ (.inr ⟨b,cap,fL cs lo (List.replicate (m+1) (Value.int .i64 0)),es.take lo++List.replicate (m+1) (Value.int .i64 0),by rw [abU],rfl,by rw [J0]; exact g3,by rw [abU]; exact g4,?_,λ j w hj=>?_⟩)
   ·have h1:=g5.take (n:=lo)
    rw [Nat.mul_one] at h1
    unfold yT
    rw [hm]
    refine h1.append ?_
    refine ⟨by simp,λ i x hx=>?_⟩
    rw [List.getElem?_replicate] at hx
    split at hx
    ·rename_i hi
     cases hx
     refine ⟨[.int .i64 0],rfl,rfl,λ j w hj=>?_⟩
     have hj1:=(List.getElem?_eq_some_iff.1 hj).1
     have hj0:j=0:=by simp at hj1; omega
     subst hj0
     rw [Nat.mul_one,List.getElem?_replicate,if_pos (by omega)]
     exact hj
    ·cases hx
   ·have lF:=g5.len
    rw [Nat.mul_one] at lF
    rw [CJ _ _ _ _ (by simp; omega)]
    rcases Nat.lt_or_ge j lo with Eg | Eg
    ·rw [List.getElem?_append_left (by simp; omega),List.getElem?_take,if_pos Eg] at hj
     rw [if_neg (by omega)]
     exact g6 _ _ hj
    ·rw [List.getElem?_append_right (by simp; omega)] at hj
     have zj:(es.take lo).length=lo:=by simp; omega
     rw [zj] at hj
     have bE:=(List.getElem?_eq_some_iff.1 hj).1
     rw [if_pos ⟨Eg,by simp at bE ⊢; omega⟩]
     exact hj
end
end Go.Lg
namespace Go.Lg
def af{α:Type}(a b:Option α):Prop:=∀ r,a=some r→b=some r
theorem af.refl{α:Type}(a:Option α):af a a:=λ _ h=>h
theorem af.none{α:Type}{b:Option α}:af none b:=λ _ h=>by cases h
theorem af.bind{α β:Type}{a a':Option α}{f f':α→Option β}(h:af a a')(hf:∀ x,af (f x) (f' x)):af (a.bind f) (a'.bind f'):=by
 intro r hr
 obtain ⟨x,hx,hr⟩:=aj hr
 rw [h x hx]
 exact hf x r hr
theorem af.ag{α:Type}{t:Bool}{a a' b b':Option α}(h:af a a')(h':af b b'):af (ag t a b) (ag t a' b'):=by
 cases t
 ·exact h'
 ·exact h
def pT{S O:Type}(body:S→Option (S ⊕ O))(s:S):Option O:=mH body 200 s
theorem af.mH{S O:Type}{body G3:S→Option (S ⊕ O)}(h:∀ s,af (body s) (G3 s)):∀ (n:Nat) (s:S),af (Go.Lg.mH body n s) (bD G3 s)
 | 0,_=>λ _ hr=>by cases hr
 | n+1,s=>λ r hr=>by
  simp only [Go.Lg.mH] at hr
  cases hb:body s with
  | none=>rw [hb] at hr; cases hr
  | some x =>
   rw [hb] at hr
   have fY:=h s x hb
   cases x with
   | inl s'=>rw [EH fY]; exact af.mH h n s' r hr
   | inr o=>cases hr; exact vz fY
theorem af.loop{S O:Type}{body G3:S→Option (S ⊕ O)}{s:S}(h:∀ s,af (body s) (G3 s)):af (pT body s) (bD G3 s):=af.mH h 200 s
theorem af.elim{α β γ:Type}{f f':α→Option γ}{g g':β→Option γ}(h:∀ x,af (f x) (f' x))(h':∀ x,af (g x) (g' x))(x:α ⊕ β):af (Sum.elim f g x) (Sum.elim f' g' x):=by
 cases x
 ·exact h _
 ·exact h' _
theorem af.gm{α S O:Type}{f f':α→S→Option (S ⊕ O)}(h:∀ x s,af (f x s) (f' x s))(x:α)(s:S ⊕ O):af (Go.Lg.gm f x s) (Go.Lg.gm f' x s):=by
 intro r hr
 cases s with
 | inr s=>cases hr
 | inl s =>
  simp only [Go.Lg.gm] at hr ⊢
  cases hf:f x s with
  | none=>rw [hf] at hr; cases hr
  | some z=>rw [hf] at hr; rw [h x s z hf]; exact hr
theorem af.mapM{α β:Type}{f f':α→Option β}(h:∀ x,af (f x) (f' x)):∀ l:List α,af (l.mapM f) (l.mapM f')
 | []=>af.refl _
 | a::l=>by
  intro r hr
  rw [List.mapM_cons] at hr ⊢
  cases ha:f a with
  | none=>rw [ha] at hr; simp at hr
  | some b =>
   cases hl:l.mapM f with
   | none=>rw [ha,hl] at hr; simp at hr
   | some bs =>
    rw [ha,hl] at hr
    rw [h a b ha,af.mapM h l bs hl]
    exact hr
end Go.Lg
namespace Go.Lg
abbrev ah:Value:=.slice none 0 0
theorem bP{α β:Sort _}{a:α}{b:β}:a=a∧b=b:=⟨rfl,rfl⟩
theorem aG{α β γ:Sort _}{a:α}{b:β}{d:γ}:a=a∧b=b∧d=d:=⟨rfl,rfl,rfl⟩
theorem av{st st':St}(h:bU st st'):aF st st':=bU.sub h
theorem pY{a0:Option Value}:a0=a0∧True:=⟨rfl,trivial⟩
theorem dM{a0 a1:Option Value}:a0=a0∧a1=a1∧True:=⟨rfl,rfl,trivial⟩
theorem dP{a0 a1 a2:Option Value}:a0=a0∧a1=a1∧a2=a2∧True:=⟨rfl,rfl,rfl,trivial⟩
theorem cU{a0 a1 a2 a3:Option Value}:a0=a0∧a1=a1∧a2=a2∧a3=a3∧True:=⟨rfl,rfl,rfl,rfl,trivial⟩
theorem eI{a0 a1 a2 a3 a4:Option Value}:a0=a0∧a1=a1∧a2=a2∧a3=a3∧a4=a4∧True:=⟨rfl,rfl,rfl,rfl,rfl,trivial⟩
theorem ir{a0 a1 a2 a3 a4 a5:Option Value}:a0=a0∧a1=a1∧a2=a2∧a3=a3∧a4=a4∧a5=a5∧True:=⟨rfl,rfl,rfl,rfl,rfl,rfl,trivial⟩
theorem iu{a0 a1 a2 a3 a4 a5 a6:Option Value}:a0=a0∧a1=a1∧a2=a2∧a3=a3∧a4=a4∧a5=a5∧a6=a6∧True:=⟨rfl,rfl,rfl,rfl,rfl,rfl,rfl,trivial⟩
theorem r9{a0 a1 a2 a3 a4 a5 a6 a7:Option Value}:a0=a0∧a1=a1∧a2=a2∧a3=a3∧a4=a4∧a5=a5∧a6=a6∧a7=a7∧True:=⟨rfl,rfl,rfl,rfl,rfl,rfl,rfl,rfl,trivial⟩
theorem zM{a0 a1 a2 a3 a4 a5 a6 a7 a8:Option Value}:a0=a0∧a1=a1∧a2=a2∧a3=a3∧a4=a4∧a5=a5∧a6=a6∧a7=a7∧a8=a8∧True:=⟨rfl,rfl,rfl,rfl,rfl,rfl,rfl,rfl,rfl,trivial⟩
theorem Fq{a0 a1 a2 a3 a4 a5 a6 a7 a8 a9:Option Value}:a0=a0∧a1=a1∧a2=a2∧a3=a3∧a4=a4∧a5=a5∧a6=a6∧a7=a7∧a8=a8∧a9=a9∧True:=⟨rfl,rfl,rfl,rfl,rfl,rfl,rfl,rfl,rfl,rfl,trivial⟩
theorem Nw{a0 a1 a2 a3 a4 a5 a6 a7 a8 a9 mh:Option Value}:a0=a0∧a1=a1∧a2=a2∧a3=a3∧a4=a4∧a5=a5∧a6=a6∧a7=a7∧a8=a8∧a9=a9∧mh=mh∧True:=⟨rfl,rfl,rfl,rfl,rfl,rfl,rfl,rfl,rfl,rfl,rfl,trivial⟩
theorem adN{a0 a1 a2 a3 a4 a5 a6 a7 a8 a9 mh pC:Option Value}:a0=a0∧a1=a1∧a2=a2∧a3=a3∧a4=a4∧a5=a5∧a6=a6∧a7=a7∧a8=a8∧a9=a9∧mh=mh∧pC=pC∧True:=⟨rfl,rfl,rfl,rfl,rfl,rfl,rfl,rfl,rfl,rfl,rfl,rfl,trivial⟩
theorem aMQ{a0 a1 a2 a3 a4 a5 a6 a7 a8 a9 mh pC sO:Option Value}:a0=a0∧a1=a1∧a2=a2∧a3=a3∧a4=a4∧a5=a5∧a6=a6∧a7=a7∧a8=a8∧a9=a9∧mh=mh∧pC=pC∧sO=sO∧True:=⟨rfl,rfl,rfl,rfl,rfl,rfl,rfl,rfl,rfl,rfl,rfl,rfl,rfl,trivial⟩
theorem tR{a0 a1 a2 a3 a4 a5 a6 a7 a8 a9 mh pC sO yI:Option Value}:a0=a0∧a1=a1∧a2=a2∧a3=a3∧a4=a4∧a5=a5∧a6=a6∧a7=a7∧a8=a8∧a9=a9∧mh=mh∧pC=pC∧sO=sO∧yI=yI∧True:=⟨rfl,rfl,rfl,rfl,rfl,rfl,rfl,rfl,rfl,rfl,rfl,rfl,rfl,rfl,trivial⟩
theorem aMR{a0 a1 a2 a3 a4 a5 a6 a7 a8 a9 mh pC sO yI GI:Option Value}:a0=a0∧a1=a1∧a2=a2∧a3=a3∧a4=a4∧a5=a5∧a6=a6∧a7=a7∧a8=a8∧a9=a9∧mh=mh∧pC=pC∧sO=sO∧yI=yI∧GI=GI∧True:=⟨rfl,rfl,rfl,rfl,rfl,rfl,rfl,rfl,rfl,rfl,rfl,rfl,rfl,rfl,rfl,trivial⟩
theorem aMS{a0 a1 a2 a3 a4 a5 a6 a7 a8 a9 mh pC sO yI GI YT:Option Value}:a0=a0∧a1=a1∧a2=a2∧a3=a3∧a4=a4∧a5=a5∧a6=a6∧a7=a7∧a8=a8∧a9=a9∧mh=mh∧pC=pC∧sO=sO∧yI=yI∧GI=GI∧YT=YT∧True:=⟨rfl,rfl,rfl,rfl,rfl,rfl,rfl,rfl,rfl,rfl,rfl,rfl,rfl,rfl,rfl,rfl,trivial⟩
section
variable {P:Program} {B:Base} {main:Bool} {ae:Jd P B main} {c:Ctx} {R:ax} {H:an} {st st':St} {o:Oper} {k:List Item} {ops:Array Oper} {i d:Nat} {rest:List Nat} {t e:TypeId}
theorem cE{x y:Operand}{v:Value}{kd:IntKind}{j:Int}{b n:Nat}(hv:yE P t v j b n)(h:U ae c R H ((d,.pointer (some ⟨b,n,none⟩))::st) (.inRegion ops rest::k))(ho:ops[i]? = some o:=by rfl)(hw:cJ ops st o=some true:=by rfl)(hk:(c.kind == CallKind.early)=false:=by rfl)
  (au:o.op = .indexAddr t x y:=by rfl) (hx:bh st x=some v:=by rfl) (hy:bh st y=some (.int kd j):=by rfl) (hd:o.dst=some d:=by rfl) (hl:Nat.blt d c.n=true:=by rfl):U ae c R H st (.inRegion ops (i::rest)::k) :=
 U.s ho hw (Ox.dJ au hx hy hv (by rw [hd]; exact hl) (.put hd) h) hk
theorem cx(cs:Array Value)(ht:jf P t cs)(h:∀ b,U ae c R ((b,.cells cs t)::H) ((d,.pointer (some ⟨b,0,none⟩))::st) (.inRegion ops rest::k))(ho:ops[i]? = some o:=by rfl)(hw:cJ ops st o=some true:=by rfl)(hk:(c.kind == CallKind.early)=false:=by rfl)
  (au:o.op = .alloc t:=by rfl) (hd:o.dst=some d:=by rfl) (hl:Nat.blt d c.n=true:=by rfl):U ae c R H st (.inRegion ops (i::rest)::k) :=
 U.s ho hw (Ox.alloc au ht (by rw [hd]; exact hl) λ b _ _=>⟨_,.put hd,h b⟩) hk
theorem dX(cells:Array Value){parts:Array (Nat × Operand)}{ps:List (Nat × Value)}{places:List (Nat × Nat)}{z:Array Value}(ht:uF P t places z)(h:U ae c R H ((d,.agg cells)::st) (.inRegion ops rest::k))(ho:ops[i]? = some o:=by rfl)(hw:cJ ops st o=some true:=by rfl)(hk:(c.kind == CallKind.early)=false:=by rfl)
  (au:o.op = .build t parts:=by rfl) (hp:zT st parts.toList=some ps:=by rfl) (hf:Instr.fill (places.toArray[·]?) z ps=some cells:=by repeat first | refine lu rfl rfl rfl rfl ?_ | exact mr) (hd:o.dst=some d:=by rfl) (hl:Nat.blt d c.n=true:=by rfl):U ae c R H st (.inRegion ops (i::rest)::k) :=
 U.s ho hw (Ox.build au ht hp hf (by rw [hd]; exact hl) (.put hd) h) hk
theorem fv(cells:Array Value){n len:Nat}{parts:Array (Nat × Operand)}{ps:List (Nat × Value)}{z base:Array Value}(ht:sJ P t e n z)(hb:(Array.range (len * n)).map (z[· % z.size]!)=base)(h:∀ b,U ae c R ((b,.cells cells e)::H) ((d,.slice (some ⟨b,0,none⟩) len len)::st) (.inRegion ops rest::k))
  (ho:ops[i]? = some o:=by rfl) (hw:cJ ops st o=some true:=by rfl) (hk:(c.kind == CallKind.early)=false:=by rfl) (au:o.op = .buildSlice t len parts:=by rfl) (hp:zT st parts.toList=some ps:=by rfl) (hlen:len * n≤16777216:=by decide) (hf:Instr.fill (λ j=>some (j * n,n)) base ps=some cells:=by repeat first | refine lu rfl rfl rfl rfl ?_ | exact mr) (hd:o.dst=some d:=by rfl) (hl:Nat.blt d c.n=true:=by rfl):U ae c R H st (.inRegion ops (i::rest)::k) :=
 U.s ho hw (Ox.buildSlice au ht hp hlen hb hf (by rw [hd]; exact hl) λ b _ _=>⟨_,.put hd,h b⟩) hk
theorem l7(cs':Array Value){x y:Operand}{b off:Nat}{v:Value}{cs:Array Value}{H':an}(ht:gS P t)(hs:fa H b (.cells cs e (0,0)) (.cells cs' e (0,0)) H')(h:U ae c R H' st (.inRegion ops rest::k))(ho:ops[i]? = some o:=by rfl)(hw:cJ ops st o=some true:=by rfl)(hk:(c.kind == CallKind.early)=false:=by rfl)
  (au:o.op = .store t x y:=by rfl) (hx:bh st x=some (.pointer (some ⟨b,off,none⟩)):=by rfl) (hy:bh st y=some v:=by rfl) (hv:v.oneCell'=true:=by rfl) (hl:Nat.blt off cs.size=true:=by rfl) (pP:cs.setIfInBounds off v=cs':=by rfl) (hd:o.dst=none:=by rfl):U ae c R H st (.inRegion ops (i::rest)::k) :=
 U.s ho hw (Ox.gp au hx hy ht hv hs hl pP hd (.refl _) h) hk
theorem cM(cs':Array Value){x y:Operand}{b off n:Nat}{vs cs:Array Value}{H':an}(ht:mT P t n)(hs:fa H b (.cells cs e (0,0)) (.cells cs' e (0,0)) H')(h:U ae c R H' st (.inRegion ops rest::k))(ho:ops[i]? = some o:=by rfl)(hw:cJ ops st o=some true:=by rfl)(hk:(c.kind == CallKind.early)=false:=by rfl)
  (au:o.op = .store t x y:=by rfl) (hx:bh st x=some (.pointer (some ⟨b,off,none⟩)):=by rfl) (hy:bh st y=some (.agg vs):=by rfl) (hn:vs.size=n:=by rfl) (h1:∀ u∈vs.toList,u.oneCell'=true:=by repeat first | exact bj | refine cN rfl ?_ | refine cN (aa.one (by assumption)) ?_ | refine cN (di.one (by assumption)) ?_ | refine cN (bB.one (by assumption)) ?_ | refine cN (aHG.one (by assumption)) ?_ | refine cN (aHH.one (by assumption)) ?_ | refine cN (lP.one (by assumption)) ?_) (hl:Nat.ble (off+n) cs.size=true:=by rfl) (pP:fL cs off vs.toList=cs':=by rfl) (hd:o.dst=none:=by rfl):U ae c R H st (.inRegion ops (i::rest)::k) :=
 U.s ho hw (Ox.cu au hx hy ht hn h1 hs hl pP hd (.refl _) h) hk
theorem JN{x:Operand}{u:TypeId}{kd ks k0:IntKind}{a:Int}(ht:P.underlying t=some (.int k0))(hu:P.underlying u=some (.int kd))(h:U ae c R H ((d,.int kd (kd.wrap a))::st) (.inRegion ops rest::k))(ho:ops[i]? = some o:=by rfl)(hw:cJ ops st o=some true:=by rfl)(hk:(c.kind == CallKind.early)=false:=by rfl)
  (au:o.op = .convert t u x:=by rfl) (hx:bh st x=some (.int ks a):=by rfl) (hd:o.dst=some d:=by rfl) (hl:Nat.blt d c.n=true:=by rfl):U ae c R H st (.inRegion ops (i::rest)::k) :=
 U.s ho hw (Ox.aju au hx ht hu (by rw [hd]; exact hl) (.put hd) h) hk
end
end Go.Lg
