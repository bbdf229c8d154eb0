/- Models, operations, lists, maps, ranges over functions. Conditions: none. -/
import Derived.Test.YtoaoffinglajbaaGreatDoorQBLgA
namespace Go.Lg
open Go.Conc
def fH{S O:Type}(body:S→Option (S ⊕ O)):Nat→S→Option O
 | 0,_=>none
 | n+1,s=>match body s with
  | none=>none
  | some (.inl s')=>fH body n s'
  | some (.inr o)=>some o
open Classical in
noncomputable def a1{S O:Type}(body:S→Option (S ⊕ O))(s:S):Option O:=if h:∃ o n,fH body n s=some o then some h.choose else none
theorem ug{S O:Type}{body:S→Option (S ⊕ O)}:∀ {n m:Nat} {s:S} {o:O},n≤m→fH body n s=some o→fH body m s=some o
 | 0,_,_,_,_,h=>by cases h
 | n+1,0,_,_,hm,_=>by omega
 | n+1,m+1,s,o,hm,h=>by
  simp only [fH] at h ⊢
  cases hb:body s with
  | none=>rw [hb] at h; cases h
  | some x=>cases x with
   | inl s'=>rw [hb] at h; exact ug (by omega) h
   | inr o'=>rw [hb] at h; exact h
theorem ui{S O:Type}{body:S→Option (S ⊕ O)}{n:Nat}{s:S}{o:O}(h:fH body n s=some o):a1 body s=some o:=by
 have hex:∃ o n,fH body n s=some o:=⟨o,n,h⟩
 unfold a1
 rw [dif_pos hex]
 obtain ⟨m,hm⟩:=hex.choose_spec
 have g:=ug (Nat.le_max_left n m) h
 have f:=ug (Nat.le_max_right n m) hm
 rw [g] at f
 exact f.symm
theorem uh{S O:Type}{body:S→Option (S ⊕ O)}{s:S}{o:O}(h:a1 body s=some o):∃ n,fH body n s=some o:=by
 unfold a1 at h
 split at h
 ·rename_i hex
  cases h
  exact hex.choose_spec
 ·cases h
theorem dO{S O:Type}{body:S→Option (S ⊕ O)}{s:S}{o:O}(h:body s=some (.inr o)):a1 body s=some o :=
 ui (n:=1) (by simp [fH,h])
theorem gC{S O:Type}{body:S→Option (S ⊕ O)}{s s':S}(h:body s=some (.inl s')):a1 body s=a1 body s':=by
 cases g:a1 body s' with
 | some o =>
  obtain ⟨n,f⟩:=uh g
  exact ui (n:=n+1) (by simp [fH,h,f])
 | none =>
  cases y:a1 body s with
  | none=>rfl
  | some o =>
   obtain ⟨n,f⟩:=uh y
   cases n with
   | zero=>cases f
   | succ n =>
    simp only [fH,h] at f
    rw [ui f] at g
    cases g
theorem ae{α β:Type}{o:Option α}{f:α→Option β}{r:β}(h:o.bind f=some r):∃ x,o=some x∧f x=some r:=by
 cases o with
 | none=>cases h
 | some x=>exact ⟨x,rfl,h⟩
def ab{α:Type}(t:Bool)(a b:Option α):Option α:=match t with | true=>a | false=>b
theorem a8{α:Type}{t:Bool}{a b:Option α}{r:α}{G:Prop}(h:ab t a b=some r)(f:t=true→a=some r→G)(g:t=false→b=some r→G):G:=by
 cases t with
 | true=>exact f rfl h
 | false=>exact g rfl h
theorem av{α:Type}{a b:α}(h:some a=some b):a=b:=ey h
def idx{α:Type}(xs:List α)(i:Int):Option α:=if 0≤i then xs[i.toNat]? else none
def cu{α:Type}(xs ys:List α):Option (List α):=if xs.length+ys.length≤16777216 then some (xs++ys) else none
def fw{α:Type}(xs:List α)(lo hi:Int):Option (List α):=if 0≤lo∧lo≤hi∧hi≤xs.length then some ((xs.take hi.toNat).drop lo.toNat) else none
theorem kK{α:Type}{xs:List α}{i:Int}{x:α}(h:idx xs i=some x):0≤i∧i < xs.length∧xs[i.toNat]? = some x:=by
 unfold idx at h
 split at h
 ·have:=(ep.1 h).1
  exact ⟨‹_›,by omega,h⟩
 ·cases h
theorem BW{α:Type}{xs ys f:List α}(h:cu xs ys=some f):xs.length+ys.length≤16777216∧f=xs++ys:=by
 unfold cu at h
 split at h
 ·cases h; exact ⟨‹_›,rfl⟩
 ·cases h
section
variable {P:Program} {B:Base} {main:Bool} {af:Jd P B main} {c:Ctx} {R:ay} {H:aj} {st aa:St} {k:List Item}
theorem U.a1{S O F:Type}{body:S→Option (S ⊕ O)}{cont:O→Option F}{g:S}{r:F}{code:Code}(y:(a1 body g).bind cont=some r)(I:S→ay→aj→St→Prop)
  (M:∀ s R H st,I s R H st→∀ x,body s=some x→(∀ s',x = .inl s'→∀ R' H' aa,I s' R' H' aa→U af c R' H' aa (.inLoop code::k))→(∀ o,x = .inr o→cont o=some r)→U af c R H st (.code code :: .inLoop code::k))
  (G:I g R H st):U af c R H st (.code (.loop code)::k):=by
 obtain ⟨o,z,Q⟩:=ae y
 obtain ⟨n,T⟩:=uh z
 clear y z
 have key:∀ n s R H st,fH body n s=some o→I s R H st→U af c R H st (.code code :: .inLoop code::k):=by
  intro n
  induction n with
  | zero=>intro s R H st h; cases h
  | succ n V =>
   intro s R H st h J
   simp only [fH] at h
   cases hb:body s with
   | none=>rw [hb] at h; cases h
   | some x =>
    rw [hb] at h
    refine M s R H st J x hb (λ s' f R' H' aa L=>?_) (λ o' f=>?_)
    ·subst f; exact U.inLoop (V s' R' H' aa h L)
    ·subst f; cases h; exact Q
 exact U.enterLoop (key n g R H st T G)
theorem U.known{t:Nat}{x b:Bool}{todo:List Item}(g:st.lookup t=some (.bool x))(hb:x=b)(h:U af c R H ((t,.bool b)::st) todo):U af c R H st todo:=by
 subst hb; exact λ tmps f=>h tmps (f.Ay g)
theorem Any.cK{S:Nat→aj}{ops:Array Oper}{n:Nat}{rem:List Nat}{t:Nat}{x b:Bool}(g:st.lookup t=some (.bool x))(hb:x=b)(h:Any af c S ops k n rem R H ((t,.bool b)::st)):Any af c S ops k n rem R H st:=by
 subst hb; exact ⟨h.1,λ tmps f=>h.2 tmps (f.Ay g)⟩
theorem U.nm{x:Operand}{th el:Code}{t:Bool}(g:a2 st x=some (.bool t))(f:t=true)(h:U af c R H st (.code th::k)):U af c R H st (.code (.cond x th el)::k):=by subst f; exact U.cond_true g h
theorem U.nk{x:Operand}{th el:Code}{t:Bool}(g:a2 st x=some (.bool t))(f:t=false)(h:U af c R H st (.code el::k)):U af c R H st (.code (.cond x th el)::k):=by subst f; exact U.cond_false g h
end
abbrev bF(α:Type):=ay→α→List Value→Prop
class CM {α:Type} (C:bF α):Prop where
 mono:∀ {R R':ay} {x:α} {es:List Value},aH R R'→C R x es→C R' x es
 one:∀ {R:ay} {x:α} {es:List Value},C R x es→∀ u∈es,u.oneCell'=true
def CI(kd:IntKind):bF Int:=λ _ x es=>es=[.int kd x]
def CB:bF Bool:=λ _ x es=>es=[.bool x]
def CS:bF ByteArray:=λ _ x es=>es=[.string x]
instance {kd:IntKind}:CM (CI kd):=⟨λ _ h=>h,λ h=>by cases h; simp [Value.oneCell']⟩
instance:CM CB:=⟨λ _ h=>h,λ h=>by cases h; simp [Value.oneCell']⟩
instance:CM CS:=⟨λ _ h=>h,λ h=>by cases h; simp [Value.oneCell']⟩
structure aO {α:Type} (C:bF α) (k:Nat) (R:ay) (xs:List α) (es:List Value):Prop where
 len:es.length=xs.length * k
 at_:∀ (i:Nat) (x:α),xs[i]? = some x→∃ e1:List Value,C R x e1∧e1.length=k∧∀ (j:Nat) (w:Value),e1[j]? = some w→es[i * k+j]? = some w
theorem aO.nil{α:Type}{C:bF α}{k:Nat}{R:ay}:aO C k R [] []:=⟨by simp,by simp⟩
theorem aO.mono{α:Type}{C:bF α}[CM C]{k:Nat}{R R':ay}{xs:List α}{es:List Value}(h:aO C k R xs es)(y:aH R R'):aO C k R' xs es :=
 ⟨h.len,λ i x z=>by obtain ⟨e1,f,g,s⟩:=h.at_ i x z; exact ⟨e1,CM.mono y f,g,s⟩⟩
theorem aO.append{α:Type}{C:bF α}{k:Nat}{R:ay}{xs ys:List α}{es G:List Value}(h:aO C k R xs es)(g:aO C k R ys G):aO C k R (xs++ys) (es++G):=by
 refine ⟨by rw [ew,ew,h.len,g.len,Nat.add_mul],λ i x f=>?_⟩
 by_cases hi:i < xs.length
 ·rw [fU hi] at f
  obtain ⟨e1,s,y,z⟩:=h.at_ i x f
  refine ⟨e1,s,y,λ j w F=>?_⟩
  have:=z j w F
  rw [fU (ep.1 this).1]
  exact this
 ·rw [fC (by omega)] at f
  obtain ⟨e1,s,y,z⟩:=g.at_ _ x f
  refine ⟨e1,s,y,λ j w F=>?_⟩
  have:=z j w F
  have e:i * k+j=es.length+((i - xs.length) * k+j):=by
   rw [h.len]
   have:i=xs.length+(i - xs.length):=by omega
   rw [← Nat.add_assoc,← Nat.add_mul,← this]
  rw [e,fC (by omega),Nat.add_sub_cancel_left]
  exact this
theorem aO.single{α:Type}{C:bF α}{k:Nat}{R:ay}{x:α}{es:List Value}(h:C R x es)(f:es.length=k):aO C k R [x] es:=by
 refine ⟨by simp [f],λ i y g=>?_⟩
 cases i with
 | zero=>cases g; exact ⟨es,h,f,λ j w s=>by simpa using s⟩
 | succ i=>simp at g
theorem aO.one{α:Type}{C:bF α}[CM C]{k:Nat}{R:ay}{xs:List α}{es:List Value}(h:aO C k R xs es):∀ u∈es,u.oneCell'=true:=by
 intro u hu
 obtain ⟨j,g⟩:=List.getElem?_of_mem hu
 have f:=(ep.1 g).1
 rw [h.len] at f
 have F:0 < k:=by cases k with | zero=>simp at f | succ k=>omega
 have hi:j / k < xs.length:=Nat.div_lt_of_lt_mul (by rw [Nat.mul_comm]; exact f)
 obtain ⟨e1,s,y,z⟩:=h.at_ (j / k) _ (e3 hi)
 have hm:j % k < e1.length:=by rw [y]; exact Nat.mod_lt _ F
 have:=z (j % k) _ (e3 hm)
 rw [show j / k * k+j % k=j by rw [Nat.mul_comm]; exact Nat.div_add_mod j k,g] at this
 cases this
 exact CM.one s _ (List.getElem_mem hm)
theorem aO.drop{α:Type}{C:bF α}{k n:Nat}{R:ay}{xs:List α}{es:List Value}(h:aO C k R xs es):aO C k R (xs.drop n) (es.drop (n * k)):=by
 refine ⟨by simp [h.len,Nat.sub_mul],λ i x f=>?_⟩
 rw [List.getElem?_drop] at f
 obtain ⟨e1,g,s,y⟩:=h.at_ _ x f
 refine ⟨e1,g,s,λ j w z=>?_⟩
 rw [List.getElem?_drop,← y j w z,Nat.add_mul,Nat.add_assoc]
theorem aO.take{α:Type}{C:bF α}{k n:Nat}{R:ay}{xs:List α}{es:List Value}(h:aO C k R xs es):aO C k R (xs.take n) (es.take (n * k)):=by
 refine ⟨by simp only [gK,h.len]; exact Nat.mul_min_mul_right _ _ _,λ i x f=>?_⟩
 rw [List.getElem?_take] at f
 split at f
 ·rename_i hi
  obtain ⟨e1,y,g,z⟩:=h.at_ _ x f
  refine ⟨e1,y,g,λ j w s=>?_⟩
  have F:j < k:=by rw [← g]; exact (ep.1 s).1
  rw [List.getElem?_take,if_pos,z j w s]
  calc i * k+j < i * k+k:=by omega
   _=(i+1) * k:=by rw [Nat.add_mul,Nat.one_mul]
   _≤n * k:=Nat.mul_le_mul_right k hi
 ·cases f
def ah{α:Type}(C:bF α)(k:Nat)(R:ay)(v:Value)(xs:List α):Prop :=
 ∃ A cap es,v = .slice A xs.length cap∧aO C k R xs es∧xs.length≤cap∧(xs≠[]→∃ b o arr e f,A=some ⟨b,o,none⟩∧R b=some (.cells arr e f)∧∀ (j:Nat) (w:Value),es[j]? = some w→arr[o+j]? = some w)
theorem ah.mono{α:Type}{C:bF α}[CM C]{k:Nat}{R R':ay}{v:Value}{xs:List α}(h:ah C k R v xs)(f:aH R R'):ah C k R' v xs:=by
 obtain ⟨A,cap,es,F,G,L,J⟩:=h
 refine ⟨A,cap,es,F,G.mono f,L,λ M=>?_⟩
 obtain ⟨b,o,arr,e,g,s,y,z⟩:=J M
 exact ⟨b,o,arr,e,g,s,f _ _ y,z⟩
theorem ah.nil{α:Type}{C:bF α}{k:Nat}{R:ay}{A:Option Addr}{cap:Nat}:ah C k R (.slice A 0 cap) []:=⟨A,cap,[],rfl,.nil,Nat.zero_le _,λ h=>absurd rfl h⟩
def iy{α:Type}(C:bF α)(k:Nat):bF (List α):=λ R xs es=>∃ v,es=[v]∧ah C k R v xs
instance {α:Type} {C:bF α} [CM C] {k:Nat}:CM (iy C k):=⟨λ s ⟨v,f,g⟩=>⟨v,f,g.mono s⟩,λ ⟨v,f,A,cap,es,g,_⟩=>by subst f; subst g; simp [Value.oneCell']⟩
def aX{α:Type}(C:bF α)(k e:Nat)(R:ay)(v:Value)(xs:List α)(Hs:aj):Prop :=
 (∃ A,v = .slice A 0 0∧xs=[]∧Hs=[])∨∃ b cap cs es,v = .slice (some ⟨b,0,none⟩) xs.length cap∧Hs=[(b,.cells cs e (0,0))]∧cs.size=cap * k∧xs.length≤cap∧aO C k R xs es∧∀ (j:Nat) (w:Value),es[j]? = some w→cs[j]? = some w
theorem aX.mono{α:Type}{C:bF α}[CM C]{k e:Nat}{R R':ay}{v:Value}{xs:List α}{Hs:aj}(h:aX C k e R v xs Hs)(G:aH R R'):aX C k e R' v xs Hs:=by
 rcases h with h | ⟨b,cap,cs,es,f,g,s,y,z,F⟩
 ·exact .inl h
 ·exact .inr ⟨b,cap,cs,es,f,g,s,y,z.mono G,F⟩
theorem aX.nil{α:Type}{C:bF α}{k e:Nat}{R:ay}{A:Option Addr}:aX C k e R (.slice A 0 0) [] []:=.inl ⟨A,rfl,rfl,rfl⟩
def e4{α:Type}(C:bF α)(k:Nat)(R:ay)(H:aj)(v:Value)(ys:List α):Prop :=
 ∃ A cap es,v = .slice A ys.length cap∧aO C k R ys es∧(ys≠[]→∃ b o,A=some ⟨b,o,none⟩∧aK R H b o es)
theorem ah.arg{α:Type}{C:bF α}{k:Nat}{R:ay}{H:aj}{v:Value}{xs:List α}(h:ah C k R v xs):e4 C k R H v xs:=by
 obtain ⟨A,cap,es,z,F,_,G⟩:=h
 refine ⟨A,cap,es,z,F,λ L=>?_⟩
 obtain ⟨b,o,arr,e,f,g,s,y⟩:=G L
 exact ⟨b,o,g,λ j w J=>⟨rfl,arr,e,f,.inl s,y j w J⟩⟩
theorem e4.lit{α:Type}{C:bF α}{k e n cap b:Nat}{R:ay}{H:aj}{ys:List α}{cs:Array Value}{f:Nat × Nat}(hm:(b,Obj.cells cs e f)∈H)(g:aO C k R ys cs.toList)(y:ys.length=n):e4 C k R H (.slice (some ⟨b,0,none⟩) n cap) ys:=by
 subst y
 exact ⟨_,cap,cs.toList,rfl,g,λ _=>⟨b,0,rfl,λ j w s=>⟨rfl,cs,e,f,.inr hm,by simpa using s⟩⟩⟩
def eu(G:aj→aj):Prop:=∃ A D,∀ X,G X=A++(X++D)
theorem eu.set{G:aj→aj}(f:eu G){b:Nat}{o o':Obj}:cU (G [(b,o)]) b o o' (G [(b,o')]):=by
 obtain ⟨A,D,h⟩:=f
 rw [h,h]
 clear h
 induction A with
 | nil=>exact .here
 | cons p A g=>exact .there g
end Go.Lg
namespace Go.Lg
open Go.Conc
section
variable {P:Program} {B:Base} {main:Bool} {af:Jd P B main} {c:Ctx} {R:ay} {H H':aj} {st aa:St} {o:Oper} {C:ay→aj→St→Prop}
def kx(P:Program)(t:TypeId)(v:Value)(i:Int)(b n:Nat):Prop:=∀ kd,al P (Instr.indexAt t v (.int kd i)) (.pointer (some ⟨b,n,none⟩))
theorem ah.elem{α:Type}{K:bF α}{k t e:Nat}{v:Value}{xs:List α}{i:Int}{x:α}(h:ah K k R v xs)(M:fs P t e k)(hi:idx xs i=some x) :
  ∃ b n es,K R x es∧aK R [] b n es∧kx P t v i b n:=by
 obtain ⟨F,Q,f⟩:=kK hi
 obtain ⟨A,cap,es,rfl,G,_,J⟩:=h
 obtain ⟨b,o,arr,g,s,rfl,y,z⟩:=J (by rintro rfl; simp at f)
 obtain ⟨e1,f1,f2,f3⟩:=G.at_ _ _ f
 refine ⟨b,o+i.toNat * k,e1,f1,λ j w L=>⟨rfl,arr,g,s,.inl y,?_⟩,λ kd=>?_⟩
 ·have:=z _ _ (f3 j w L)
  simpa [Nat.add_assoc] using this
 ·have:=vF (P:=P) (b:=b) (m:=o) (cap:=cap) (kd:=kd) M (j:=i.toNat) (len:=xs.length) (by omega)
  rwa [Int.toNat_of_nonneg F] at this
theorem Ox.rj{x y:Operand}{t:TypeId}{v:Value}{kd:IntKind}{i:Int}{b n:Nat}(g:o.op = .indexAddr t x y)(L:a2 st x=some v)(M:a2 st y=some (.int kd i))(J:kx P t v i b n)
  (F:bQ o.dst c.n) (G:aA (bJ o.dst (.pointer (some ⟨b,n,none⟩)) st) aa) (h:C R H aa):aJ P B c o R H st C :=
 Ox.e2 (s:=λ f=>Instr.indexAt t (f x) (f y)) (by rw [g]; rfl) F (λ f=>by simp only [execOp,g]) (λ f z=>by rw [z x _ L,z y _ M]; exact J kd) G h
theorem FF{t e len k b m:Nat}{i:Int}(f:jj P t len e k)(hi:0≤i∧i < len):kx P t (.pointer (some ⟨b,m,none⟩)) i b (m+i.toNat * k):=λ kd=>by
 have:=Mg (P:=P) (b:=b) (m:=m) (kd:=kd) f (j:=i.toNat) (by omega)
 rwa [Int.toNat_of_nonneg hi.1] at this
theorem Ox.iM{α:Type}{K:bF α}{k:Nat}{x:Operand}{t e:TypeId}{v:Value}{xs:List α}(s:o.op = .call ⟨.builtin .len,#[x],#[t]⟩)(F:a2 st x=some v)(g:ah K k R v xs)(z:P.underlying t=some (.slice e))
  (f:bQ o.dst c.n) (y:aA (bJ o.dst (.int .i64 (xs.length:Int)) st) aa) (h:C R H aa):aJ P B c o R H st C:=by
 obtain ⟨A,cap,es,rfl,_⟩:=g
 exact Ox.len s F z f y h
theorem Ox.js{α:Type}{K:bF α}{k F:Nat}{x:Operand}{t e:TypeId}{v:Value}{xs:List α}{Hs:aj}(g:o.op = .call ⟨.builtin .len,#[x],#[t]⟩)(z:a2 st x=some v)(G:aX K k F R v xs Hs)(y:P.underlying t=some (.slice e))
  (f:bQ o.dst c.n) (s:aA (bJ o.dst (.int .i64 (xs.length:Int)) st) aa) (h:C R H aa):aJ P B c o R H st C:=by
 rcases G with ⟨A,rfl,rfl,_⟩ | ⟨b,cap,cs,es,rfl,_⟩
 ·exact Ox.len g z y f s h
 ·exact Ox.len g z y f s h
def i64(z:Int):Int:=IntKind.wrap .i64 z
theorem rf{z:Int}(h : -9223372036854775808≤z∧z≤9223372036854775807):i64 z=z:=Mq h
theorem Ox.ar{x y:Operand}{g:BinOp}{t u:TypeId}{a b z:Int}{kd:IntKind}(F:o.op = .binOp g t x y u)(Q:a2 st x=some (.int kd a))(T:a2 st y=some (.int kd b))(G:sF g a b=some z)
  (L:bQ o.dst c.n) (M:aA (bJ o.dst (.int kd (kd.wrap z)) st) aa) (h:C R H aa):aJ P B c o R H st C :=
 Ox.e2 (s:=λ f=>do eqGuard g t x y (f x) (f y); binOp g t (f x) (f y)) (by rw [F]; rfl) L (λ f=>by simp only [execOp,F]) (λ f J=>by
  rw [J x _ Q,J y _ T]
  refine al.bj (mX _ _ _ _ _ _ _ _) ?_
  cases g <;> simp only [sF,eO,reduceCtorEq] at G <;> subst G <;> simp only [binOp,ne_eq,eW,if_false,Op.intArith] <;> exact al.bc _) M h
theorem Ox.mU{x:Operand}{t:TypeId}{a:Int}{kd:IntKind}(g:o.op = .unOp .neg t x)(F:a2 st x=some (.int kd a))
  (y:bQ o.dst c.n) (z:aA (bJ o.dst (.int kd (kd.wrap (0 - a))) st) aa) (h:C R H aa):aJ P B c o R H st C :=
 Ox.e2 (s:=λ f=>Op.unary .neg (f x)) (by rw [g]; rfl) y (λ f=>by simp only [execOp,g]) (λ f G=>by
  rw [G x _ F]
  simp only [Op.unary,Op.intArith]; exact al.bc _) z h
def ec(a b:Int):Option Int:=if b=0 then none else some (a.tmod b)
def fe(a b:Int):Option Int:=if b=0 then none else some (i64 (a.tdiv b))
theorem Ox.rem{x y:Operand}{t u:TypeId}{a b z:Int}{kd:IntKind}(F:o.op = .binOp .rem t x y u)(M:a2 st x=some (.int kd a))(Q:a2 st y=some (.int kd b))(g:ec a b=some z)
  (J:bQ o.dst c.n) (L:aA (bJ o.dst (.int kd z) st) aa) (h:C R H aa):aJ P B c o R H st C :=
 Ox.e2 (s:=λ f=>do eqGuard .rem t x y (f x) (f y); binOp .rem t (f x) (f y)) (by rw [F]; rfl) J (λ f=>by simp only [execOp,F]) (λ f G=>by
  rw [G x _ M,G y _ Q]
  refine al.bj (mX _ _ _ _ _ _ _ _) ?_
  unfold ec at g
  split at g
  ·cases g
  ·cases g; simp only [binOp,ne_eq,eW,if_false,Op.intDiv, *]; exact al.bc _) L h
theorem Ox.quo{x y:Operand}{t u:TypeId}{a b z:Int}(F:o.op = .binOp .quo t x y u)(M:a2 st x=some (.int .i64 a))(Q:a2 st y=some (.int .i64 b))(g:fe a b=some z)
  (J:bQ o.dst c.n) (L:aA (bJ o.dst (.int .i64 z) st) aa) (h:C R H aa):aJ P B c o R H st C :=
 Ox.e2 (s:=λ f=>do eqGuard .quo t x y (f x) (f y); binOp .quo t (f x) (f y)) (by rw [F]; rfl) J (λ f=>by simp only [execOp,F]) (λ f G=>by
  rw [G x _ M,G y _ Q]
  refine al.bj (mX _ _ _ _ _ _ _ _) ?_
  unfold fe at g
  split at g
  ·cases g
  ·cases g; simp only [binOp,ne_eq,eW,if_false,Op.intDiv, *]; exact al.bc _) L h
def fK(kd:IntKind)(a b:Int):Option Int:=if b < 0 then none else some (kd.wrap (a * 2 ^ (min b.toNat kd.bits)))
def fo(kd:IntKind)(a b:Int):Option Int:=if b < 0 then none else some (a.fdiv (2 ^ (min b.toNat kd.bits)))
theorem Ox.shl{x y:Operand}{t u:TypeId}{a b z:Int}{kd T:IntKind}(F:o.op = .binOp .shl t x y u)(M:a2 st x=some (.int kd a))(Q:a2 st y=some (.int T b))(g:fK kd a b=some z)
  (J:bQ o.dst c.n) (L:aA (bJ o.dst (.int kd z) st) aa) (h:C R H aa):aJ P B c o R H st C :=
 Ox.e2 (s:=λ f=>do eqGuard .shl t x y (f x) (f y); binOp .shl t (f x) (f y)) (by rw [F]; rfl) J (λ f=>by simp only [execOp,F]) (λ f G=>by
  rw [G x _ M,G y _ Q]
  refine al.bj (mX _ _ _ _ _ _ _ _) ?_
  unfold fK at g
  split at g
  ·cases g
  ·cases g; simp only [binOp,Op.shift,if_false, *]; exact al.bc _) L h
theorem Ox.shr{x y:Operand}{t u:TypeId}{a b z:Int}{kd T:IntKind}(F:o.op = .binOp .shr t x y u)(M:a2 st x=some (.int kd a))(Q:a2 st y=some (.int T b))(g:fo kd a b=some z)
  (J:bQ o.dst c.n) (L:aA (bJ o.dst (.int kd z) st) aa) (h:C R H aa):aJ P B c o R H st C :=
 Ox.e2 (s:=λ f=>do eqGuard .shr t x y (f x) (f y); binOp .shr t (f x) (f y)) (by rw [F]; rfl) J (λ f=>by simp only [execOp,F]) (λ f G=>by
  rw [G x _ M,G y _ Q]
  refine al.bj (mX _ _ _ _ _ _ _ _) ?_
  unfold fo at g
  split at g
  ·cases g
  ·cases g; simp only [binOp,Op.shift,if_false, *]; exact al.bc _) L h
def dB(f:BinOp)(kd:IntKind)(a b:Int):Option Int :=
 let a:=BitVec.ofInt kd.bits a
 let b:=BitVec.ofInt kd.bits b
 match f with
 | .and=>some (kd.wrap (a &&& b).toNat)
 | .or=>some (kd.wrap (a ||| b).toNat)
 | .xor=>some (kd.wrap (a ^^^ b).toNat)
 | .andNot=>some (kd.wrap (a &&& ~~~b).toNat)
 | _=>none
theorem Ox.bits{x y:Operand}{g:BinOp}{t u:TypeId}{a b z:Int}{kd:IntKind}(F:o.op = .binOp g t x y u)(Q:a2 st x=some (.int kd a))(T:a2 st y=some (.int kd b))(G:dB g kd a b=some z)
  (L:bQ o.dst c.n) (M:aA (bJ o.dst (.int kd z) st) aa) (h:C R H aa):aJ P B c o R H st C :=
 Ox.e2 (s:=λ f=>do eqGuard g t x y (f x) (f y); binOp g t (f x) (f y)) (by rw [F]; rfl) L (λ f=>by simp only [execOp,F]) (λ f J=>by
  rw [J x _ Q,J y _ T]
  refine al.bj (mX _ _ _ _ _ _ _ _) ?_
  cases g <;> simp only [dB,eO,reduceCtorEq] at G <;> subst G <;> simp only [binOp,ne_eq,eW,if_false,Op.intBits] <;> exact al.bc _) M h
def xh:BinOp→ByteArray→ByteArray→Option Bool
 | .eql,x,y=>some (x.toList == y.toList)
 | .neq,x,y=>some (!(x.toList == y.toList))
 | _,_,_=>none
theorem Mf(op:BinOp)(t:TypeId)(x y:Operand)(a b:ByteArray):al P (eqGuard op t x y (.string a) (.string b)) ():=by
 unfold eqGuard
 cases op <;> exact al.bc _
theorem Ox.xi{x y:Operand}{g:BinOp}{t u:TypeId}{a b:ByteArray}{r:Bool}(z:o.op = .binOp g t x y u)(M:a2 st x=some (.string a))(Q:a2 st y=some (.string b))(F:xh g a b=some r)
  (J:bQ o.dst c.n) (L:aA (bJ o.dst (.bool r) st) aa) (h:C R H aa):aJ P B c o R H st C :=
 Ox.e2 (s:=λ f=>do eqGuard g t x y (f x) (f y); binOp g t (f x) (f y)) (by rw [z]; rfl) J (λ f=>by simp only [execOp,z]) (λ f G=>by
  rw [G x _ M,G y _ Q]
  refine al.bj (Mf _ _ _ _ _ _) ?_
  cases g <;> simp only [xh,eO,reduceCtorEq] at F <;> subst F <;> simp only [binOp,Op.stringOp] <;> exact al.bc _) L h
def s8:BinOp→Bool→Bool→Option Bool
 | .eql,x,y=>some (x == y)
 | .neq,x,y=>some (!(x == y))
 | _,_,_=>none
theorem Ox.s7{x y:Operand}{f:BinOp}{t u:TypeId}{a b:Array Value}{q:Bool}(F:o.op = .binOp f t x y u)(V:a2 st x=some (.agg a))(W:a2 st y=some (.agg b))(M:P.eqGuardType P.depth t=false)(G:al P (Op.equal t (.agg a) (.agg b)) q){r:Bool}(z:s8 f q true=some r)
  (L:bQ o.dst c.n) (T:aA (bJ o.dst (.bool r) st) aa) (h:C R H aa):aJ P B c o R H st C :=
 Ox.e2 (s:=λ g=>do eqGuard f t x y (g x) (g y); binOp f t (g x) (g y)) (by rw [F]; rfl) L (λ g=>by simp only [execOp,F]) (λ g J=>by
  rw [J x _ V,J y _ W]
  have Q:al P (eqGuard f t x y (.agg a) (.agg b)) ():=by
   unfold eqGuard
   cases f <;> simp only [s8,reduceCtorEq] at z <;> exact al.bj al.program (al.bj al.program (by simp only [M]; exact al.bc _))
  refine al.bj Q ?_
  cases f <;> simp only [s8,eO,reduceCtorEq] at z <;> subst z <;> simp only [binOp]
  ·exact al.bj G (by cases q <;> exact al.bc _)
  ·exact al.bj G (by cases q <;> exact al.bc _)) T h
def cy:Int→List Int→Int
 | x,[]=>x
 | x,y::r=>cy (if y > x then y else x) r
def gf:Int→List Int→Int
 | x,[]=>x
 | x,y::r=>gf (if y < x then y else x) r
theorem Bh{kd:IntKind}:∀ (l:List Int) (x:Int),al P ((l.map (Value.int kd)).foldlM Builtin.max2 (.int kd x)) (.int kd (cy x l))
 | [],x=>al.bc _
 | y::r,x=>by
  simp only [List.map_cons,List.foldlM_cons,cy]
  exact al.bj (a:=.int kd (if y > x then y else x)) (al.bc _) (Bh r _)
theorem Bi{kd:IntKind}:∀ (l:List Int) (x:Int),al P ((l.map (Value.int kd)).foldlM Builtin.min2 (.int kd x)) (.int kd (gf x l))
 | [],x=>al.bc _
 | y::r,x=>by
  simp only [List.map_cons,List.foldlM_cons,gf]
  exact al.bj (a:=.int kd (if y < x then y else x)) (al.bc _) (Bi r _)
theorem Ox.max{xs:Array Operand}{ts:Array TypeId}{kd:IntKind}{a:Int}{l:List Int}(f:o.op = .call ⟨.builtin .max,xs,ts⟩)(z:iD st xs.toList=some (.int kd a::l.map (Value.int kd)))
  (s:bQ o.dst c.n) (y:aA (bJ o.dst (.int kd (cy a l)) st) aa) (h:C R H aa):aJ P B c o R H st C :=
 Ox.val (by rw [f]; rfl) s (λ g F=>by
  simp only [execOp,f]
  refine al.bj (a:=⟨.builtin .max ts o.type (xs.map λ | .const _=>true | _=>false),xs.map g⟩) (al.bc _) ?_
  simp only [invoke,builtin,Builtin.max_]
  have e:(xs.map g).toList = .int kd a::l.map (Value.int kd):=by simpa using oT F _ _ z
  rw [e]
  exact al.bj (Bh l a) (al.bc _)) y h
theorem Ox.min{xs:Array Operand}{ts:Array TypeId}{kd:IntKind}{a:Int}{l:List Int}(f:o.op = .call ⟨.builtin .min,xs,ts⟩)(z:iD st xs.toList=some (.int kd a::l.map (Value.int kd)))
  (s:bQ o.dst c.n) (y:aA (bJ o.dst (.int kd (gf a l)) st) aa) (h:C R H aa):aJ P B c o R H st C :=
 Ox.val (by rw [f]; rfl) s (λ g F=>by
  simp only [execOp,f]
  refine al.bj (a:=⟨.builtin .min ts o.type (xs.map λ | .const _=>true | _=>false),xs.map g⟩) (al.bc _) ?_
  simp only [invoke,builtin,Builtin.min_]
  have e:(xs.map g).toList = .int kd a::l.map (Value.int kd):=by simpa using oT F _ _ z
  rw [e]
  exact al.bj (Bi l a) (al.bc _)) y h
theorem Ox.xj{x:Operand}{t u:TypeId}{kd M L:IntKind}{a:Int}(g:o.op = .convert t u x)(G:a2 st x=some (.int M a))(F:P.underlying t=some (.int L))(hu:P.underlying u=some (.int kd))
  (y:bQ o.dst c.n) (z:aA (bJ o.dst (.int kd (kd.wrap a)) st) aa) (h:C R H aa):aJ P B c o R H st C :=
 Ox.e2 (s:=λ f=>convert t u (f x)) (by rw [g]; rfl) y (λ f=>by simp only [execOp,g]) (λ f J=>by
  rw [J x _ G]
  unfold convert
  refine al.bj (al.underlying F) (al.bj (al.underlying hu) ?_)
  exact al.bc _) z h
theorem qX{α:Type}{xs ys:List α}{lo hi:Int}(h:fw xs lo hi=some ys):0≤lo∧lo≤hi∧hi≤xs.length∧ys=(xs.take hi.toNat).drop lo.toNat:=by
 unfold fw at h
 split at h
 ·cases h; rename_i h; exact ⟨h.1,h.2.1,h.2.2,rfl⟩
 ·cases h
def hd(st:St):Option Operand→Option Int
 | none=>some 0
 | some x=>match a2 st x with | some (.int _ i)=>some i | _=>none
def ha(st:St)(n:Nat):Option Operand→Option Int
 | none=>some n
 | some x=>match a2 st x with | some (.int _ i)=>some i | _=>none
theorem sf{kd:IntKind}{i:Int}{y:Nat}{cd:BoundsCode}(h:0≤i∧i≤y):al P (Instr.sliceBound (.int kd i) y cd) i.toNat:=by
 unfold Instr.sliceBound
 refine al.bj (a:=(kd,i)) (al.bc _) ?_
 simp only [h,and_self,if_true]
 exact al.bc _
theorem vC{z:Operand→Value}(F:Knows st z){len cap:Nat}{lo hi:Option Operand}{l h:Int}(s:hd st lo=some l)(g:ha st len hi=some h)(hb:0≤l∧l≤h∧h≤len)(L:len≤cap) :
  al P (Instr.sliceBounds true len cap (lo.map z) (hi.map z) none) (l.toNat,h.toNat,cap):=by
 have G:(lo=none∧l=0)∨∃ x kd,lo=some x∧z x = .int kd l:=by
  cases lo with
  | none=>simp only [hd,eO] at s; exact .inl ⟨rfl,s.symm⟩
  | some x =>
   simp only [hd] at s
   cases f:a2 st x with
   | none=>simp [f] at s
   | some v =>
    cases v <;> simp [f] at s
    subst s
    exact .inr ⟨x,_,rfl,F x _ f⟩
 have J:(hi=none∧h=len)∨∃ x kd,hi=some x∧z x = .int kd h:=by
  cases hi with
  | none=>simp only [ha,eO] at g; exact .inl ⟨rfl,g.symm⟩
  | some x =>
   simp only [ha] at g
   cases f:a2 st x with
   | none=>simp [f] at g
   | some v =>
    cases v <;> simp [f] at g
    subst g
    exact .inr ⟨x,_,rfl,F x _ f⟩
 unfold Instr.sliceBounds
 rcases G with ⟨rfl,rfl⟩ | ⟨x,Q,rfl,f⟩ <;> rcases J with ⟨rfl,rfl⟩ | ⟨y,T,rfl,M⟩ <;> simp only [Option.map_none,Option.map_some, *]
 ·exact al.bj (a:=cap) (al.bc _) (al.bj (a:=(len:Int).toNat) (by rw [cm]; exact al.bc _) (al.bj (a:=(0:Int).toNat) (al.bc _) (al.bc _)))
 ·exact al.bj (a:=cap) (al.bc _) (al.bj (a:=h.toNat) (sf ⟨by omega,by omega⟩) (al.bj (a:=(0:Int).toNat) (al.bc _) (al.bc _)))
 ·exact al.bj (a:=cap) (al.bc _) (al.bj (a:=(len:Int).toNat) (by rw [cm]; exact al.bc _) (al.bj (a:=l.toNat) (sf ⟨by omega,by omega⟩) (al.bc _)))
 ·exact al.bj (a:=cap) (al.bc _) (al.bj (a:=h.toNat) (sf ⟨by omega,by omega⟩) (al.bj (a:=l.toNat) (sf ⟨by omega,by omega⟩) (al.bc _)))
end
theorem lE:∀ (vs:List Value) (cs:Array Value) (o j:Nat),o+vs.length≤cs.size→(dD cs o vs)[j]? = if o≤j∧j < o+vs.length then vs[j - o]? else cs[j]?
 | [],cs,o,j,_=>by
  simp only [dD,List.length_nil,Nat.add_zero]
  rw [if_neg (by omega)]
 | v::r,cs,o,j,h=>by
  simp only [List.length_cons] at h
  simp only [dD]
  rw [lE r _ (o+1) j (by simp; omega)]
  by_cases f:o+1≤j∧j < o+1+r.length
  ·rw [if_pos f,if_pos (by simp only [List.length_cons]; omega)]
   have:j - o=(j - (o+1))+1:=by omega
   rw [this]; simp
  ·rw [if_neg f]
   by_cases g:o=j
   ·subst g
    rw [if_pos (by simp only [List.length_cons]; omega)]
    rw [fB (by omega)]
    simp
   ·rw [if_neg (by simp only [List.length_cons]; omega),eG g]
structure ix (P:Program) (t e k:Nat):Prop where
 sl:P.underlying t=some (.slice e)
 size:al P (sizeOf e) k
 info:∃ i,P.info? e=some i∧i.bytes≤65536
 zero:∃ z,al P (zeroValue e) z∧z.cells.size=k
section
variable {P:Program} {B:Base} {main:Bool} {af:Jd P B main} {c:Ctx} {R:ay} {H H':aj} {st aa:St} {o:Oper}
theorem aE.weaken{α:Type}{s:Sem α}{K f:α→ay→aj→Prop}(h:aE P B R H s K)(L:∀ a R' H',K a R' H'→∃ bM b3,(∀ w,Fits B R' H' w→c5 B R' H' w bM b3 w)∧f a bM b3):aE P B R H s f:=by
 intro w hw
 obtain ⟨a,w',R',H',F,G,g,J⟩:=h w hw
 obtain ⟨bM,b3,y,z⟩:=L a R' H' J
 exact ⟨a,w',bM,b3,F,G,g.trans (y w' g.fits),z⟩
theorem aE.firstCells{α:Type}{K:bF α}{k:Nat}{u:Value}{ys:List α}{Q:Array Value→ay→aj→Prop}(hu:e4 K k R H u ys)(g:∀ es:List Value,aO K k R ys es→Q es.toArray R H):aE P B R H (Builtin.firstCells k ys.length u) Q:=by
 obtain ⟨A,cap,es,rfl,f,z⟩:=hu
 cases ys with
 | nil =>
  have s:es=[]:=by have:=f.len; simpa using this
  subst s
  cases A with
  | none=>exact aE.bR (g [] f)
  | some a =>
   simp only [Builtin.firstCells,List.length_nil,Nat.zero_mul,loadCells]
   exact aE.bR (g [] f)
 | cons y ys =>
  obtain ⟨b,o,rfl,F⟩:=z (by simp)
  simp only [Builtin.firstCells,loadCells]
  rw [← f.len]
  exact aE.loadCellsFrom es 0 #[] (by simpa using F) (by simpa using g es f)
theorem aX.arg{α:Type}{K:bF α}{k e:Nat}{G:aj→aj}(s:eu G){v:Value}{xs:List α}{Hs:aj}(h:aX K k e R v xs Hs):e4 K k R (G Hs) v xs:=by
 rcases h with ⟨A,rfl,rfl,_⟩ | ⟨b,cap,cs,es,rfl,rfl,F,J,f,g⟩
 ·exact ⟨A,0,[],rfl,.nil,λ h=>absurd rfl h⟩
 ·refine ⟨_,cap,es,rfl,f,λ _=>⟨b,0,rfl,λ j w z=>⟨rfl,cs,e,(0,0),.inr ?_,by simpa using g j w z⟩⟩⟩
  obtain ⟨A,D,y⟩:=s
  rw [y]; simp
theorem JW{n m:Nat}(h:m < n)(z:n≤16777216):Builtin.nextslicecap n m≤67108864:=by
 unfold Builtin.nextslicecap
 split
 ·omega
 ·split
  ·omega
  ·have:∀ (r c:Nat),c≤16777216→Builtin.growBy n r c≤67108864:=by
    intro r
    induction r with
    | zero=>intro c g; simp only [Builtin.growBy]; omega
    | succ r s =>
     intro c g
     simp only [Builtin.growBy]
     split
     ·omega
     ·rename_i y
      by_cases f:c+(c+768) / 4≤16777216
      ·exact s _ f
      ·
       cases r with
       | zero=>simp only [Builtin.growBy]; omega
       | succ r=>simp only [Builtin.growBy]; rw [if_pos (by omega)]; omega
   exact this 4 m (by omega)
theorem aE.append{α:Type}{K:bF α}[CM K]{k t e ar T:Nat}{G:aj→aj}(ad:eu G){v u:Value}{xs ys:List α}{Hs:aj}{Z:TypeDesc}(W:ix P t e k)(aK:P.underlying ar=some Z)(az:∀ kd,Z ≠ .int kd)
  (ae:aX K k e R v xs Hs) (hu:e4 K k R (G Hs) u ys) (aC:xs.length+ys.length≤16777216) {Q:Value→ay→aj→Prop} (ag:∀ aq ak,aX K k e R aq (xs++ys) ak→Q aq R (G ak)) :
  aE P B R (G Hs) (Builtin.append_ #[t,ar] T #[v,u]) Q:=by
 obtain ⟨A2,aP,aT,aI⟩:=id hu
 have aJ:∃ base cap,v = .slice base xs.length cap:=by
  rcases ae with ⟨A,rfl,rfl,_⟩ | ⟨b,cap,cs,es,rfl,_⟩
  ·exact ⟨A,0,rfl⟩
  ·exact ⟨_,cap,rfl⟩
 obtain ⟨base,cap,rfl⟩:=aJ
 obtain ⟨i,hi,ax⟩:=W.info
 obtain ⟨z,aM,aN⟩:=W.zero
 have hlen:al P (Builtin.lenOf u) ys.length:=by rw [aI.1]; exact al.bc _
 have run:aE P B R (G Hs) (do
   let y:=xs.length+ys.length
   if y≤cap then do
    let new ← Builtin.firstCells k ys.length u
    if let some a:=base then storeCells (a.add (xs.length * k)) new.toList
    Pure.pure (Value.slice base y cap)
   else do
    if (y:Int) > IntKind.i64.max∧(false=true∨(← typeInfo e).bytes=0) then runtimePanic (.error "growslice: len out of range")
    if Builtin.nextslicecap y cap * (← typeInfo e).bytes > 2 ^ 48 then (if false=true then runtimePanic (.error "growslice: len out of range") else do
     if !(← Builtin.mayShare k xs.length ys.length base u) then mark .noRoom
     unsupported (.resourceLimit "append: a slice or a string whose bytes no memory bears"))
    let g ← Go.choose (Question.appendCap y cap e)
    askRoom (g * (← typeInfo e).bytes)
    let old ← Builtin.firstCells k xs.length (.slice base xs.length cap)
    let new ← Builtin.firstCells k ys.length u
    let rest:=Builtin.zeroCells (← zeroValue e).cells (g - y)
    Pure.pure (Value.slice (some (← newRow e (old++new++rest))) y g)) Q:=by
  dsimp only
  by_cases F:xs.length+ys.length≤cap
  ·rw [if_pos F]
   refine aE.bK (aE.firstCells hu λ es J=>?_)
   rcases ae with ⟨A,e1,rfl,rfl⟩ | ⟨b,aO,cs,s,e1,rfl,ac,aU,V,av⟩
   ·injection e1 with e1 aR ab
    subst e1; subst ab
    have aL:ys=[]:=by simpa using F
    subst aL
    have au:es=[]:=by have:=J.len; simpa using this
    subst au
    have key:Q (.slice base ([]:List α).length 0) R (G []):=ag _ [] (.inl ⟨base,rfl,by simp,rfl⟩)
    cases base with
    | none=>exact aE.bK (aE.bR (aE.bR key))
    | some a=>exact aE.bK (aE.bR (aE.bR key))
   ·injection e1 with e1 _ ab
    subst e1; subst ab
    dsimp only
    rw [show (⟨b,0,none⟩:Addr).add (xs.length * k)=⟨b,0+xs.length * k,none⟩ from h0 _ _ _,Nat.zero_add]
    refine aE.given λ aF=>aE.bK (aE.qh es cs (xs.length * k) 0 (G [(b,.cells cs e (0,0))]) (G [(b,.cells (dD cs (xs.length * k) es) e (0,0))]) J.one ?_ (by simpa using eu.set ad) aF (aE.bR ?_))
    ·rw [ac,J.len,Nat.add_zero,← Nat.add_mul]; exact Nat.mul_le_mul_right k F
    ·have aA:xs.length * k+es.length≤cs.size:=by rw [ac,J.len,← Nat.add_mul]; exact Nat.mul_le_mul_right k F
     refine ag _ _ (.inr ⟨b,cap,dD cs (xs.length * k) es,s++es,by rw [ew],rfl,by rw [qb]; exact ac,by rw [ew]; exact F,V.append J,λ j w f=>?_⟩)
     rw [lE es cs _ _ aA]
     by_cases aB:j < s.length
     ·rw [fU aB] at f
      rw [if_neg (by rw [← V.len]; omega)]
      exact av j w f
     ·rw [fC (by omega)] at f
      have:=(ep.1 f).1
      rw [if_pos (by rw [← V.len]; omega),← V.len]
      exact f
  ·rw [if_neg F]
   have aY:Builtin.nextslicecap (xs.length+ys.length) cap * i.bytes≤2 ^ 48:=by
    have M:=JW (n:=xs.length+ys.length) (m:=cap) (by omega) aC
    calc _≤67108864 * 65536:=Nat.mul_le_mul M ax
     _≤2 ^ 48:=by decide
   have aG:¬ (((xs.length+ys.length:Nat):Int) > IntKind.i64.max∧(false=true∨i.bytes=0)):=by
    intro h
    have:IntKind.i64.max=9223372036854775807:=by decide
    omega
   refine al.bV (al.typeInfo hi) ?_
   rw [if_neg aG]
   refine al.bV (al.typeInfo hi) ?_
   rw [if_neg (by omega)]
   refine (aE.bK (aE.choose λ tape=>al.bV (al.typeInfo hi) (aE.bK ?_)))
   have aw:∀ (n:Nat) (Y:Unit→ay→aj→Prop),Y () R (G Hs)→aE P B R (G Hs) (askRoom n) Y:=by
    intro n Y ap
    unfold askRoom
    split
    ·exact aE.JH ap
    ·exact aE.bR ap
   refine aw _ _ ?_
   simp only [Question.forced,gq,if_false,Question.cut]
   generalize aV:xs.length+ys.length+tape % (2 ^ 63 - (xs.length+ys.length))=g
   refine aE.bK (aE.firstCells (aX.arg ad ae) λ s am=>aE.bK (aE.firstCells hu λ L an=>al.bV aM ?_))
   simp only [newRow]
   refine aE.bK (aE.bK (aE.weaken (aE.new (K:=λ r R' H'=>R'=R∧H'=(r,.cells (s.toArray++L.toArray++Builtin.zeroCells z.cells (g - (xs.length+ys.length))) e (0,0))::G Hs) λ r _ _=>⟨rfl,rfl⟩) λ r R' H' aH=>?_))
   obtain ⟨rfl,rfl⟩:=aH
   refine ⟨R',G [(r,.cells (s.toArray++L.toArray++Builtin.zeroCells z.cells (g - (xs.length+ys.length))) e (0,0))],λ w hw=>?_,aE.bR (aE.bR (ag _ _ (.inr ⟨r,g,_,s++L,by rw [ew],rfl,?_,by rw [ew]; omega,am.append an,λ j w f=>?_⟩)))⟩
   ·obtain ⟨A,D,ao⟩:=ad
    rw [ao,ao] at *
    have M:=ql (H':=A++(Hs++((r,.cells (s.toArray++L.toArray++Builtin.zeroCells z.cells (g - (xs.length+ys.length))) e (0,0))::D))) (by simpa using List.perm_middle (l₁:=A++Hs)) hw
    refine M.trans (se ?_ M.fits)
    exact List.Sublist.append_left (List.sublist_append_right _ _) _
   ·simp only [Array.size_append,List.size_toArray,am.len,an.len,Builtin.zeroCells,Array.size_map,Array.size_range,aN]
    rw [← Nat.add_mul,← Nat.add_mul]
    congr 1; omega
   ·have:=(ep.1 f).1
    rw [Array.getElem?_append_left (by simpa using this)]
    simpa using f
 unfold Builtin.append_
 refine al.bV (al.underlying W.sl) (al.bV W.size (al.bV (al.underlying aK) (al.bV (a:=false) (by cases Z <;> first | exact al.bc _ | exact absurd rfl (az _)) ?_)))
 exact al.bV hlen run
theorem Ox.append{α:Type}{K:bF α}[CM K]{k t e s:Nat}(G:aj→aj){x y:Operand}{v u:Value}{xs ys L:List α}{Hs:aj}{z:TypeDesc}{C:ay→aj→St→Prop}(F:o.op = .call ⟨.builtin .append,#[x,y],#[t,s]⟩)(ag:a2 st x=some v)(am:a2 st y=some u)
  (ae:ix P t e k) (ak:P.underlying s=some z) (Z:∀ kd,z ≠ .int kd) (T:eu G) (V:aX K k e R v xs Hs) (hu:e4 K k R (G Hs) u ys) (ab:cu xs ys=some L) (Y:bQ o.dst c.n)
  (Q:∀ f g,aX K k e R f L g→∃ aa,aA (bJ o.dst f st) aa∧C R (G g) aa):aJ P B c o R (G Hs) st C:=by
 obtain ⟨ac,rfl⟩:=BW ab
 refine ⟨by rw [F]; rfl,Y,λ M J=>?_⟩
 simp only [execOp,F]
 refine al.bV (a:=⟨.builtin .append #[t,s] o.type (#[x,y].map λ | .const _=>true | _=>false),#[x,y].map M⟩) (al.bc _) ?_
 simp only [invoke,builtin]
 have e:(#[x,y].map M)=#[v,u]:=by simp [J x _ ag,J y _ am]
 rw [e]
 refine aE.bK (aE.append T ae ak Z V hu ac λ f g W=>aE.bR ?_)
 obtain ⟨aa,ad,h⟩:=Q f g W
 exact ⟨f,.inl rfl,aa,ad,h⟩
theorem U.dg{α:Type}{K:bF α}[CM K]{k e:Nat}{todo:List Item}(G:aj→aj)(F:eu G){v:Value}{xs:List α}{Hs H2:aj}(g:G []=H2)(L:aX K k e R v xs Hs)(h:∀ R',aH R R'→ah K k R' v xs→U af c R' H2 st todo):U af c R (G Hs) st todo:=by
 subst g
 rcases L with ⟨A,rfl,rfl,rfl⟩ | ⟨b,cap,cs,es,rfl,rfl,Q,s,y,z⟩
 ·exact h R (aH.refl R) .nil
 ·obtain ⟨A,D,J⟩:=F
  rw [J] at h ⊢
  refine U.perm (H':=(b,.cells cs e (0,0))::(A++([]++D))) (by simpa using List.perm_middle.symm) (U.freeze λ R' f hb=>h R' f ?_)
  exact ⟨_,cap,es,rfl,y.mono f,s,λ _=>⟨b,0,cs,e,(0,0),rfl,hb,λ j w M=>by simpa using z j w M⟩⟩
theorem U.iJ{α:Type}{K:bF α}[CM K]{k e b n:Nat}{todo:List Item}(G:aj→aj)(y:eu G){H2:aj}(g:G []=H2){ys:List α}{cs:Array Value}(s:aO K k R ys cs.toList)(J:ys.length=n)(h:∀ R',aH R R'→ah K k R' (.slice (some ⟨b,0,none⟩) n n) ys→U af c R' H2 st todo):U af c R (G [(b,.cells cs e (0,0))]) st todo:=by
 subst J g
 obtain ⟨A,D,z⟩:=y
 rw [z] at h ⊢
 refine U.perm (H':=(b,.cells cs e (0,0))::(A++([]++D))) (by simpa using List.perm_middle.symm) (U.freeze λ R' f hb=>h R' f ?_)
 exact ⟨_,ys.length,cs.toList,rfl,s.mono f,ct _,λ _=>⟨b,0,cs,e,(0,0),rfl,hb,λ j w F=>by simpa using F⟩⟩
theorem aX.lit{α:Type}{K:bF α}{k e b n:Nat}{ys:List α}{cs:Array Value}(f:aO K k R ys cs.toList)(s:ys.length=n):aX K k e R (.slice (some ⟨b,0,none⟩) n n) ys [(b,.cells cs e (0,0))]:=by
 subst s
 exact .inr ⟨b,_,cs,cs.toList,rfl,rfl,by simpa using f.len,ct _,f,λ j w g=>by simpa using g⟩
end
theorem aA.one{dst:Option Tmp}{d:Tmp}{v:Value}{st:St}(h:dst=some d):aA (bJ dst v st) [(d,v)]:=by
 subst h
 intro t u hu
 simp only [List.lookup_cons,List.lookup_nil] at hu
 simp only [bJ,List.lookup_cons]
 split at hu
 ·exact hu
 ·cases hu
theorem cU.skip{f H H':aj}{b:Nat}{o o':Obj}(h:cU H b o o' H'):cU (f++H) b o o' (f++H'):=by
 induction f with
 | nil=>exact h
 | cons p f g=>exact .there g
theorem aK.box{R:ay}{H:aj}{b:Nat}{e:TypeId}{f:Nat × Nat}{L:List Value}(hm:(b,Obj.cells L.toArray e f)∈H):aK R H b 0 L:=λ j v g=>⟨rfl,_,e,f,.inr hm,by simpa using g⟩
theorem eu.id{D:aj}:eu (λ X=>X++D):=⟨[],D,λ _=>rfl⟩
theorem eu.cons{p:Nat × Obj}{G:aj→aj}(h:eu G):eu (λ X=>p::G X):=by
 obtain ⟨A,D,h⟩:=h
 exact ⟨p::A,D,λ X=>by show p::G X=_; rw [h]; rfl⟩
theorem eu.app{L:aj}{G:aj→aj}(h:eu G):eu (λ X=>L++G X):=by
 obtain ⟨A,D,h⟩:=h
 exact ⟨L++A,D,λ X=>by show L++G X=_; rw [h,List.append_assoc]⟩
theorem cE{place:Nat→Option (Nat × Nat)}{cells:Array Value}:Instr.fill place cells []=some cells:=rfl
theorem Kt(f:List Value):∀ (cells:Array Value) (off j:Nat),(f.zipIdx j).foldl (λ cs (c,i)=>cs.setIfInBounds (off+i) c) cells=dD cells (off+j) f:=by
 induction f with
 | nil=>intro cells off j; rfl
 | cons v r g=>intro cells off j; simp only [List.zipIdx_cons,List.foldl_cons,dD]; rw [g]; rfl
theorem Ku(f cells:Array Value)(off:Nat):f.zipIdx.foldl (λ cs (c,i)=>cs.setIfInBounds (off+i) c) cells=dD cells off f.toList:=by
 have h:=Kt f.toList cells off 0
 rw [Nat.add_zero] at h
 rw [← h,← Array.foldl_toList]
 simp
theorem ca{place:Nat→Option (Nat × Nat)}{cells cells' out f:Array Value}{i off size:Nat}{v:Value}{rest:List (Nat × Value)}(z:place i=some (off,size))(y:v.cells=f)
  (g:(f.size == size && Nat.ble (off+f.size) cells.size)=true) (F:dD cells off f.toList=cells') (h:Instr.fill place cells' rest=some out):Instr.fill place cells ((i,v)::rest)=some out:=by
 subst y
 rw [dn] at g
 have s:v.cells.size=size:=by simpa using g.1
 have G:off+v.cells.size≤cells.size:=by simpa [Nat.ble_eq] using g.2
 simp only [Instr.fill,z]
 rw [if_neg (by simp [s]; omega),Ku,F]
 exact h
theorem bl:∀ u∈([]:List Value),u.oneCell'=true:=λ _ h=>by cases h
theorem aW{v:Value}{l:List Value}(h:v.oneCell'=true)(t:∀ u∈l,u.oneCell'=true):∀ u∈v::l,u.oneCell'=true:=λ u hu=>by
 rcases cO.1 hu with rfl | hu
 ·exact h
 ·exact t u hu
theorem cj{l m:List Value}(h:∀ u∈l,u.oneCell'=true)(t:∀ u∈m,u.oneCell'=true):∀ u∈l++m,u.oneCell'=true:=λ u hu=>(List.mem_append.1 hu).elim (h u) (t u)
theorem ej{α:Type}{f:α→Value}{xs:List α}(h:∀ x,(f x).oneCell'=true):∀ u∈xs.map f,u.oneCell'=true:=λ u hu=>by
 obtain ⟨x,_,rfl⟩:=List.mem_map.1 hu
 exact h x
theorem aK.part{R:ay}{H:aj}{b o j n:Nat}{L vs:List Value}(h:aK R H b o L)(f:(L.drop j).take n=vs):aK R H b (o+j) vs:=by
 intro i v hi
 subst f
 rw [List.getElem?_take] at hi
 split at hi
 ·rw [List.getElem?_drop] at hi
  have:=h _ _ hi
  simpa [Nat.add_assoc] using this
 ·cases hi
theorem aK.arr{α:Type}{R:ay}{H:aj}{b o k:Nat}{f:α→Value}{pre post:List Value}{xs:List α}{i:Int}{x:α}(h:aK R H b o (pre++(xs.map f++post)))(hi:idx xs i=some x)(s:pre.length=k):Cell R H ⟨b,o+k+i.toNat * 1,none⟩ (f x):=by
 obtain ⟨_,_,g⟩:=kK hi
 have y:=(ep.1 g).1
 have:=h (k+i.toNat) (f x) (by
  rw [fC (by omega),← s,Nat.add_sub_cancel_left,fU (by simpa using y)]
  simp [g])
 simpa [Nat.add_assoc] using this
theorem aK.sub{R:ay}{H H':aj}{b o:Nat}{L:List Value}(h:aK R H b o L)(F:∀ p∈H,p∈H'):aK R H' b o L:=λ j v z=>by
 obtain ⟨g,cs,e,f,s,y⟩:=h j v z
 exact ⟨g,cs,e,f,s.imp id (F _),y⟩
theorem aK.le{R R':ay}{H:aj}{b o:Nat}{L:List Value}(h:aK R H b o L)(F:aH R R'):aK R' H b o L:=λ j v z=>by
 obtain ⟨g,cs,e,f,s,y⟩:=h j v z
 exact ⟨g,cs,e,f,s.imp (F _ _) id,y⟩
theorem qD{α:Type}{f:α→Value}{pre post:List Value}{xs:List α}{i:Int}{x y:α}{k:Nat}(hi:idx xs i=some y)(s:pre.length=k):((pre++(xs.map f++post)).toArray).setIfInBounds (k+i.toNat * 1) (f x)=(pre++((xs.set i.toNat x).map f++post)).toArray:=by
 obtain ⟨_,_,g⟩:=kK hi
 have z:=(ep.1 g).1
 subst s
 simp only [Nat.mul_one,List.setIfInBounds_toArray,List.map_set]
 congr 1
 rw [List.set_append_right _ _ (by omega),Nat.add_sub_cancel_left,List.set_append_left _ _ (by simpa using z)]
theorem qC{α:Type}{f:α→Value}{pre post:List Value}{xs:List α}{i:Int}{y:α}{k:Nat}(hi:idx xs i=some y)(s:pre.length=k):Nat.blt (k+i.toNat * 1) ((pre++(xs.map f++post)).toArray).size=true:=by
 obtain ⟨_,_,g⟩:=kK hi
 have z:=(ep.1 g).1
 rw [Nat.blt_eq]
 simp
 omega
theorem dd{L:List Value}{n:Nat}(h:L.length=n):(L.drop 0).take n=L:=by subst h; simp
theorem h6{P:Program}{α:Type}{t e len k b m:Nat}{i:Int}{xs:List α}{x:α}(g:jj P t len e k)(y:xs.length=len)(hi:idx xs i=some x):kx P t (.pointer (some ⟨b,m,none⟩)) i b (m+i.toNat * k):=by
 obtain ⟨f,s,_⟩:=kK hi
 exact FF g ⟨f,by omega⟩
theorem ah.one{α:Type}{C:bF α}{k:Nat}{R:ay}{v:Value}{xs:List α}(h:ah C k R v xs):v.oneCell'=true:=by
 obtain ⟨A,cap,es,rfl,_⟩:=h; rfl
theorem ah.cells{α:Type}{C:bF α}{k:Nat}{R:ay}{v:Value}{xs:List α}(h:ah C k R v xs):v.cells=#[v]:=by
 obtain ⟨A,cap,es,rfl,_⟩:=h; rfl
theorem aX.cells{α:Type}{C:bF α}{k e:Nat}{R:ay}{v:Value}{xs:List α}{Hs:aj}(h:aX C k e R v xs Hs):v.cells=#[v]:=by
 rcases h with ⟨A,rfl,_⟩ | ⟨b,cap,cs,es,rfl,_⟩ <;> rfl
theorem aX.one{α:Type}{C:bF α}{k e:Nat}{R:ay}{v:Value}{xs:List α}{Hs:aj}(h:aX C k e R v xs Hs):v.oneCell'=true:=by
 rcases h with ⟨A,rfl,_⟩ | ⟨b,cap,cs,es,rfl,_⟩ <;> rfl
theorem aO.cons{α:Type}{C:bF α}{k:Nat}{R:ay}{x:α}{xs:List α}{e1 es:List Value}(h:C R x e1)(f:e1.length=k)(g:aO C k R xs es):aO C k R (x::xs) (e1++es):=(aO.single h f).append g
theorem aO.le{α:Type}{C:bF α}{k:Nat}{R:ay}{xs:List α}{es f:List Value}(h:aO C k R xs es)(e:es=f):aO C k R xs f:=by subst e; exact h
section
variable {P:Program} {B:Base} {main:Bool} {af:Jd P B main} {c:Ctx} {R:ay} {H H':aj} {st aa:St} {o:Oper} {k:List Item}
theorem aE.ghost{α:Type}{s:Sem α}{K:α→ay→aj→Prop}{R':ay}(G:∀ w,Fits B R H w→c5 B R H w R' H' w)(h:aE P B R' H' s K):aE P B R H s K:=by
 intro w hw
 have f:=G w hw
 obtain ⟨a,w',bM,b3,g,y,z,F⟩:=h w f.fits
 exact ⟨a,w',bM,b3,g,λ e he=>(y e he).up f,f.trans z,F⟩
theorem aL.ghost{f:FuncId}{args:Array Value}{bP:Value→ay→aj→Prop}{R':ay}(g:∀ w,Fits B R H w→c5 B R H w R' H' w)(h:aL af f args R' H' bP):aL af f args R H bP :=
 λ fr cs s=>af.ghost g (h fr cs s)
inductive gv (P:Program) (R:ay) (H:aj) (st:St):List ResultVar→List Value→Prop
 | nil:gv P R H st [] []
 | tmp {t:Tmp} {v:Value} {r:List ResultVar} {vs:List Value}:st.lookup t=some v→gv P R H st r vs→gv P R H st (.tmp t::r) (v::vs)
 | one {a:Tmp} {t:TypeId} {b o:Nat} {v:Value} {r:List ResultVar} {vs:List Value}:st.lookup a=some (.pointer (some ⟨b,o,none⟩))→dr P t→Cell R H ⟨b,o,none⟩ v→gv P R H st r vs→gv P R H st (.cell a t::r) (v::vs)
 | agg {a:Tmp} {t:TypeId} {b o n:Nat} {us:List Value} {r:List ResultVar} {vs:List Value}:st.lookup a=some (.pointer (some ⟨b,o,none⟩))→ek P t n→us.length=n→aK R H b o us→gv P R H st r vs→gv P R H st (.cell a t::r) (.agg us.toArray::vs)
theorem Lq{tmps:Array Value}{n:Nat}(F:eg n st tmps):∀ {l:List ResultVar} {vs:List Value},gv P R H st l vs→∀ {K:List Value→ay→aj→Prop},K vs R H →
  aE P B R H (l.mapM (m:=Sem) λ
   | .tmp t=>pure (tmps.getD t undef)
   | .cell a t=>do loadVar t (← asAddr (tmps.getD a undef))) K:=by
 intro l vs h
 induction h with
 | nil=>intro K f; exact aE.bR f
 | @tmp t v r vs g _ s =>
  intro K f
  rw [List.mapM_cons]
  have:tmps.getD t undef=v:=by simp [Array.getD_eq_getD_getElem?,F.2 t v g]
  refine al.bV (a:=v) (by show al P (pure (tmps.getD t undef)) v; rw [this]; exact al.bc _) (aE.bK (s (K:=λ us R' H'=>K (v::us) R' H') f |>.mono λ us R' H' h=>aE.bR h))
 | @one a t b o v r vs g y z _ s =>
  intro K f
  rw [List.mapM_cons]
  have:tmps.getD a undef = .pointer (some ⟨b,o,none⟩):=by simp [Array.getD_eq_getD_getElem?,F.2 a _ g]
  simp only [this]
  refine aE.bK (al.bV (a:=⟨b,o,none⟩) (al.bc _) ?_)
  unfold loadVar
  refine al.bV y.1 (aE.load z (aE.bK (s (K:=λ us R' H'=>K (v::us) R' H') f |>.mono λ us R' H' h=>aE.bR h)))
 | @agg a t b o n us r vs g y G z _ s =>
  intro K f
  rw [List.mapM_cons]
  have:tmps.getD a undef = .pointer (some ⟨b,o,none⟩):=by simp [Array.getD_eq_getD_getElem?,F.2 a _ g]
  simp only [this]
  refine aE.bK (al.bV (a:=⟨b,o,none⟩) (al.bc _) ?_)
  unfold loadVar
  refine al.bV y.1 ?_
  simp only [if_true]
  subst G
  refine al.bV y.2 (aE.bK (aE.loadCellsFrom us 0 #[] (by simpa using z) (aE.bR ?_)))
  simp only [List.append_toArray,List.nil_append]
  exact aE.bK (s (K:=λ vs R' H'=>K (.agg us.toArray::vs) R' H') f |>.mono λ us R' H' h=>aE.bR h)
theorem r2{fn:Func}{tmps:Array Value}{n:Nat}{vs:List Value}(f:eg n st tmps)(h:gv P R H st fn.results.toList vs):aE P B R H (results fn tmps) λ v R' H'=>v=hU vs∧R'=R∧H'=H:=by
 unfold results
 rw [← Array.toArray_toList (xs:=fn.results),List.mapM_toArray]
 refine aE.bK (aE.map (Lq f h ?_))
 cases vs with
 | nil=>exact aE.bR ⟨rfl,rfl,rfl⟩
 | cons v r=>cases r with
  | nil=>exact aE.bR ⟨rfl,rfl,rfl⟩
  | cons _ _=>exact aE.bR ⟨rfl,rfl,rfl⟩
theorem U.KU{fr:Frame}{cs:List Frame}{f:FuncId}{n:Nat}{fn:Func}{vs:List Value}(z:P.funcs[f]? = some fn)(G:gv P R H st fn.results.toList vs)(F:af.J R H (bk (fr.finish (hU vs)) cs)) :
  U af ⟨f,.normal,none,n,[],fr::cs⟩ R H st (.code .ret::k):=λ tmps L=>by
 refine Jd.ctl (g':=bk { (bf ⟨f,.normal,none,n,[],fr::cs⟩ tmps (.code .ret::k)) with mode:=.returning } (fr::cs)) rfl (λ w=>by simp [stepG,stepG.exec,bk,bf])
  (af.step rfl λ w hw=>?_)
 obtain ⟨v,w',R',H',g,s,y,rfl,rfl,rfl⟩:=r2 (P:=P) L G w hw
 refine ⟨bk (fr.finish (hU vs)) cs,w',seen P f ((results fn tmps).events P w #[]),R',H',?_,λ e he=>s e (mem_seen he),y,F⟩
 simp [stepG,unwind,doReturn,bk,bf,z,g,GStep.after]
theorem U.g7{fr:Frame}{cs:List Frame}{f:FuncId}{n:Nat}{fn:Func}{vs:List Value}(z:P.funcs[f]? = some fn)(G:gv P R H st fn.results.toList vs)(F:af.J R H (bk (fr.finish (hU vs)) cs)) :
  U af ⟨f,.normal,none,n,[],fr::cs⟩ R H st []:=λ tmps L=>by
 refine Jd.ctl (g':=bk { (bf ⟨f,.normal,none,n,[],fr::cs⟩ tmps []) with mode:=.returning } (fr::cs)) rfl (λ w=>by simp [stepG,stepG.exec,bk,bf])
  (af.step rfl λ w hw=>?_)
 obtain ⟨v,w',R',H',g,s,y,rfl,rfl,rfl⟩:=r2 (P:=P) L G w hw
 refine ⟨bk (fr.finish (hU vs)) cs,w',seen P f ((results fn tmps).events P w #[]),R',H',?_,λ e he=>s e (mem_seen he),y,F⟩
 simp [stepG,unwind,doReturn,bk,bf,z,g,GStep.after]
end
section
variable {P:Program} {B:Base} {main:Bool}
abbrev fM(α:Type):=ay→α→Value→Prop
def g2(af:Jd P B main)(R:ay)(H:aj){α β:Type}(A:fM α)(D:fM β)(v:Value)(f:α→Option β):Prop :=
 ∃ g first captured,v = .func (.func g) first captured∧aT P g∧∀ R' H',aH R R'→(∀ p∈H,p∈H')→∀ x r va,A R' x va→f x=some r→aL af g (first++#[va]++captured) R' H' λ v bM b3=>aH R' bM∧b3=H'∧D bM r v
def VI(kd:IntKind):fM Int:=λ _ x v=>v = .int kd x
def VB:fM Bool:=λ _ x v=>v = .bool x
def oO{α:Type}(C:bF α)(k:Nat):fM (List α):=λ R xs v=>ah C k R v xs
def eT{α:Type}(C:bF α):fM α:=λ R x v=>∃ es,v = .agg (List.toArray es)∧C R x es
theorem g2.up{af:Jd P B main}{R R':ay}{H H':aj}{α β:Type}{A:fM α}{D:fM β}{v:Value}{f:α→Option β}(h:g2 af R H A D v f)(J:aH R R')(F:∀ p∈H,p∈H'):g2 af R' H' A D v f:=by
 obtain ⟨g,first,captured,s,y,z⟩:=h
 exact ⟨g,first,captured,s,y,λ bM b3 L G=>z bM b3 (J.trans L) (λ p M=>G p (F p M))⟩
end
theorem dm{h f g:aj}(p:List.Sublist f g):List.Sublist (h++f) (h++g):=List.Sublist.append (List.Sublist.refl _) p
theorem az{h f g:aj}(p:List.Sublist f g):List.Sublist f (h++g):=by
 induction h with
 | nil=>exact p
 | cons a h s=>exact s.cons a
def qu{α:Type}(f:α→Value)(n:Nat):bF (List α):=λ _ xs es=>xs.length=n∧es=[]++(xs.map f++[])
theorem eo{vs:List Value}{cs:Array Value}(h:vs.length=cs.size):dD cs 0 vs=vs.toArray:=by
 have g:(dD cs 0 vs).size=cs.size:=qb _ _ _
 apply Array.ext_getElem?
 intro j
 rw [lE vs cs 0 j (by omega)]
 by_cases f:j < vs.length
 ·rw [if_pos (by omega)]; simp
 ·rw [if_neg (by omega)]
  rw [Array.getElem?_eq_none (by omega)]
  simp [Nat.not_lt.1 f]
section
variable {P:Program} {B:Base} {main:Bool} {af:Jd P B main} {c:Ctx} {R:ay} {H:aj} {st:St} {k:List Item} {o:Oper} {C:ay→aj→St→Prop}
theorem U.GQ{S Q y:Type}{body:S→Option (S ⊕ Q)}{f:S}{code:Code}{g:Q→Option y}{r:y}(G:(Go.Lg.a1 body f).bind g=some r)(I:S→ay→aj→St→Prop)(z:I f R H st)(hb:∀ s R H st,I s R H st→∀ x,body s=some x→(∀ s',x=Sum.inl s'→∀ R' H' aa,I s' R' H' aa→U af c R' H' aa (.inLoop code::k))→(∀ p,x=(Sum.inr p)→g p=some r)→U af c R H st (.code code :: .inLoop code::k)):U af c R H st (.code (.loop code)::k):=U.a1 G I (λ s R H st F x L again out=>hb s R H st F x L again (λ _ J=>out _ J)) z
theorem U.cQ{S f F:Type}{body:S→Option (S ⊕ f)}{z:S}{code:Code}{f0:f→Option F}{r:F}{g:List Item}(M:(Go.Lg.a1 body z).bind f0=some r)(I:S→ay→aj→St→Prop)(y:f→ay→aj→St→Prop)(W:Nat)(_:exitTo W k=some g)(G:I z R H st)(Q:∀ p R H st,y p R H st→f0 p=some r→U af c R H st g)(hb:∀ s R H st,I s R H st→∀ x,body s=some x→(∀ s',x=Sum.inl s'→∀ R' H' aa,I s' R' H' aa→U af c R' H' aa (.inLoop code::k))→(∀ p,x=(Sum.inr p)→∀ R' H' aa,y p R' H' aa→U af c R' H' aa g)→U af c R H st (.code code :: .inLoop code::k)):U af c R H st (.code (.loop code)::k):=U.a1 M I (λ s R H st L x V again out=>hb s R H st L x V again (λ p T R' H' aa J=>Q p R' H' aa J (out _ T))) G
theorem U.dy{S f Q F:Type}{body:S→Option (S ⊕ (f ⊕ Q))}{J:S}{code:Code}{f0:f→Option F}{g:Q→Option F}{r:F}{z:List Item}(V:(Go.Lg.a1 body J).bind (Sum.elim f0 g)=some r)(I:S→ay→aj→St→Prop)(G:f→ay→aj→St→Prop)(Z:Nat)(_:exitTo Z k=some z)(L:I J R H st)(W:∀ p R H st,G p R H st→f0 p=some r→U af c R H st z)(hb:∀ s R H st,I s R H st→∀ x,body s=some x→(∀ s',x=Sum.inl s'→∀ R' H' aa,I s' R' H' aa→U af c R' H' aa (.inLoop code::k))→(∀ p,x=(Sum.inr (Sum.inl p))→∀ R' H' aa,G p R' H' aa→U af c R' H' aa z)→(∀ p,x=(Sum.inr (Sum.inr p))→g p=some r)→U af c R H st (.code code :: .inLoop code::k)):U af c R H st (.code (.loop code)::k):=U.a1 V I (λ s R H st T x Y again out=>hb s R H st T x Y again (λ p y R' H' aa M=>W p R' H' aa M (out _ y)) (λ _ y=>out _ y)) L
theorem U.da{f s:Type}{A:Option f}{it:Item}{f0:f→Option s}{r:s}(G:A.bind f0=some r)(g:f→ay→aj→St→Prop)(J:∀ p R H st,g p R H st→f0 p=some r→U af c R H st k)(hb:∀ x,A=some x→(∀ p,x=p→∀ R' H' aa,g p R' H' aa→U af c R' H' aa k)→U af c R H st (it::k)):U af c R H st (it::k):=by
 obtain ⟨x,y,z⟩:=ae G
 exact hb x y (λ p L R' H' aa F=>J p R' H' aa F (by subst L; exact z))
theorem U.FM{f Q y:Type}{A:Option (f ⊕ Q)}{it:Item}{f0:f→Option y}{g:Q→Option y}{r:y}(L:A.bind (Sum.elim f0 g)=some r)(z:f→ay→aj→St→Prop)(M:∀ p R H st,z p R H st→f0 p=some r→U af c R H st k)(hb:∀ x,A=some x→(∀ p,x=(Sum.inl p)→∀ R' H' aa,z p R' H' aa→U af c R' H' aa k)→(∀ p,x=(Sum.inr p)→g p=some r)→U af c R H st (it::k)):U af c R H st (it::k):=by
 obtain ⟨x,G,F⟩:=ae L
 exact hb x G (λ p s R' H' aa J=>M p R' H' aa J (by subst s; exact F)) (λ p s=>by subst s; exact F)
theorem Ox.lZ{α β:Type}{A:fM α}{D:fM β}{f:α→Option β}{x y:Operand}{ts:Array TypeId}{v va:Value}{a:α}{r:β}{g:aj}(h:g2 af R g A D v f)
  (T:o.op = .call ⟨.value x,#[y],ts⟩) (V:a2 st x=some v) (W:a2 st y=some va) (F:A R a va) (M:f a=some r) (L:bQ o.dst c.n) (J:∀ p∈g,p∈H)
  (G:∀ w R',aH R R'→D R' r w→∃ aa,aA (bJ o.dst w st) aa∧C R' H aa):gM af c o R H st C:=by
 obtain ⟨Y,first,captured,rfl,he,Q⟩:=h
 refine Ox.b5 (vs:=[va]) T rfl V (by simp [iD,W]) he rfl L ((Q R H (aH.refl _) J a r va F M).mono λ w R' H' h=>?_)
 obtain ⟨s,rfl,z⟩:=h
 exact G w R' s z
end
def bE{α:Type}(C:bF α)(k:Nat)(R:ay)(H:aj)(v:Value)(xs:List α):Prop :=
 ∃ A cap es,v = .slice A xs.length cap∧aO C k R xs es∧xs.length≤cap∧(xs≠[]→∃ b o,A=some ⟨b,o,none⟩∧aK R H b o es)
theorem bE.le{α:Type}{C:bF α}[CM C]{k:Nat}{R R':ay}{H:aj}{v:Value}{xs:List α}(h:bE C k R H v xs)(f:aH R R'):bE C k R' H v xs:=by
 obtain ⟨A,cap,es,y,z,F,G⟩:=h
 refine ⟨A,cap,es,y,z.mono f,F,λ J=>?_⟩
 obtain ⟨b,o,g,s⟩:=G J
 exact ⟨b,o,g,s.le f⟩
theorem bE.sub{α:Type}{C:bF α}{k:Nat}{R:ay}{H H':aj}{v:Value}{xs:List α}(h:bE C k R H v xs)(G:∀ p∈H,p∈H'):bE C k R H' v xs:=by
 obtain ⟨A,cap,es,s,y,z,F⟩:=h
 refine ⟨A,cap,es,s,y,z,λ J=>?_⟩
 obtain ⟨b,o,f,g⟩:=F J
 exact ⟨b,o,f,g.sub G⟩
theorem ah.rd{α:Type}{C:bF α}{k:Nat}{R:ay}{H:aj}{v:Value}{xs:List α}(h:ah C k R v xs):bE C k R H v xs:=by
 obtain ⟨A,cap,es,z,F,J,G⟩:=h
 refine ⟨A,cap,es,z,F,J,λ M=>?_⟩
 obtain ⟨b,o,arr,e,f,g,s,y⟩:=G M
 exact ⟨b,o,g,λ j w L=>⟨rfl,arr,e,f,.inl s,y j w L⟩⟩
theorem aX.rd{α:Type}{C:bF α}{k e:Nat}{R:ay}{H:aj}{v:Value}{xs:List α}{Hs:aj}(h:aX C k e R v xs Hs)(z:∀ p∈Hs,p∈H):bE C k R H v xs:=by
 rcases h with ⟨A,rfl,rfl,rfl⟩ | ⟨b,cap,cs,es,rfl,rfl,F,f,g,s⟩
 ·exact ⟨A,0,[],rfl,.nil,ct _,λ h=>absurd rfl h⟩
 ·exact ⟨_,cap,es,rfl,g,f,λ _=>⟨b,0,rfl,λ j w y=>⟨rfl,cs,e,(0,0),.inr (z _ (by simp)),by simpa using s j w y⟩⟩⟩
theorem bE.lit{α:Type}{C:bF α}{k e n b:Nat}{R:ay}{H:aj}{ys:List α}{cs:Array Value}{f:Nat × Nat}(hm:(b,Obj.cells cs e f)∈H)(g:aO C k R ys cs.toList)(y:ys.length=n):bE C k R H (.slice (some ⟨b,0,none⟩) n n) ys:=by
 subst y
 exact ⟨_,ys.length,cs.toList,rfl,g,ct _,λ _=>⟨b,0,rfl,λ j w s=>⟨rfl,cs,e,f,.inr hm,by simpa using s⟩⟩⟩
theorem bE.arg{α:Type}{C:bF α}{k:Nat}{R:ay}{H:aj}{v:Value}{xs:List α}(h:bE C k R H v xs):e4 C k R H v xs:=by
 obtain ⟨A,cap,es,f,g,_,s⟩:=h
 exact ⟨A,cap,es,f,g,s⟩
theorem bE.elem{P:Program}{α:Type}{K:bF α}{k t e:Nat}{R:ay}{H:aj}{v:Value}{xs:List α}{i:Int}{x:α}(h:bE K k R H v xs)(G:fs P t e k)(hi:idx xs i=some x) :
  ∃ b n es,K R x es∧aK R H b n es∧kx P t v i b n:=by
 obtain ⟨s,J,f⟩:=kK hi
 obtain ⟨A,cap,es,rfl,y,_,z⟩:=h
 obtain ⟨b,o,rfl,g⟩:=z (by rintro rfl; simp at f)
 obtain ⟨e1,f1,f2,f3⟩:=y.at_ _ _ f
 refine ⟨b,o+i.toNat * k,e1,f1,λ j w F=>?_,λ kd=>?_⟩
 ·have:=g _ _ (f3 j w F)
  simpa [Nat.add_assoc] using this
 ·have:=vF (P:=P) (b:=b) (m:=o) (cap:=cap) (kd:=kd) G (j:=i.toNat) (len:=xs.length) (by omega)
  rwa [Int.toNat_of_nonneg s] at this
theorem LX(a b:Nat × Obj)(l:aj):List.Perm (a::b::l) (b::a::l):=List.Perm.swap _ _ _
theorem sa(a:Nat × Obj)(B l:aj):List.Perm (a::(B++l)) (B++(a::l)):=List.perm_middle.symm
section
variable {P:Program} {B:Base} {main:Bool} {af:Jd P B main} {c:Ctx} {R:ay} {H H':aj} {st aa:St} {o:Oper} {C:ay→aj→St→Prop} {k:List Item}
theorem Ox.ud{α:Type}{K:bF α}{k:Nat}{x:Operand}{t e:TypeId}{v:Value}{xs:List α}{f:aj}(y:o.op = .call ⟨.builtin .len,#[x],#[t]⟩)(G:a2 st x=some v)(s:bE K k R f v xs)(F:P.underlying t=some (.slice e))
  (g:bQ o.dst c.n) (z:aA (bJ o.dst (.int .i64 (xs.length:Int)) st) aa) (h:C R H aa):aJ P B c o R H st C:=by
 obtain ⟨A,cap,es,rfl,_⟩:=s
 exact Ox.len y G F g z h
theorem U.cut{it:Item}(E:ay→aj→St→Prop)(f:∀ R' H' aa,E R' H' aa→U af c R' H' aa k)(g:(∀ R' H' aa,E R' H' aa→U af c R' H' aa k)→U af c R H st (it::k)):U af c R H st (it::k):=g f
theorem Any.Ma{S:Nat→aj}{ops:Array Oper}{n:Nat}{rem ra rb:List Nat}{i j:Nat}{a b:Oper}(z:ops[i]? = some a)(hb:ops[j]? = some b)(g:rem.filter (fJ ops rem)=[i,j])(L:cJ ops st a=some true)(M:cJ ops st b=some true)(F:rem.Nodup)(G:rem.erase i=ra)(J:rem.erase j=rb)
  (s:gM af c a R H st λ R' H' aa=>aH R R'∧(∀ p∈S i,p∈H→p∈H')∧Any af c S ops k n ra R' H' aa)
  (y:gM af c b R H st λ R' H' aa=>aH R R'∧(∀ p∈S j,p∈H→p∈H')∧Any af c S ops k n rb R' H' aa):Any af c S ops k (n+1) rem R H st:=by
 subst G J
 refine ⟨F,λ tmps f=>.inr ⟨(λ e=>by rw [e] at g; cases g),λ _ x Q T=>?_⟩⟩
 have:x∈rem.filter (fJ ops rem):=List.mem_filter.2 ⟨Q,T⟩
 rw [g] at this
 simp only [cO,List.not_mem_nil,or_false] at this
 rcases this with rfl | rfl
 ·exact s.om z (gJ f L) f
 ·exact y.om hb (gJ f M) f
theorem Any.AR{S:Nat→aj}{ops:Array Oper}{n:Nat}{rem ra rb rc:List Nat}{i j l:Nat}{a b d:Oper}(F:ops[i]? = some a)(hb:ops[j]? = some b)(G:ops[l]? = some d)(g:rem.filter (fJ ops rem)=[i,j,l])(T:cJ ops st a=some true)(V:cJ ops st b=some true)(W:cJ ops st d=some true)(J:rem.Nodup)(L:rem.erase i=ra)(M:rem.erase j=rb)(Q:rem.erase l=rc)
  (s:gM af c a R H st λ R' H' aa=>aH R R'∧(∀ p∈S i,p∈H→p∈H')∧Any af c S ops k n ra R' H' aa)
  (y:gM af c b R H st λ R' H' aa=>aH R R'∧(∀ p∈S j,p∈H→p∈H')∧Any af c S ops k n rb R' H' aa)
  (z:gM af c d R H st λ R' H' aa=>aH R R'∧(∀ p∈S l,p∈H→p∈H')∧Any af c S ops k n rc R' H' aa):Any af c S ops k (n+1) rem R H st:=by
 subst L M Q
 refine ⟨J,λ tmps f=>.inr ⟨(λ e=>by rw [e] at g; cases g),λ _ x Y Z=>?_⟩⟩
 have:x∈rem.filter (fJ ops rem):=List.mem_filter.2 ⟨Y,Z⟩
 rw [g] at this
 simp only [cO,List.not_mem_nil,or_false] at this
 rcases this with rfl | rfl | rfl
 ·exact s.om F (gJ f T) f
 ·exact y.om hb (gJ f V) f
 ·exact z.om G (gJ f W) f
end
section
variable {P:Program} {d:Nat} {xs ys:Array Value}
inductive oG (P:Program) (d:Nat) (xs ys:Array Value):List Field→Bool→Prop
 | nil:oG P d xs ys [] true
 | cons {f:Field} {rest:List Field} {a b:Value} {r r':Bool}:(f.name == "_")=false→al P (part f.type xs f.offset) a→al P (part f.type ys f.offset) b→al P (Op.equalIn d f.type a b) r→oG P d xs ys rest r'→oG P d xs ys (f::rest) (r && r')
def zU(r:Bool):Option Bool × Unit:=(if r then none else some false,())
theorem Me{g:List Field}{r:Bool}(h:oG P d xs ys g r) :
  al P (forIn g ((none:Option Bool),()) λ f (_:Option Bool × Unit) =>
      if f.name ≠ "_" then do
       let a ← part f.type xs f.offset
       let b ← part f.type ys f.offset
       let q ← Op.equalIn d f.type a b
       if (!q)=true then pure (ForInStep.done (some false,())) else pure (ForInStep.yield (none,()))
      else pure (ForInStep.yield (none,()))) (zU r):=by
 induction h with
 | nil=>rw [List.forIn_nil]; exact al.bc _
 | @cons f rest a b r r' y s hb F _ G =>
  have z:f.name ≠ "_":=by simpa using y
  rw [List.forIn_cons]
  simp only [z,ne_eq,not_false_iff,if_true,bind_assoc]
  refine al.bj s (al.bj hb (al.bj F ?_))
  cases r with
  | false=>simp only [Bool.not_false,if_true,pure_bind,Bool.false_and]; exact al.bc _
  | true =>
   simp only [Bool.not_true,gq,if_false,pure_bind,Bool.true_and]
   simpa only [ne_eq] using G
theorem vE{t:TypeId}{fields:Array Field}{r:Bool}(hu:P.underlying t=some (.struct fields))(f:P.stoodInHeld t=false)(h:oG P d xs ys fields.toList r):al P (Op.equalIn (d+1) t (.agg xs) (.agg ys)) r:=by
 rw [Op.equalIn]
 refine al.bj (al.underlying hu) ?_
 dsimp only
 refine al.bj al.program ?_
 simp only [f,gq,if_false]
 rw [← Array.forIn_toList]
 refine al.bj (Me h) ?_
 cases r <;> exact al.bc _
theorem oz{t:TypeId}{kd:IntKind}{a b:Int}(hu:P.underlying t=some (.int kd)):al P (Op.equalIn (d+1) t (.int kd a) (.int kd b)) (a == b):=by
 rw [Op.equalIn]
 refine al.bj (al.underlying hu) ?_
 simp only [if_true]
 exact al.bc _
theorem qm{t:TypeId}{a b:Bool}(hu:P.underlying t=some .bool):al P (Op.equalIn (d+1) t (.bool a) (.bool b)) (a == b):=by
 rw [Op.equalIn]
 exact al.bj (al.underlying hu) (al.bc _)
inductive oF (P:Program) (d:Nat) (elem:TypeId) (n:Nat) (xs ys:Array Value):List Nat→Bool→Prop
 | nil:oF P d elem n xs ys [] true
 | cons {i:Nat} {rest:List Nat} {a b:Value} {r r':Bool}:al P (part elem xs (i * n)) a→al P (part elem ys (i * n)) b→al P (Op.equalIn d elem a b) r→oF P d elem n xs ys rest r'→oF P d elem n xs ys (i::rest) (r && r')
theorem Md{elem:TypeId}{n:Nat}{is:List Nat}{r:Bool}(h:oF P d elem n xs ys is r) :
  al P (forIn is ((none:Option Bool),()) λ i (_:Option Bool × Unit)=>do
      let a ← part elem xs (i * n)
      let b ← part elem ys (i * n)
      let q ← Op.equalIn d elem a b
      if (!q)=true then pure (ForInStep.done (some false,())) else pure (ForInStep.yield (none,()))) (zU r):=by
 induction h with
 | nil=>rw [List.forIn_nil]; exact al.bc _
 | @cons i rest a b r r' f hb g _ s =>
  rw [List.forIn_cons]
  simp only [bind_assoc]
  refine al.bj f (al.bj hb (al.bj g ?_))
  cases r with
  | false=>simp only [Bool.not_false,if_true,pure_bind,Bool.false_and]; exact al.bc _
  | true =>
   simp only [Bool.not_true,gq,if_false,pure_bind,Bool.true_and]
   exact s
theorem Mc{n len:Nat}{t elem:TypeId}{r:Bool}(hu:P.underlying t=some (.array len elem))(f:al P (sizeOf elem) n)(h:oF P d elem n xs ys (List.range len) r):al P (Op.equalIn (d+1) t (.agg xs) (.agg ys)) r:=by
 rw [Op.equalIn]
 refine al.bj (al.underlying hu) ?_
 dsimp only
 refine al.bj f ?_
 rw [Std.Legacy.Range.forIn_eq_forIn_range']
 simp only [Std.Legacy.Range.size,Nat.sub_zero,Nat.add_sub_cancel,Nat.div_one]
 rw [← List.range_eq_range']
 refine al.bj (Md h) ?_
 cases r <;> exact al.bc _
end
def ee(s:ByteArray):List Int:=s.data.toList.map λ b=>(b.toNat:Int)
def jf(s:ByteArray)(i:Int):Option Int:=idx (ee s) i
section
variable {P:Program} {B:Base} {main:Bool} {af:Jd P B main} {c:Ctx} {R:ay} {H H':aj} {st aa:St} {o:Oper} {C:ay→aj→St→Prop} {k:List Item}
theorem Ox.ri{x y:Operand}{t:TypeId}{s:ByteArray}{kd:IntKind}{i z:Int}(F:o.op = .index t x y)(V:a2 st x=some (.string s))(W:a2 st y=some (.int kd i))(T:P.underlying t=some .string)(Y:jf s i=some z)
  (M:bQ o.dst c.n) (Q:aA (bJ o.dst (.int .u8 z) st) aa) (h:C R H aa):aJ P B c o R H st C :=
 Ox.e2 (s:=λ f=>Instr.index t (f x) (f y)) (by rw [F]; rfl) M (λ f=>by simp only [execOp,F]) (λ f G=>by
  rw [G x _ V,G y _ W]
  obtain ⟨J,Z,g⟩:=kK Y
  unfold ee at g
  rw [List.getElem?_map] at g
  obtain ⟨b,hb,rfl⟩:=Option.map_eq_some_iff.1 g
  unfold Instr.index
  refine al.bj (a:=(kd,i)) (al.bc _) (al.bj (al.underlying T) ?_)
  have e:(if 0≤i then s[i.toNat]? else none)=some b:=by
   rw [if_pos J]
   have L:s.data[i.toNat]? = some b:=by simpa using hb
   rw [← L]
   rfl
  simp only [e]
  exact al.bc _) Q h
def vO(P:Program)(t:TypeId)(z:Array Value):Prop:=dH P t z∧∃ n e m,P.underlying t=some (.array n e)∧al P (sizeOf e) m
theorem Ox.iG{t:TypeId}{z:Array Value}(f:o.op = .build t #[])(J:vO P t z)
  (F:bQ o.dst c.n) (G:aA (bJ o.dst (.agg z) st) aa) (h:C R H aa):aJ P B c o R H st C :=
 Ox.e2 (s:=λ _=>Instr.build t #[]) (by rw [f]; rfl) F (λ M=>by simp [execOp,f]) (λ M Q=>by
  obtain ⟨⟨z0,L,rfl⟩,n,e,m,g,y⟩:=J
  unfold Instr.build
  exact al.bj L (al.bj (al.underlying g) (al.bj y (al.bc _)))) G h
def oE(P:Program)(t _:Nat)(v:Value)(len l h:Int)(g:Value):Prop :=
 ∀ (f:Operand→Value) (st:St) (x:Operand) (lo hi:Option Operand),Knows st f→f x=v→hd st lo=some l→ha st len.toNat hi=some h→al P (Instr.sliceAt t (f x) (lo.map f) (hi.map f) none) g
theorem ah.cut{α:Type}{K:bF α}{k t e:Nat}{xs ys:List α}{v:Value}{l h:Int}(W:ah K k R v xs)(g:fs P t e k)(Y:fw xs l h=some ys):∃ F,ah K k R F ys∧oE P t k v (xs.length:Int) l h F:=by
 obtain ⟨Q,T,s,rfl⟩:=qX Y
 obtain ⟨A,cap,es,rfl,V,Z,hm⟩:=W
 refine ⟨(.slice (if cap=l.toNat then A else A.map (·.add (l.toNat * k))) (h.toNat - l.toNat) (cap - l.toNat)),?_,?_⟩
 ·have z:((xs.take h.toNat).drop l.toNat).length=h.toNat - l.toNat:=by
   simp only [List.length_drop,gK]
   omega
  refine ⟨(if cap=l.toNat then A else A.map (·.add (l.toNat * k))),cap - l.toNat,(es.take (h.toNat * k)).drop (l.toNat * k),by rw [z],V.take.drop,by rw [z]; omega,λ ac=>?_⟩
  have ag:l.toNat < h.toNat:=by
   apply Classical.byContradiction
   intro ak
   apply ac
   apply List.eq_nil_of_length_eq_zero
   simp only [List.length_drop,gK]
   omega
  obtain ⟨b,o',arr,G,J,rfl,L,M⟩:=hm (by rintro rfl; simp at s; omega)
  refine ⟨b,o'+l.toNat * k,arr,G,J,?_,L,λ j w f=>?_⟩
  ·rw [if_neg (by omega)]; simp [h0]
  ·rw [List.getElem?_drop,List.getElem?_take] at f
   split at f
   ·have:=M _ _ f
    simpa [Nat.add_assoc] using this
   ·cases f
 ·intro am st x lo hi ae ad ab y
  rw [cm] at y
  rw [ad]
  unfold Instr.sliceAt
  refine al.bj (al.underlying g.1) ?_
  unfold Instr.slice
  refine al.bj (al.underlying g.1) (al.bj (vC ae ab y ⟨Q,T,s⟩ Z) (al.bj g.2 (al.bc _)))
theorem Ox.l1{x:Operand}{t k:Nat}{lo hi:Option Operand}{v z:Value}{len l h:Int}(g:o.op = .slice t x lo hi none)(T:a2 st x=some v)(M:hd st lo=some l)(L:ha st len.toNat hi=some h)(G:oE P t k v len l h z)(J:bQ o.dst c.n)
  (Q:aA (bJ o.dst z st) aa) (F:C R H aa):aJ P B c o R H st C :=
 Ox.e2 (s:=λ f=>Instr.sliceAt t (f x) (lo.map f) (hi.map f) none) (by rw [g]; rfl) J (λ f=>by simp only [execOp,g]; rfl) (λ f y=>G f st x lo hi y (y x _ T) M L) Q F
theorem aX.dI{α:Type}{K:bF α}{k t e:Nat}{v:Value}{xs:List α}{Hs:aj}{i:Int}{x:α}(h:aX K k e R v xs Hs)(ag:fs P t e k)(hi:idx xs i=some x) :
  ∃ b cs es,K R x es∧Hs=[(b,.cells cs e (0,0))]∧aK R Hs b (i.toNat * k) es∧(∀ (j:Nat) (w:Value),es[j]? = some w→cs[i.toNat * k+j]? = some w)∧kx P t v i b (i.toNat * k)∧es.length=k∧i.toNat * k+k≤cs.size ∧
   ∀ x' s,K R x' s→s.length=k→aX K k e R v (xs.set i.toNat x') [(b,.cells (dD cs (i.toNat * k) s) e (0,0))]:=by
 obtain ⟨ad,ao,L⟩:=kK hi
 rcases h with ⟨A,rfl,rfl,rfl⟩ | ⟨b,cap,cs,es,rfl,rfl,Q,T,F,G⟩
 ·simp at L
 obtain ⟨e1,f1,f2,f3⟩:=F.at_ _ _ L
 have Y:i.toNat < xs.length:=(ep.1 L).1
 have ar:i.toNat * k+k≤xs.length * k:=by
  calc i.toNat * k+k=(i.toNat+1) * k:=by rw [Nat.add_mul,Nat.one_mul]
   _≤xs.length * k:=Nat.mul_le_mul_right k Y
 have ap:xs.length * k≤cs.size:=by rw [Q]; exact Nat.mul_le_mul_right k T
 refine ⟨b,cs,e1,f1,rfl,λ j w f=>⟨rfl,cs,e,(0,0),.inr (by simp),G _ _ (f3 j w f)⟩,λ j w f=>G _ _ (f3 j w f),λ kd=>?_,f2,by omega,λ x' s ak g=>?_⟩
 ·have:=vF (P:=P) (b:=b) (m:=0) (cap:=cap) (kd:=kd) ag (j:=i.toNat) (len:=xs.length) Y
  rw [Int.toNat_of_nonneg ad] at this
  simpa using this
 ·refine .inr ⟨b,cap,_,(es.take (i.toNat * k))++(s++es.drop (i.toNat * k+k)),by rw [List.length_set],rfl,by rw [qb]; exact Q,by rw [List.length_set]; exact T,?_,?_⟩
  ·have z:=F.len
   refine ⟨?_,λ j y J=>?_⟩
   ·simp only [ew,gK,List.length_drop,List.length_set,g,z]
    omega
   ·rw [List.getElem?_set] at J
    split at J
    ·rename_i W
     subst W
     cases J
     refine ⟨s,ak,g,λ a w hw=>?_⟩
     have M:=(ep.1 hw).1
     rw [fC (by simp only [gK]; omega)]
     simp only [gK,z]
     rw [show i.toNat * k+a - min (i.toNat * k) (xs.length * k)=a by omega,fU M]
     exact hw
    ·rename_i W
     obtain ⟨ac,am,ab,an⟩:=F.at_ _ _ J
     refine ⟨ac,am,ab,λ a w hw=>?_⟩
     have M:=(ep.1 hw).1
     rw [ab] at M
     have hold:=an a w hw
     rcases Nat.lt_or_ge j i.toNat with Z | aq
     ·have:j * k+k≤i.toNat * k:=by
       calc j * k+k=(j+1) * k:=by rw [Nat.add_mul,Nat.one_mul]
        _≤i.toNat * k:=Nat.mul_le_mul_right k Z
      rw [fU (by simp only [gK,z]; omega),List.getElem?_take,if_pos (by omega)]
      exact hold
     ·have:i.toNat * k+k≤j * k:=by
       calc i.toNat * k+k=(i.toNat+1) * k:=by rw [Nat.add_mul,Nat.one_mul]
        _≤j * k:=Nat.mul_le_mul_right k (by omega)
      rw [fC (by simp only [gK]; omega),fC (by simp only [gK,z,g]; omega),List.getElem?_drop]
      simp only [gK,z,g]
      rw [show i.toNat * k+k+(j * k+a - min (i.toNat * k) (xs.length * k) - k)=j * k+a by omega]
      exact hold
  ·intro j w f
   have z:=F.len
   rw [lE s cs (i.toNat * k) j (by rw [g]; omega)]
   rw [List.getElem?_append] at f
   simp only [gK,z] at f
   split at f
   ·rename_i Z
    rw [List.getElem?_take] at f
    split at f
    ·rw [if_neg (by omega)]
     exact G _ _ f
    ·cases f
   ·rw [List.getElem?_append] at f
    split at f
    ·rename_i ae V
     rw [if_pos (by omega),← f]
     congr 1
     omega
    ·rename_i ae V
     rw [g] at V
     rw [if_neg (by rw [g]; omega)]
     rw [List.getElem?_drop,g] at f
     have:=G _ _ f
     rwa [show i.toNat * k+k+(j - min (i.toNat * k) (xs.length * k) - k)=j by omega] at this
theorem vg:∀ (vs ws:List Value) (cs:Array Value) (o:Nat),dD cs o (vs++ws)=dD (dD cs o vs) (o+vs.length) ws
 | [],ws,cs,o=>by simp [dD]
 | v::vs,ws,cs,o=>by
  simp only [List.cons_append,dD,List.length_cons]
  rw [vg vs ws]
  congr 1
  omega
theorem vh:∀ (vs:List Value) (cs:Array Value) (o:Nat),(∀ j w,vs[j]? = some w→cs[o+j]? = some w)→dD cs o vs=cs
 | [],cs,o,_=>rfl
 | v::vs,cs,o,h=>by
  have g:cs[o]? = some v:=h 0 v rfl
  have s:=(Array.getElem?_eq_some_iff.1 g).1
  have e:cs.setIfInBounds o v=cs:=by
   apply Array.ext_getElem?
   intro j
   by_cases f:o=j
   ·subst f; rw [fB s,g]
   ·rw [eG f]
  simp only [dD,e]
  exact vh vs cs (o+1) λ j w f=>by
   have:=h (j+1) w (by simpa using f)
   rwa [show o+(j+1)=o+1+j by omega] at this
theorem Ox.dJ{α:Type}{K:bF α}{k e t b j n:Nat}{x y:Operand}{G:aj→aj}{v w:Value}{xs:List α}{i:Int}{x':α}{cs:Array Value}{pre mid post vs:List Value}(Z:eu G)
  (V:o.op = .store t x y) (ao:a2 st x=some (.pointer (some ⟨b,i.toNat * k+j,none⟩))) (ap:a2 st y=some w) (hw:w.cells.toList=vs) (an:al P (sizeOf t) n) (J:vs.length=n) (Y:∀ u∈vs,u.oneCell'=true)
  (T:∀ (j:Nat) (w:Value),(pre++(mid++post))[j]? = some w→cs[i.toNat * k+j]? = some w) (ae:pre.length=j) (hm:mid.length=n) (F:(pre++(mid++post)).length=k) (ar:i.toNat * k+k≤cs.size)
  (ac:∀ x' z,K R x' z→z.length=k→aX K k e R v (xs.set i.toNat x') [(b,.cells (dD cs (i.toNat * k) z) e (0,0))]) (ab:K R x' (pre++(vs++post)))
  (ad:o.dst=none) (ak:aA st aa) (h:∀ L,aX K k e R v (xs.set i.toNat x') L→C R (G L) aa):aJ P B c o R (G [(b,.cells cs e (0,0))]) st C:=by
 have ag:dD cs (i.toNat * k+j) vs=dD cs (i.toNat * k) (pre++(vs++post)):=by
  rw [vg,vh pre cs _ (λ a u f=>T a u (by rw [fU (ep.1 f).1]; exact f)),vg,ae,J]
  rw [vh post]
  intro a u f
  have M:=T (j+n+a) u (by
   rw [fC (by omega),fC (by omega)]
   rw [show j+n+a - pre.length - mid.length=a by omega]
   exact f)
  have aq:=(Array.getElem?_eq_some_iff.1 M).1
  rw [lE vs cs (i.toNat * k+j) _ (by rw [J]; have:=F; simp only [ew] at this; omega),if_neg (by omega)]
  rwa [show i.toNat * k+(j+n+a)=i.toNat * k+j+n+a by omega] at M
 have hlen:(pre++(vs++post)).length=k:=by
  simp only [ew] at F ⊢
  omega
 have Q:=ac x' _ ab hlen
 rw [← ag] at Q
 refine Ox.od (s:=λ g=>Instr.storeAt t (g x) (g y)) (by rw [V]; rfl) ad (λ g=>by simp only [execOp,V]) ak (λ g W=>?_)
 rw [W x _ ao,W y _ ap]
 simp only [Instr.storeAt,Instr.sureAddr]
 refine al.bV (al.bc _) ?_
 have am:w.cells.size=n:=by rw [← J,← hw]; simp
 refine aE.storeVar (cs:=cs) (e:=e) an am (by rw [hw]; exact Y) (by simp only [ew] at F; omega) ?_ (h _ Q)
 rw [hw]
 exact Z.set
theorem aE.Fu{b n off:Nat}{cs:Array Value}{e:TypeId}{f:Nat × Nat}{K:Unit→ay→aj→Prop}(y:∀ G,K () R ((b,.cells cs e G)::H)):aE P B R ((b,.cells cs e f)::H) (Go.freeze ⟨b,off,none⟩ n) K:=by
 intro w hw
 have hb:w.heap[b]? = some (.cells cs e f):=hw.h _ _ (by simp)
 have F:(Go.freeze ⟨b,off,none⟩ n).run P w = .ok () (w.freeze ⟨b,off,none⟩ n):=rfl
 have s:(Go.freeze ⟨b,off,none⟩ n).events P w #[]=#[]:=rfl
 by_cases z:n=0
 ·refine ⟨(),w,R,(b,.cells cs e f)::H,by rw [F]; simp [World.freeze,z],by rw [s]; simp,c5.refl hw,y f⟩
 ·obtain ⟨lo,hi⟩:=f
  have J:w.freeze ⟨b,off,none⟩ n={ w with heap:=w.heap.setIfInBounds b (.cells cs e (if lo == hi then (off,off+n) else (min lo off,max hi (off+n)))) }:=by
   simp only [World.freeze,z,if_false]
   congr 1
   apply Array.ext_getElem?
   intro i
   rw [Array.getElem?_modify]
   by_cases g:b=i
   ·subst g
    rw [fB (eQ hb),hb]
    simp
   ·simp [g,eG g]
  refine ⟨(),_,R,_,F,by rw [s]; simp,?_,y (if lo == hi then (off,off+n) else (min lo off,max hi (off+n)))⟩
  rw [J]
  exact hw.jX .here
theorem Ox.LR{x:Operand}{t u e:TypeId}{s:ByteArray}(L:o.op = .convert t u x)(Z:a2 st x=some (.string s))(Y:P.underlying t=some .string)(hu:P.underlying u=some (.slice e))(he:P.underlying e=some (.int .u8))
  (V:bQ o.dst c.n) (Q:∀ v Hs,bE (CI .u8) 1 R (Hs++H) v (ee s)→∃ aa,aA (bJ o.dst v st) aa∧C R (Hs++H) aa):aJ P B c o R H st C :=
 Ox.mem (s:=λ G=>convert t u (G x)) (by rw [L]; rfl) V (λ G=>by simp only [execOp,L]) (λ G ac=>by
  rw [ac x _ Z]
  unfold convert
  refine al.bV (al.underlying Y) (al.bV (al.underlying hu) ?_)
  dsimp only
  refine al.bV (al.underlying he) ?_
  dsimp only
  unfold Conv.stringToBytes
  refine aE.bK (aE.choose λ ad=>?_)
  generalize T:(if (Question.appendCap s.size 0 e).forced then 0 else (Question.appendCap s.size 0 e).cut ad)=cap
  have W:s.size≤cap:=by
   rw [← T]
   simp [Question.forced,Question.cut]
  refine aE.bK ?_
  simp only [newRow]
  refine aE.bK (aE.new λ b ae ag=>aE.bR ?_)
  refine aE.bK ?_
  unfold markStringish
  have fin:∀ f,∃ aa,aA (bJ o.dst (.slice (some ⟨b,0,none⟩) s.size cap) st) aa∧C R ((b,.cells ((s.data.map λ b=>Value.int .u8 b.toNat)++Array.replicate (cap - s.size) (.int .u8 0)) e f)::H) aa:=λ f=>by
   refine Q (.slice (some ⟨b,0,none⟩) s.size cap) [(b,.cells ((s.data.map λ b=>Value.int .u8 b.toNat)++Array.replicate (cap - s.size) (.int .u8 0)) e f)] ⟨some ⟨b,0,none⟩,cap,(ee s).map (Value.int .u8),by simp [ee],?_,by simpa [ee] using W,λ _=>⟨b,0,rfl,λ j w g=>⟨rfl,_,e,f,.inr (List.mem_cons_self ..),?_⟩⟩⟩
   ·refine ⟨by simp,λ i y ab=>⟨[.int .u8 y],rfl,rfl,λ j w g=>?_⟩⟩
    cases j with
    | zero=>cases g; simp [ab]
    | succ j=>simp at g
   ·have J:=(ep.1 g).1
    simp only [List.length_map,ee,Array.length_toList] at J
    simp only [Nat.zero_add]
    rw [Array.getElem?_append_left (by simpa using J)]
    rw [List.getElem?_map] at g
    obtain ⟨z,F,rfl⟩:=Option.map_eq_some_iff.1 g
    unfold ee at F
    rw [List.getElem?_map] at F
    obtain ⟨q,M,rfl⟩:=Option.map_eq_some_iff.1 F
    rw [Array.getElem?_map]
    rw [Array.getElem?_toList] at M
    rw [M]
    rfl
  refine aE.bK (aE.shape λ y=>?_)
  cases y with
  | none=>exact aE.bR (aE.bR (fin _))
  | some y =>
   obtain ⟨ak,am⟩:=y
   exact aE.Fu λ f=>aE.bR (fin f))
def c8{α:Type}(xs ys:List α):List α:=ys.take xs.length++xs.drop ys.length
theorem np{α:Type}{xs ys:List α}{n:Nat}(h:xs.length=n):(c8 xs ys).length=n:=by
 simp only [c8,ew,gK,List.length_drop]; omega
theorem Ox.LB{x:Operand}{t len e n b off:Nat}(g:o.op = .slice t x none none none)(G:a2 st x=some (.pointer (some ⟨b,off,none⟩)))(y:jj P t len e n)
  (z:bQ o.dst c.n) (F:aA (bJ o.dst (.slice (some ⟨b,off,none⟩) len len) st) aa) (h:C R H aa):aJ P B c o R H st C :=
 Ox.e2 (s:=λ f=>Instr.sliceAt t (f x) none none none) (by rw [g]; rfl) z (λ f=>by simp only [execOp,g]; rfl) (λ f J=>by
  rw [J x _ G]
  unfold Instr.sliceAt
  refine al.bj (al.underlying y.1) ?_
  dsimp only
  unfold Instr.sliceBounds
  refine al.bj (a:=(⟨b,off,none⟩:Addr)) (al.bc _) (al.bj (a:=((0:Nat),len,len)) (al.bj (a:=len) (al.bc _) (al.bj (a:=len) (al.bc _) (al.bj (a:=(0:Nat)) (al.bc _) (al.bc _)))) (al.bj y.2 ?_))
  dsimp only
  rw [Nat.zero_mul,h0]
  simp only [Nat.add_zero,ite_self,Nat.sub_zero]
  exact al.bc _) F h
theorem Ox.Cq{x y:Operand}{t e t2 b off n T:Nat}{Y:TypeDesc}{v:Value}{xs ys:List Int}{pre post:List Value}(L:o.op = .call ⟨.builtin .copy,#[x,y],#[t,t2]⟩)(aw:a2 st x=some (.slice (some ⟨b,off,none⟩) n n))(ax:a2 st y=some v)(Q:fs P t e 1)(_:P.underlying t2=some Y)
  (ac:bE (CI .i64) 1 R H v ys) (ag:xs.length=n) (ar:cU H b (.cells ((pre++(xs.map (Value.int .i64)++post)).toArray) T (0,0)) (.cells ((pre++((c8 xs ys).map (Value.int .i64)++post)).toArray) T (0,0)) H') (M:pre.length=off)
  (ad:bQ o.dst c.n) (au:aA (bJ o.dst (goInt (Nat.min ys.length n)) st) aa) (h:C R H' aa):aJ P B c o R H st C:=by
 refine ⟨by rw [L]; rfl,ad,λ W V=>?_⟩
 simp only [execOp,L]
 refine al.bV (a:=⟨.builtin .copy #[t,t2] o.type (#[x,y].map λ | .const _=>true | _=>false),#[x,y].map W⟩) (al.bc _) ?_
 simp only [invoke,builtin]
 have e1:(#[x,y].map W)=#[.slice (some ⟨b,off,none⟩) n n,v]:=by simp [V x _ aw,V y _ ax]
 rw [e1]
 obtain ⟨A,cap,es,rfl,G,aB,hm⟩:=ac
 have ae:es=ys.map (Value.int .i64):=by
  apply List.ext_getElem?
  intro j
  rw [List.getElem?_map]
  rcases Nat.lt_or_ge j ys.length with g | g
  ·obtain ⟨q,ao,aC,aq⟩:=G.at_ j _ (e3 g)
   have ap:q=[.int .i64 ys[j]]:=ao
   subst ap
   have:=aq 0 _ rfl
   rw [Nat.mul_one,Nat.add_zero] at this
   rw [this,e3 g]
   rfl
  ·rw [List.getElem?_eq_none (by rw [G.len]; omega),List.getElem?_eq_none g]
   rfl
 subst ae
 have an:dD ((pre++(xs.map (Value.int .i64)++post)).toArray) off ((ys.map (Value.int .i64)).take n)=(pre++((c8 xs ys).map (Value.int .i64)++post)).toArray:=by
  subst M
  apply Array.ext_getElem?
  intro j
  rw [lE _ _ _ _ (by simp; omega)]
  simp only [gK,List.length_map,c8,List.map_append,List.map_take,List.map_drop,List.getElem?_toArray,ag]
  by_cases f:pre.length≤j∧j < pre.length+Min.min n ys.length
  ·rw [if_pos f,fC f.1,fU (by simp; omega),fU (by simp; omega)]
  ·rw [if_neg f]
   rcases Nat.lt_or_ge j pre.length with s | s
   ·rw [fU s,fU s]
   ·rw [fC s,fC s]
    rcases Nat.lt_or_ge (j - pre.length) n with Z | Z
    ·rw [fU (by simp; omega),fU (by simp; omega),fC (by simp; omega),List.getElem?_drop]
     simp only [gK,List.length_map]
     congr 1
     omega
    ·rw [fC (by simp; omega),fC (by simp; omega)]
     simp only [ew,gK,List.length_map,List.length_drop]
     congr 1
     omega
 have fin:∀ K:Unit→ay→aj→Prop,K () R H'→aE P B R H (storeCells ⟨b,off,none⟩ ((ys.map (Value.int .i64)).take n)) K:=λ K ab=>by
  refine aE.given λ am=>aE.qh _ ((pre++(xs.map (Value.int .i64)++post)).toArray) off 0 H H' (λ u hu=>?_) (by subst M; simp; omega) (by rw [Nat.add_zero,an]; exact ar) am ab
  obtain ⟨z,_,rfl⟩:=List.mem_map.1 (List.mem_of_mem_take hu)
  rfl
 refine aE.bK ?_
 unfold Builtin.copy_
 refine al.bV (al.underlying Q.1) ?_
 dsimp only
 refine al.bV (a:=ys.length) (al.bc _) (al.bV Q.2 ?_)
 have last:aE P B R H (do storeCells ⟨b,off,none⟩ ((ys.map (Value.int .i64)).take n); pure (goInt (Nat.min ys.length n))) λ a R' H'=>aE P B R' H' (pure (Next.value a)) λ nx R' H'=>∃ v,(nx = .value v∨(nx = .skip∧v=undef))∧∃ aa,aA (bJ o.dst v st) aa∧C R' H' aa :=
  aE.bK (fin _ (aE.bR (aE.bR ⟨_,.inl rfl,aa,au,h⟩)))
 have av:(ys.map (Value.int .i64)).take n=(ys.map (Value.int .i64)).take (Nat.min ys.length n * 1):=by
  rw [Nat.mul_one]
  rcases Nat.le_total ys.length n with f | f
  ·rw [show Nat.min ys.length n=ys.length from Nat.min_eq_left f,List.take_of_length_le (by simpa using f),List.take_of_length_le (by simp)]
  ·rw [show Nat.min ys.length n=n from Nat.min_eq_right f]
 cases A with
 | none =>
  have az:ys=[]:=by
   apply Classical.byContradiction
   intro F
   obtain ⟨b',o',f,_⟩:=hm F
   cases f
  subst az
  simp only [Builtin.firstCells]
  refine al.bV (a:=#[]) (al.bc _) ?_
  simpa using last
 | some A =>
  have J:aK R H A.block A.off ((ys.map (Value.int .i64)).take n)∧(ys≠[]→A=⟨A.block,A.off,none⟩):=by
   by_cases F:ys=[]
   ·subst F; exact ⟨λ j u g=>by simp at g,λ h=>absurd rfl h⟩
   ·obtain ⟨b',o',f,s⟩:=hm F
    cases f
    refine ⟨λ j u g=>?_,λ _=>rfl⟩
    rw [List.getElem?_take] at g
    split at g
    ·exact s j u g
    ·cases g
  simp only [Builtin.firstCells,loadCells]
  by_cases F:ys=[]
  ·subst F
   simp only [List.length_nil,Nat.zero_mul,show Nat.min 0 n=0 from Nat.zero_min n]
   refine al.bV (a:=#[]) (al.bc _) ?_
   simpa using last
  ·rw [J.2 F]
   have ak:((ys.map (Value.int .i64)).take n).length=Nat.min ys.length n * 1:=by rw [av]; simp [Nat.min_le_left]
   refine aE.bK ?_
   rw [← ak]
   refine aE.loadCellsFrom _ 0 #[] (by simpa using J.1) ?_
   simpa using last
end
section
variable {P:Program} {B:Base} {main:Bool} {af:Jd P B main} {c:Ctx} {R:ay} {H:aj} {st:St} {k:List Item}
theorem aE.getLoop{l:Nat}{r:Loop}{K:Loop→ay→aj→Prop}(h:(l,Obj.loop r)∈H)(f:K r R H):aE P B R H (Instr.getLoop l) K:=by
 unfold Instr.getLoop
 exact aE.bK (aE.getObj rfl (.inr h) (aE.bR f))
theorem cU.at_{b:Nat}{o o':Obj}{T:aj}:∀ {Hs:aj},cU (Hs++(b,o)::T) b o o' (Hs++(b,o')::T)
 | []=>.here
 | _::_=>.there cU.at_
def oP(af:Jd P B main)(v:Value)(args:Array Value)(R:ay)(H:aj)(bP:Value→ay→aj→Prop):Prop :=
 ∃ l r,v = .func (.yield l) #[] #[]∧(l,Obj.loop r)∈H∧r.params.size=args.size ∧
  ∀ fr cs,(∀ w R' H',bP w R' H'→af.J R' H' (bk (fr.finish w) cs)) →
   af.J R H (bk (Frame.round l r.fn ((r.params.zip args).foldl (λ tmps (t,a)=>tmps.setIfInBounds t a) r.tmps) r.assign r.body .normal) (fr::cs))
theorem oP.mono{v:Value}{args:Array Value}{bP f:Value→ay→aj→Prop}(h:oP af v args R H bP)(G:∀ w R' H',bP w R' H'→f w R' H'):oP af v args R H f:=by
 obtain ⟨l,r,g,s,y,z⟩:=h
 exact ⟨l,r,g,s,y,λ fr cs F=>z fr cs λ w R' H' hw=>F w R' H' (G _ _ _ hw)⟩
theorem BX{fr:Frame}{cs:List Frame}{s:Sem Next}{w w':World}{l:Nat}{f:FuncId}{tmps:Array Value}{assign body:Code}(g:fr.kind ≠ .early)(z:s.run P w = .ok (.round l f tmps assign body) w') :
  stepG.apply P true fr cs none s w = .go (bk (Frame.round l f tmps assign body .normal) (fr::cs)) w' (seen P fr.fn (s.events P w #[])):=by
 have y:(fr.kind == CallKind.early)=false:=by simpa using g
 simp [stepG.apply,z,bk,y,GStep.after]
theorem U.qg{ops:Array Oper}{i:Nat}{rest:List Nat}{o:Oper}{f:Call}{x:Operand}{v:Value}{vs:List Value}(y:ops[i]? = some o)(hw:cJ ops st o=some true)(Y:(c.kind == CallKind.early)=false)
  (z:o.op = .call f) (Q:f.callee = .value x) (ak:a2 st x=some v) (L:iD st f.args.toList=some vs) (V:bQ o.dst c.n)
  (h:oP af v vs.toArray R H λ w R' H'=>∃ aa,aA (bJ o.dst w st) aa∧U af c R' H' aa (.inRegion ops rest::k)) :
  U af c R H st (.inRegion ops (i::rest)::k):=by
 intro tmps g
 obtain ⟨l,r,rfl,Z,ae,W⟩:=h
 have s:=g.knows c (.inRegion ops (i::rest)::k)
 have T:gA o.op=false:=by rw [z]; rfl
 have ac:aE P B R H (execOp (bf c tmps (.inRegion ops (i::rest)::k)).eval o) λ nx R' H'=>nx = .round l r.fn ((r.params.zip vs.toArray).foldl (λ tmps (t,a)=>tmps.setIfInBounds t a) r.tmps) r.assign r.body∧R'=R∧H'=H:=by
  simp only [execOp,z,resolve,Q,s x _ ak,Deferred.ofValue]
  have e:f.args.map (bf c tmps (.inRegion ops (i::rest)::k)).eval=vs.toArray:=by apply Array.ext'; simpa using oT s _ _ L
  refine al.bV (a:=⟨.fn (.yield l) #[],#[]++vs.toArray⟩) (by rw [e]; exact al.bc _) ?_
  simp only [invoke,Instr.yield]
  refine aE.bK (aE.getLoop Z ?_)
  simp only [Array.empty_append,ae,ne_eq,eW,if_false]
  exact aE.bR ⟨rfl,rfl,rfl⟩
 refine af.step rfl λ w ag=>?_
 obtain ⟨nx,w',R',H',F,G,J,rfl,rfl,rfl⟩:=ac w ag
 refine ⟨_,w',seen P c.fn ((execOp (bf c tmps (.inRegion ops (i::rest)::k)).eval o).events P w #[]),R',H',?_,λ e he=>G e (mem_seen he),J,W (bf c tmps (.inRegion ops (i::rest)::k)) c.cs λ u bM b3 ab=>?_⟩
 ·rw [kr y (gJ g hw) T]
  exact BX (by simpa [bf] using Y) F
 ·obtain ⟨aa,ad,M⟩:=ab
  rw [jo y]
  exact M _ ((g.put u V).sub ad)
structure eI (af:Jd P B main) (R:ay) {α S:Type} (A:fM α) (v:Value) (y:α→S→Option (S × Bool)) (Inv:S→ay→aj→Prop):Prop where
 fn:∃ l,v = .func (.yield l) #[] #[]
 mono:∀ {s:S} {R1 R2:ay} {Hy:aj},aH R R1→aH R1 R2→Inv s R1 Hy→Inv s R2 Hy
 call:∀ (Hf:aj) {R':ay} {Hy:aj} {s:S} {x:α} {va:Value} {z:S × Bool},aH R R'→Inv s R' Hy→A R' x va→y x s=some z →
  oP af v #[va] R' (Hf++Hy) λ w bM b3=>aH R' bM∧w = .bool z.2∧∃ kv,Inv z.1 bM kv∧b3=Hf++kv
theorem eI.up{R':ay}{α S:Type}{A:fM α}{v:Value}{y:α→S→Option (S × Bool)}{Inv:S→ay→aj→Prop}(h:eI af R A v y Inv)(g:aH R R'):eI af R' A v y Inv :=
 ⟨h.fn,λ f s=>h.mono (g.trans f) s,λ Hf=>λ f=>h.call Hf (g.trans f)⟩
theorem eI.cells{α S:Type}{A:fM α}{v:Value}{y:α→S→Option (S × Bool)}{Inv:S→ay→aj→Prop}(h:eI af R A v y Inv):v.cells=#[v]:=by
 obtain ⟨l,rfl⟩:=h.fn; rfl
def cp{α S O:Type}(body:α→S→Option (S ⊕ O))(x:α):S ⊕ O→Option ((S ⊕ O) × Bool)
 | .inl s=>(body x s).map λ z=>(z,z.isLeft)
 | .inr _=>none
def Shape(I:ay→aj→aj→Prop):Prop:=∀ R T H,I R T H→∃ Hs,H=Hs++T∧∀ R' T',aH R R'→I R' T' (Hs++T')
theorem Ln{l:Nat}{jump:Option Code}{r:Loop}{Hs T:aj}:aE P B R (Hs++(l,.loop r)::T) (Instr.endRound l jump) λ v R' H'=>v = .bool jump.isNone∧R'=R∧H'=Hs++(l,.loop { r with state:=if jump.isNone then .ready else .done,pending:=jump })::T:=by
 unfold Instr.endRound
 exact aE.bK (aE.getLoop (by simp) (aE.bK (aE.setObj rfl rfl cU.at_ (aE.bR ⟨rfl,rfl,rfl⟩))))
theorem Lm{l:Nat}{r:Loop}{Hs T:aj}(hb:(r.state == .busy)=false):aE P B R (Hs++(l,.loop r)::T) (Instr.endLoop l) λ v R' H'=>v=r.pending∧R'=R∧H'=Hs++(l,.loop { r with state:=.exhausted })::T:=by
 unfold Instr.endLoop
 refine aE.bK (aE.getLoop (r:=r) (by simp) ?_)
 simp only [hb]
 exact aE.bK (aE.setObj rfl rfl cU.at_ (aE.bR ⟨rfl,rfl,rfl⟩))
theorem Ll{l:Nat}{r:Loop}{H':aj}(f:cU H l (.loop r) (.loop { r with state:=.busy }) H')(g:r.state = .ready):aE P B R H (do Instr.beginRound l; pure Next.skip) λ v bM b3=>v = .skip∧bM=R∧b3=H':=by
 unfold Instr.beginRound
 refine aE.bK (aE.bK (aE.getLoop f.mem (aE.bK (aE.setObj rfl rfl f ?_))))
 simp only [g]
 exact aE.bR (aE.bR ⟨rfl,rfl,rfl⟩)
theorem U.beginRound{l:Nat}{r:Loop}{H':aj}(F:c.ro=some l)(y:(c.kind == CallKind.early)=false)(G:cU H l (.loop r) (.loop { r with state:=.busy }) H')(z:r.state = .ready)(h:U af c R H' st k):U af c R H st (.beginRound::k):=λ tmps J=>by
 refine af.step rfl λ w hw=>?_
 obtain ⟨v,w',R',b3,f,g,s,rfl,rfl,rfl⟩:=Ll (P:=P) G z w hw
 refine ⟨bk (bf c tmps k) c.cs,w',seen P c.fn ((do Instr.beginRound l; pure Next.skip:Sem Next).events P w #[]),R',b3,?_,λ e he=>g e (mem_seen he),s,h tmps J⟩
 have e:=sD (P:=P) (fr:=bf c tmps (.beginRound::k)) (cs:=c.cs) (by simpa [bf] using y) f
 simpa [stepG,stepG.exec,bk,bf,F,Frame.finish] using e
def Leaves(todo:List Item)(jump:Option Code):Prop :=
 (todo=[]∧jump=none)∨(∃ f,todo = .code .ret::f∧jump=some .ret)∨(∃ id f,todo = .code (.exit id)::f∧exitTo id f=none∧jump=some (.exit id))
theorem yA{l f:Nat}{n:Nat}{cs:List Frame}{fr:Frame}{tmps:Array Value}{todo:List Item}{jump:Option Code}{r:Loop}{Hs T:aj}(F:Leaves todo jump)
  (h:af.J R (Hs++(l,.loop { r with state:=if jump.isNone then .ready else .done,pending:=jump })::T) (bk (fr.finish (.bool jump.isNone)) cs)) :
  af.J R (Hs++(l,.loop r)::T) (bk (bf ⟨f,.normal,some l,n,[],fr::cs⟩ tmps todo) (fr::cs)):=by
 refine af.step rfl λ w hw=>?_
 obtain ⟨v,w',R',H',g,s,y,rfl,rfl,rfl⟩:=Ln (P:=P) (jump:=jump) w hw
 refine ⟨bk (fr.finish (.bool jump.isNone)) cs,w',seen P f ((Instr.endRound l jump).events P w #[]),R',_,?_,λ e he=>s e (mem_seen he),y,h⟩
 rcases F with ⟨rfl,rfl⟩ | ⟨G,rfl,rfl⟩ | ⟨id,G,rfl,z,rfl⟩
 ·simp at g; simp [stepG,stepG.exec,bf,g,doReturn,GStep.after,bk]
 ·simp at g; simp [stepG,stepG.exec,bf,g,doReturn,GStep.after,bk]
 ·simp at g; simp [stepG,stepG.exec,bf,g,z,doReturn,GStep.after,bk]
def hI(fn:FuncId)(tmps:Array Value)(t:Tmp)(assign body:Code)(d:Nat):Loop:={ state:=.ready,pending:=none,fn,tmps,params:=#[t],assign,body,defers:=d }
theorem ve{p:Nat × Obj}{Hf Hs D:aj}:List.Perm (Hs++p::(Hf++D)) (Hf++(Hs++p::D)):=by
 have f:List.Perm (Hs++p::(Hf++D)) (p::(Hs++(Hf++D))):=List.perm_middle
 have g:List.Perm (Hf++(Hs++p::D)) (p::(Hf++(Hs++D))):=by
  rw [← List.append_assoc,← List.append_assoc]
  exact List.perm_middle
 refine f.trans (List.Perm.trans (List.Perm.cons _ ?_) g.symm)
 rw [← List.append_assoc,← List.append_assoc]
 exact List.perm_append_comm.append_right D
section
variable {α S O:Type} {A:fM α} {body:α→S→Option (S ⊕ O)} {t:Tmp} {assign dN:Code}
 (I:S→ay→aj→aj→Prop) (E:O→ay→aj→aj→Prop) (jc:O→Code)
def sA(R:ay)(l:Nat)(r:Loop)(D:aj):S ⊕ O→ay→aj→Prop
 | .inl s,R',Hy=>aH R R'∧I s R' ((l,.loop r)::D) Hy
 | .inr o,R',Hy=>aH R R'∧E o R' ((l,.loop { r with state:=.done,pending:=some (jc o) })::D) Hy
def sz(af:Jd P B main)(c:Ctx)(R:ay)(H:aj)(st:St)(A:fM α)(body:α→S→Option (S ⊕ O))(t:Tmp)(assign dN:Code):Prop :=
 ∀ (va:Value) (x:α) (s:S) (z:S ⊕ O) (R':ay) (T H':aj) (l:Nat) (ld:Loop) (cs:List Frame),aH R R'→List.Sublist H T→A R' x va→I s R' ((l,.loop ld)::T) H'→ld.state = .ready→body x s=some z →
  (∀ s' bM b3 f,z = .inl s'→aH R' bM→I s' bM ((l,.loop { ld with state:=.busy })::T) b3→U af ⟨c.fn,.normal,some l,c.n,[],cs⟩ bM b3 f []) →
  (∀ o bM b3 f g,z = .inr o→aH R' bM→E o bM ((l,.loop { ld with state:=.busy })::T) b3→Leaves (.code (jc o)::g) (some (jc o))→U af ⟨c.fn,.normal,some l,c.n,[],cs⟩ bM b3 f (.code (jc o)::g)) →
  U af ⟨c.fn,.normal,some l,c.n,[],cs⟩ R' H' ((t,va)::st) [.code assign,.beginRound,.code dN]
variable {I E jc}
theorem yj{D:aj}{l:Nat}{d:Nat}{tmps:Array Value}(G:∀ s,Shape (I s))(V:∀ o,Shape (E o))(an:eg c.n st tmps)(ae:Nat.blt t c.n=true)(ac:List.Sublist H D)
  (hb:sz I E jc af c R H st A body t assign dN) :
  eI af R A (.func (.yield l) #[] #[]) (cp body) (sA I E jc R l (hI c.fn tmps t assign dN d) D) where
 fn:=⟨l,rfl⟩
 mono:=by
  intro s R1 R2 Hy au y f
  cases s with
  | inl s =>
   obtain ⟨F,f⟩:=f
   obtain ⟨Hs,rfl,h⟩:=G s _ _ _ f
   exact ⟨F.trans y,h _ _ y⟩
  | inr o =>
   obtain ⟨F,f⟩:=f
   obtain ⟨Hs,rfl,h⟩:=V o _ _ _ f
   exact ⟨F.trans y,h _ _ y⟩
 call:=by
  intro Hf R' Hy s x va z L f Z Q
  cases s with
  | inr o=>cases Q
  | inl s =>
   simp only [cp,Option.map_eq_some_iff] at Q
   obtain ⟨ar,ao,rfl⟩:=Q
   obtain ⟨F,f⟩:=f
   obtain ⟨Hs,rfl,am⟩:=G s _ _ _ f
   refine ⟨l,hI c.fn tmps t assign dN d,rfl,by simp,rfl,λ fr cs W=>?_⟩
   refine J.perm (H':=Hs++(l,.loop (hI c.fn tmps t assign dN d))::(Hf++D)) ve ?_
   have ak:eg c.n ((t,va)::st) (((hI c.fn tmps t assign dN d).params.zip #[va]).foldl (λ tmps (t,a)=>tmps.setIfInBounds t a) (hI c.fn tmps t assign dN d).tmps):=by
    have:=an.put (dst:=some t) va ae
    simpa [hI,bJ,dQ] using this
   refine hb va x s ar R' (Hf++D) _ l (hI c.fn tmps t assign dN d) (fr::cs) L (ac.trans (List.sublist_append_right _ _)) Z (am R' _ (aH.refl _)) rfl ao (λ s' bM b3 ap T g ad=>?_) (λ o bM b3 ap av T g ab ag=>?_) _ ak
   ·subst T
    obtain ⟨Y,rfl,M⟩:=G s' _ _ _ ad
    intro aq _
    refine yA (jump:=none) (.inl ⟨rfl,rfl⟩) ?_
    refine J.perm ve.symm ?_
    exact W _ _ _ ⟨g,rfl,_,⟨L.trans g,M bM _ (aH.refl _)⟩,rfl⟩
   ·subst T
    obtain ⟨Y,rfl,M⟩:=V o _ _ _ ab
    intro aq _
    refine yA (jump:=some (jc o)) ag ?_
    refine J.perm ve.symm ?_
    exact W _ _ _ ⟨g,rfl,_,⟨L.trans g,M bM _ (aH.refl _)⟩,rfl⟩
theorem Lp{fn:FuncId}{tmps:Array Value}{f:Array Tmp}{assign dN:Code}:aE P B R H (Instr.enterLoop fn tmps f assign dN none) λ q R' H'=>R'=R∧∃ r,q.2=[⟨.collected r,#[]⟩]∧H'=(q.1,.loop ⟨.ready,none,fn,tmps,f,assign,dN,r⟩)::(r,.deferred (some []))::H:=by
 unfold Instr.enterLoop
 refine aE.bK (aE.new λ r _ _=>aE.bK (aE.bR ?_))
 refine aE.bK (aE.new λ l _ _=>aE.bR ?_)
 exact ⟨rfl,r,rfl,rfl⟩
theorem Lo{fn:FuncId}{tmps:Array Value}{g:Array Tmp}{assign dN:Code}{f:Nat}{r0:Loop}(s:(f,Obj.loop r0)∈H):aE P B R H (Instr.enterLoop fn tmps g assign dN (some f)) λ q R' H'=>R'=R∧q.2=[]∧H'=(q.1,.loop ⟨.ready,none,fn,tmps,g,assign,dN,r0.defers⟩)::H:=by
 unfold Instr.enterLoop
 refine aE.bK (aE.getLoop s (aE.bK (aE.bR ?_)))
 refine aE.bK (aE.new λ l _ _=>aE.bR ?_)
 exact ⟨rfl,rfl,rfl⟩
theorem U.xP{x:Operand}{g:FuncId}{first cap:Array Value}(ad:a2 st x=some (.func (.func g) first cap))(he:aT P g)(Y:(c.kind == CallKind.early)=false){K:Nat × List Deferred→ay→aj→Prop}
  (V:∀ tmps,aE P B R H (Instr.enterLoop c.fn tmps #[t] assign dN c.ro) λ q R' H'=>R'=R∧∃ d f,H'=(q.1,.loop (hI c.fn tmps t assign dN d))::f∧K q R f)
  (h:∀ l mark d f tmps,eg c.n st tmps→K (l,mark) R f→af.J R ((l,.loop (hI c.fn tmps t assign dN d))::f) (bk (Frame.enter P g (first++#[.func (.yield l) #[] #[]]++cap) .normal) (bf ⟨c.fn,c.kind,c.ro,c.n,mark++c.defers,c.cs⟩ tmps (.inRangeFunc l::k)::c.cs))) :
  U af c R H st (.code (.rangeFunc x #[t] assign dN)::k):=by
 intro tmps y
 refine af.step rfl λ w hw=>?_
 obtain ⟨⟨l,mark⟩,w',R',H',G,L,M,rfl,d,f,rfl,Q⟩:=V tmps w hw
 have ab:=y.knows ⟨c.fn,c.kind,c.ro,c.n,mark++c.defers,c.cs⟩ (.inRangeFunc l::k)
 have ac:al P (do let d ← resolve (bf ⟨c.fn,c.kind,c.ro,c.n,mark++c.defers,c.cs⟩ tmps (.inRangeFunc l::k)).eval { callee:=.value x,args:=#[.const (.func (.yield l) #[] #[])],argTypes:=#[] } 0; invoke d.target d.args) (.enter g (first++#[.func (.yield l) #[] #[]]++cap)):=by
  obtain ⟨fn,e1,z,F⟩:=he.ex
  simp only [resolve,ab x _ ad,Deferred.ofValue]
  refine al.bj (a:=⟨.fn (.func g) cap,first++#[.func (.yield l) #[] #[]]⟩) (by simpa [Frame.eval] using al.bc _) ?_
  simp only [invoke]
  exact vD e1 z F
 have W:=h l mark d f tmps y Q
 refine ⟨_,w',seen P c.fn ((Instr.enterLoop c.fn tmps #[t] assign dN c.ro).events P w #[]),R',_,?_,λ e T=>L e (mem_seen T),M,W⟩
 have s:=ac w'
 simp only [bf] at s
 have Z:(c.kind == CallKind.early)=false:=Y
 simp [stepG,stepG.exec,stepG.apply,bk,bf,G,s.1,s.2,GStep.after,Z,seen]
theorem U.q0{l:Nat}{r:Loop}{Hs T:aj}{f:Option Code}(hb:(r.state == .busy)=false)(z:r.pending=f)(h:U af c R (Hs++T) st ((f.map Item.code).toList++k)):U af c R (Hs++(l,.loop r)::T) st (.endRangeFunc l::k):=λ tmps F=>by
 subst z
 refine af.step rfl λ w hw=>?_
 obtain ⟨v,w',R',H',g,s,y,rfl,rfl,rfl⟩:=Lm (P:=P) hb w hw
 refine ⟨bk (bf c tmps ((r.pending.map Item.code).toList++k)) c.cs,w',seen P c.fn ((Instr.endLoop l).events P w #[]),R',_,?_,λ e he=>s e (mem_seen he),y,J.drop ?_ (h tmps F)⟩
 ·simp [stepG,stepG.exec,bk,bf,g,GStep.after]
 ·exact (List.sublist_cons_self _ _).append_left _
theorem yb{tmps:Array Value}{l:Nat}{w:Value}:(bf c tmps (.inRangeFunc l::k)).finish w=bf c tmps (.endRangeFunc l::k):=rfl
theorem U.Ac{Z:Type}{fx:(α→(S ⊕ O)→Option ((S ⊕ O) × Bool))→(S ⊕ O)→Option (S ⊕ O)}{cont:S ⊕ O→Option Z}{g:S}{rr:Z}{x:Operand}{y:FuncId}{first cap:Array Value}{H1:aj}
  (am:(fx (cp body) (.inl g)).bind cont=some rr) (aw:a2 st x=some (.func (.func y) first cap)) (he:aT P y) (aq:(c.kind == CallKind.early)=false) (L:c.ro=none) (ao:Nat.blt t c.n=true)
  (I:S→ay→aj→aj→Prop) (E:O→ay→aj→aj→Prop) (jc:O→Code) (F:∀ s,Shape (I s)) (V:∀ o,Shape (E o))
  (ar:∀ v Inv Hy z,eI af R A v (cp body) Inv→Inv (.inl g) R Hy→fx (cp body) (.inl g)=some z→aL af y (first++#[v]++cap) R Hy λ _ R' H'=>aH R R'∧Inv z R' H')
  (ac:I g R H H1)
  (an:∀ r s R' H',aH R R'→I s R' ((r,.deferred (some []))::H) H'→cont (.inl s)=some rr→U af ⟨c.fn,c.kind,none,c.n,⟨.collected r,#[]⟩::c.defers,c.cs⟩ R' H' st k)
  (ax:∀ r o R' H',aH R R'→E o R' ((r,.deferred (some []))::H) H'→cont (.inr o)=some rr→U af ⟨c.fn,c.kind,none,c.n,⟨.collected r,#[]⟩::c.defers,c.cs⟩ R' H' st (.code (jc o)::k))
  (hb:sz I E jc af c R H st A body t assign dN) :
  U af c R H1 st (.code (.rangeFunc x #[t] assign dN)::k):=by
 obtain ⟨z,hm,Y⟩:=ae am
 refine U.xP aw he aq (K:=λ q R' T=>∃ r,q.2=[⟨.collected r,#[]⟩]∧T=(r,.deferred (some []))::H1) (λ tmps=>?_) ?_
 ·rw [L]
  exact Lp.mono λ q R' H' ⟨ad,r,ag,ak⟩=>⟨ad,r,_,ak,r,ag,rfl⟩
 rintro l mark d T tmps Q ⟨r,G,rfl⟩
 have G:mark=[⟨.collected r,#[]⟩]:=G
 subst G
 obtain ⟨Hs,rfl,au⟩:=F g _ _ _ ac
 have ap:eI af R A (.func (.yield l) #[] #[]) (cp body) (sA I E jc R l (hI c.fn tmps t assign dN d) ((r,.deferred (some []))::H)):=yj F V Q ao (List.sublist_cons_self _ _) hb
 refine J.perm (H':=Hs++(l,.loop (hI c.fn tmps t assign dN d))::(r,.deferred (some []))::H) ?_ ?_
 ·exact List.perm_middle.trans (List.Perm.cons _ List.perm_middle)
 refine ar _ _ _ z ap ⟨aH.refl R,au R _ (aH.refl R)⟩ hm _ _ λ v R' H' av=>?_
 rw [yb]
 obtain ⟨W,f⟩:=av
 cases z with
 | inl s =>
  obtain ⟨_,f⟩:=f
  obtain ⟨ab,rfl,M⟩:=F s _ _ _ f
  rw [L]
  exact U.q0 (c:=⟨c.fn,c.kind,none,c.n,⟨.collected r,#[]⟩::c.defers,c.cs⟩) rfl rfl (an r s R' _ W (M R' _ (aH.refl R')) Y) tmps Q
 | inr o =>
  obtain ⟨_,f⟩:=f
  obtain ⟨ab,rfl,M⟩:=V o _ _ _ f
  rw [L]
  exact U.q0 (c:=⟨c.fn,c.kind,none,c.n,⟨.collected r,#[]⟩::c.defers,c.cs⟩) rfl rfl (ax r o R' _ W (M R' _ (aH.refl R')) Y) tmps Q
theorem U.Kv{Z:Type}{fx:(α→(S ⊕ O)→Option ((S ⊕ O) × Bool))→(S ⊕ O)→Option (S ⊕ O)}{cont:S ⊕ O→Option Z}{g:S}{rr:Z}{x:Operand}{y:FuncId}{first cap:Array Value}{H1:aj}{Y:Nat}{r0:Loop}
  (am:(fx (cp body) (.inl g)).bind cont=some rr) (az:a2 st x=some (.func (.func y) first cap)) (he:aT P y) (aq:(c.kind == CallKind.early)=false) (au:c.ro=some Y) (ar:(Y,Obj.loop r0)∈H1) (ao:Nat.blt t c.n=true)
  (I:S→ay→aj→aj→Prop) (E:O→ay→aj→aj→Prop) (jc:O→Code) (F:∀ s,Shape (I s)) (T:∀ o,Shape (E o))
  (av:∀ v Inv Hy z,eI af R A v (cp body) Inv→Inv (.inl g) R Hy→fx (cp body) (.inl g)=some z→aL af y (first++#[v]++cap) R Hy λ _ R' H'=>aH R R'∧Inv z R' H')
  (ac:I g R H H1)
  (an:∀ s R' H',aH R R'→I s R' H H'→cont (.inl s)=some rr→U af c R' H' st k)
  (aA:∀ o R' H',aH R R'→E o R' H H'→cont (.inr o)=some rr→U af c R' H' st (.code (jc o)::k))
  (hb:sz I E jc af c R H st A body t assign dN) :
  U af c R H1 st (.code (.rangeFunc x #[t] assign dN)::k):=by
 obtain ⟨z,hm,W⟩:=ae am
 refine U.xP az he aq (K:=λ q R' Q=>q.2=[]∧Q=H1) (λ tmps=>?_) ?_
 ·rw [au]
  exact (Lo ar).mono λ q R' H' ⟨ad,ag,ak⟩=>⟨ad,_,_,ak,ag,rfl⟩
 rintro l mark d Q tmps M ⟨G,rfl⟩
 have G:mark=[]:=G
 subst G
 obtain ⟨Hs,rfl,aw⟩:=F g _ _ _ ac
 have ap:eI af R A (.func (.yield l) #[] #[]) (cp body) (sA I E jc R l (hI c.fn tmps t assign dN d) H):=yj F T M ao (List.Sublist.refl _) hb
 refine J.perm (H':=Hs++(l,.loop (hI c.fn tmps t assign dN d))::H) List.perm_middle ?_
 refine av _ _ _ z ap ⟨aH.refl R,aw R _ (aH.refl R)⟩ hm _ _ λ v R' H' ax=>?_
 rw [yb]
 obtain ⟨V,f⟩:=ax
 cases z with
 | inl s =>
  obtain ⟨_,f⟩:=f
  obtain ⟨ab,rfl,L⟩:=F s _ _ _ f
  exact U.q0 (c:=c) rfl rfl (an s R' _ V (L R' _ (aH.refl R')) W) tmps M
 | inr o =>
  obtain ⟨_,f⟩:=f
  obtain ⟨ab,rfl,L⟩:=T o _ _ _ f
  exact U.q0 (c:=c) rfl rfl (aA o R' _ V (L R' _ (aH.refl R')) W) tmps M
theorem U.ou{J:Type}{body:α→S→Option (S ⊕ Empty)}(fx:(α→(S ⊕ Empty)→Option ((S ⊕ Empty) × Bool))→(S ⊕ Empty)→Option (S ⊕ Empty)){f:S→Option J}{g:Empty→Option J}{y:S}{rr:J}{x:Operand}{F:FuncId}{first cap:Array Value}{H1:aj}
  (ad:(fx (cp body) (.inl y)).bind (Sum.elim f g)=some rr) (ao:a2 st x=some (.func (.func F) first cap)) (he:aT P F) (ak:(c.kind == CallKind.early)=false) (am:c.ro=none) (ag:Nat.blt t c.n=true)
  (I:S→ay→aj→aj→Prop) (ac:∀ s,Shape (I s))
  (an:∀ v Inv Hy z,eI af R A v (cp body) Inv→Inv (.inl y) R Hy→fx (cp body) (.inl y)=some z→aL af F (first++#[v]++cap) R Hy λ _ R' H'=>aH R R'∧Inv z R' H')
  (L:I y R H H1)
  (ae:∀ r s R' H',aH R R'→I s R' ((r,.deferred (some []))::H) H'→f s=some rr→U af ⟨c.fn,c.kind,none,c.n,⟨.collected r,#[]⟩::c.defers,c.cs⟩ R' H' st k)
  (hb:∀ (va:Value) (x:α) (s:S) (R':ay) (T H':aj) (l:Nat) (ld:Loop) (cs:List Frame),aH R R'→List.Sublist H T→A R' x va→I s R' ((l,.loop ld)::T) H'→ld.state = .ready→∀ z,body x s=some z →
   (∀ s',z = .inl s'→∀ bM b3 G,aH R' bM→I s' bM ((l,.loop { ld with state:=.busy })::T) b3→U af ⟨c.fn,.normal,some l,c.n,[],cs⟩ bM b3 G []) →
   U af ⟨c.fn,.normal,some l,c.n,[],cs⟩ R' H' ((t,va)::st) [.code assign,.beginRound,.code dN]) :
  U af c R H1 st (.code (.rangeFunc x #[t] assign dN)::k) :=
 U.Ac (fx:=fx) ad ao he ak am ag I (λ o=>o.elim) (λ o=>o.elim) ac (λ o=>o.elim) an L ae (λ _ o=>o.elim)
  (λ va x s z R' T H' l ld cs M Q V W Y Z ab _=>hb va x s R' T H' l ld cs M Q V W Y z Z λ s' ap bM b3 G=>ab s' bM b3 G ap)
theorem U.rX{M:Type}(fx:(α→(S ⊕ O)→Option ((S ⊕ O) × Bool))→(S ⊕ O)→Option (S ⊕ O)){f:S→Option M}{g:O→Option M}{J:S}{rr:M}{x:Operand}{L:FuncId}{first cap:Array Value}{H1:aj}(jc:Code)
  (am:(fx (cp body) (.inl J)).bind (Sum.elim f g)=some rr) (au:a2 st x=some (.func (.func L) first cap)) (he:aT P L) (ap:(c.kind == CallKind.early)=false) (aq:c.ro=none) (ao:Nat.blt t c.n=true)
  (I:S→ay→aj→aj→Prop) (E:O→ay→aj→aj→Prop) (ak:∀ s,Shape (I s)) (ag:∀ s,Shape (E s))
  (ar:∀ v Inv Hy z,eI af R A v (cp body) Inv→Inv (.inl J) R Hy→fx (cp body) (.inl J)=some z→aL af L (first++#[v]++cap) R Hy λ _ R' H'=>aH R R'∧Inv z R' H')
  (Q:I J R H H1)
  (an:∀ r s R' H',aH R R'→I s R' ((r,.deferred (some []))::H) H'→f s=some rr→U af ⟨c.fn,c.kind,none,c.n,⟨.collected r,#[]⟩::c.defers,c.cs⟩ R' H' st k)
  (F:∀ r o R' H',aH R R'→E o R' ((r,.deferred (some []))::H) H'→g o=some rr→U af ⟨c.fn,c.kind,none,c.n,⟨.collected r,#[]⟩::c.defers,c.cs⟩ R' H' st (.code jc::k))
  (hb:∀ (va:Value) (x:α) (s:S) (R':ay) (T H':aj) (l:Nat) (ld:Loop) (cs:List Frame),aH R R'→List.Sublist H T→A R' x va→I s R' ((l,.loop ld)::T) H'→ld.state = .ready→∀ z,body x s=some z →
   (∀ s',z = .inl s'→∀ bM b3 y,aH R' bM→I s' bM ((l,.loop { ld with state:=.busy })::T) b3→U af ⟨c.fn,.normal,some l,c.n,[],cs⟩ bM b3 y []) →
   (∀ o,z = .inr o→∀ bM b3 y G,aH R' bM→E o bM ((l,.loop { ld with state:=.busy })::T) b3→Leaves (.code jc::G) (some jc)→U af ⟨c.fn,.normal,some l,c.n,[],cs⟩ bM b3 y (.code jc::G)) →
   U af ⟨c.fn,.normal,some l,c.n,[],cs⟩ R' H' ((t,va)::st) [.code assign,.beginRound,.code dN]) :
  U af c R H1 st (.code (.rangeFunc x #[t] assign dN)::k) :=
 U.Ac (fx:=fx) am au he ap aq ao I E (λ _=>jc) ak ag ar Q an F
  (λ va x s z R' T H' l ld cs V W Y Z ab ac ad ae=>hb va x s R' T H' l ld cs V W Y Z ab z ac (λ s' F bM b3 y=>ad s' bM b3 y F) (λ o F bM b3 y G=>ae o bM b3 y G F))
theorem U.Kw{M:Type}(fx:(α→(S ⊕ O)→Option ((S ⊕ O) × Bool))→(S ⊕ O)→Option (S ⊕ O)){f:S→Option M}{g:O→Option M}{J:S}{rr:M}{x:Operand}{L:FuncId}{first cap:Array Value}{H1:aj}{Q:Nat}{r0:Loop}(jc:Code)
  (an:(fx (cp body) (.inl J)).bind (Sum.elim f g)=some rr) (aw:a2 st x=some (.func (.func L) first cap)) (he:aT P L) (aq:(c.kind == CallKind.early)=false) (au:c.ro=some Q) (ar:(Q,Obj.loop r0)∈H1) (ap:Nat.blt t c.n=true)
  (I:S→ay→aj→aj→Prop) (E:O→ay→aj→aj→Prop) (am:∀ s,Shape (I s)) (ak:∀ s,Shape (E s))
  (av:∀ v Inv Hy z,eI af R A v (cp body) Inv→Inv (.inl J) R Hy→fx (cp body) (.inl J)=some z→aL af L (first++#[v]++cap) R Hy λ _ R' H'=>aH R R'∧Inv z R' H')
  (V:I J R H H1)
  (ao:∀ s R' H',aH R R'→I s R' H H'→f s=some rr→U af c R' H' st k)
  (F:∀ o R' H',aH R R'→E o R' H H'→g o=some rr→U af c R' H' st (.code jc::k))
  (hb:∀ (va:Value) (x:α) (s:S) (R':ay) (T H':aj) (l:Nat) (ld:Loop) (cs:List Frame),aH R R'→List.Sublist H T→A R' x va→I s R' ((l,.loop ld)::T) H'→ld.state = .ready→∀ z,body x s=some z →
   (∀ s',z = .inl s'→∀ bM b3 y,aH R' bM→I s' bM ((l,.loop { ld with state:=.busy })::T) b3→U af ⟨c.fn,.normal,some l,c.n,[],cs⟩ bM b3 y []) →
   (∀ o,z = .inr o→∀ bM b3 y G,aH R' bM→E o bM ((l,.loop { ld with state:=.busy })::T) b3→Leaves (.code jc::G) (some jc)→U af ⟨c.fn,.normal,some l,c.n,[],cs⟩ bM b3 y (.code jc::G)) →
   U af ⟨c.fn,.normal,some l,c.n,[],cs⟩ R' H' ((t,va)::st) [.code assign,.beginRound,.code dN]) :
  U af c R H1 st (.code (.rangeFunc x #[t] assign dN)::k) :=
 U.Kv (fx:=fx) an aw he aq au ar ap I E (λ _=>jc) am ak av V ao F
  (λ va x s z R' T H' l ld cs W Y Z ab ac ad ae ag=>hb va x s R' T H' l ld cs W Y Z ab ac z ad (λ s' F bM b3 y=>ae s' bM b3 y F) (λ o F bM b3 y G=>ag o bM b3 y G F))
theorem Lr{r:Nat}{H':aj}(f:cU H r (.deferred (some [])) (.deferred none) H'):aE P B R H (Instr.takeDeferred r) λ v bM b3=>v=[]∧bM=R∧b3=H':=by
 unfold Instr.takeDeferred
 exact aE.bK (aE.getObj rfl (.inr f.mem) (aE.bK (aE.setObj rfl rfl f (aE.bR ⟨rfl,rfl,rfl⟩))))
theorem Ak{fr:Frame}{cs:List Frame}{f:FuncId}{n r:Nat}{H':aj}{tmps:Array Value}{todo:List Item}(z:cU H r (.deferred (some [])) (.deferred none) H')
  (h:af.J R H' (bk { (bf ⟨f,.normal,none,n,[],fr::cs⟩ tmps todo) with mode:=.returning } (fr::cs))) :
  af.J R H (bk { (bf ⟨f,.normal,none,n,[⟨.collected r,#[]⟩],fr::cs⟩ tmps todo) with mode:=.returning } (fr::cs)):=by
 refine af.step rfl λ w hw=>?_
 obtain ⟨v,w',R',H',g,s,y,rfl,rfl,rfl⟩:=Lr (P:=P) z w hw
 refine ⟨_,w',seen P f ((Instr.takeDeferred r).events P w #[]),R',_,?_,λ e he=>s e (mem_seen he),y,h⟩
 simp [stepG,unwind,bk,bf,g,GStep.after]
theorem Aj{fr:Frame}{cs:List Frame}{f:FuncId}{n:Nat}{fn:Func}{vs:List Value}{tmps:Array Value}{todo:List Item}(z:P.funcs[f]? = some fn)(L:eg n st tmps)(G:gv P R H st fn.results.toList vs)(F:af.J R H (bk (fr.finish (hU vs)) cs)) :
  af.J R H (bk { (bf ⟨f,.normal,none,n,[],fr::cs⟩ tmps todo) with mode:=.returning } (fr::cs)):=by
 refine af.step rfl λ w hw=>?_
 obtain ⟨v,w',R',H',g,s,y,rfl,rfl,rfl⟩:=r2 (P:=P) L G w hw
 refine ⟨bk (fr.finish (hU vs)) cs,w',seen P f ((results fn tmps).events P w #[]),R',H',?_,λ e he=>s e (mem_seen he),y,F⟩
 simp [stepG,unwind,doReturn,bk,bf,z,g,GStep.after]
theorem U.hn{fr:Frame}{cs:List Frame}{f:FuncId}{n r:Nat}{H':aj}{fn:Func}{vs:List Value}(z:cU H r (.deferred (some [])) (.deferred none) H')(g:P.funcs[f]? = some fn)(y:gv P R H' st fn.results.toList vs)(s:af.J R H' (bk (fr.finish (hU vs)) cs)) :
  U af ⟨f,.normal,none,n,[⟨.collected r,#[]⟩],fr::cs⟩ R H st (.code .ret::k):=λ tmps F=>by
 refine Jd.ctl (g':=bk { (bf ⟨f,.normal,none,n,[⟨.collected r,#[]⟩],fr::cs⟩ tmps (.code .ret::k)) with mode:=.returning } (fr::cs)) rfl (λ w=>by simp [stepG,stepG.exec,bk,bf]) ?_
 exact Ak z (Aj g F y s)
theorem U.CD{fr:Frame}{cs:List Frame}{f:FuncId}{n r:Nat}{H':aj}{fn:Func}{vs:List Value}(z:cU H r (.deferred (some [])) (.deferred none) H')(g:P.funcs[f]? = some fn)(y:gv P R H' st fn.results.toList vs)(s:af.J R H' (bk (fr.finish (hU vs)) cs)) :
  U af ⟨f,.normal,none,n,[⟨.collected r,#[]⟩],fr::cs⟩ R H st []:=λ tmps F=>by
 refine Jd.ctl (g':=bk { (bf ⟨f,.normal,none,n,[⟨.collected r,#[]⟩],fr::cs⟩ tmps []) with mode:=.returning } (fr::cs)) rfl (λ w=>by simp [stepG,stepG.exec,bk,bf]) ?_
 exact Ak z (Aj g F y s)
end
theorem aL.hole{f:FuncId}{args:Array Value}{G:aj→aj}{Hs:aj}(s:eu G){Q:Value→ay→aj→Prop}(h:aL af f args R (Hs++G []) λ v R' H'=>∃ g,Q v R' g∧H'=g++G []) :
  aL af f args R (G Hs) λ v R' H'=>∃ g,Q v R' g∧H'=G g:=by
 obtain ⟨A,D,s⟩:=s
 have key:∀ X:aj,List.Perm (X++G []) (G X):=λ X=>by
  rw [s,s,List.nil_append,← List.append_assoc,← List.append_assoc]
  exact List.perm_append_comm.append_right D
 intro fr cs y
 refine J.perm (key Hs) (h fr cs λ v R' H' F=>?_)
 obtain ⟨g,z,rfl⟩:=F
 exact J.perm (key g).symm (y v R' _ ⟨g,z,rfl⟩)
theorem Ox.jn{x y:Operand}{t u e:TypeId}{o:Oper}{C:ay→aj→St→Prop}{A:Option Addr}{n cap:Nat}{b:Bool}{aa:St}(g:o.op = .binOp .eql t x y u)(L:a2 st x=some (.slice A n cap))(M:a2 st y=some (.slice none 0 0))(J:P.underlying t=some (.slice e))(hb:A.isNone=b)
  (F:bQ o.dst c.n) (G:aA (bJ o.dst (.bool b) st) aa) (h:C R H aa):aJ P B c o R H st C :=
 Ox.e2 (s:=λ f=>do eqGuard .eql t x y (f x) (f y); binOp .eql t (f x) (f y)) (by rw [g]; rfl) F (λ f=>by simp only [execOp,g]) (λ f z=>by
  rw [z x _ L,z y _ M]
  refine al.bj (a:=()) (al.bc _) ?_
  simp only [binOp]
  refine al.bj (a:=b) ?_ (al.bc _)
  unfold Op.equal Op.maxDepth Op.equalIn
  refine al.bj (al.underlying J) ?_
  cases A with
  | none=>subst hb; exact al.bc _
  | some a=>subst hb; exact al.bc _) G h
theorem bE.p6{α:Type}{K:bF α}{k:Nat}{v:Value}{xs:List α}(h:bE K k R H v xs):(∃ cap,v = .slice none 0 cap∧xs=[])∨∃ a n cap,v = .slice (some a) n cap:=by
 obtain ⟨A,cap,es,rfl,s,y,f⟩:=h
 cases A with
 | some a=>exact .inr ⟨a,_,cap,rfl⟩
 | none =>
  cases xs with
  | nil=>exact .inl ⟨cap,rfl,rfl⟩
  | cons x xs =>
   obtain ⟨b,o,g,_⟩:=f (by simp)
   cases g
theorem Ox.l6{x y:Operand}{t e len:Nat}{cs:Array Value}{v:Value}{kd:IntKind}{i:Int}{o:Oper}{C:ay→aj→St→Prop}{aa:St}(g:o.op = .index t x y)(M:a2 st x=some (.agg cs))(Q:a2 st y=some (.int kd i))(z:jj P t len e 1)(he:al P (isAgg e) false)(hi:0≤i∧i < len)(L:cs[i.toNat * 1]? = some v)
  (G:bQ o.dst c.n) (J:aA (bJ o.dst v st) aa) (h:C R H aa):aJ P B c o R H st C :=
 Ox.e2 (s:=λ f=>Instr.index t (f x) (f y)) (by rw [g]; rfl) G (λ f=>by simp only [execOp,g]) (λ f F=>by
  rw [F x _ M,F y _ Q]
  unfold Instr.index
  refine al.bj (a:=(kd,i)) (al.bc _) (al.bj (al.underlying z.1) ?_)
  simp only [hi,and_self,if_true]
  refine al.bj z.2 ?_
  unfold part
  refine al.bj he ?_
  simp only [L]
  exact al.bc _) J h
theorem U.fZ{todo:List Item}{b:Nat}{cs:Array Value}{e:TypeId}{g:Nat × Nat}(G:aj→aj)(f:eu G){H2:aj}(y:G []=H2)(h:∀ R',aH R R'→aK R' [] b 0 cs.toList→U af c R' H2 st todo):U af c R (G [(b,.cells cs e g)]) st todo:=by
 obtain ⟨A,D,f⟩:=f
 refine U.perm (H':=(b,.cells cs e g)::(A++D)) ?_ (U.freeze λ R' z hb=>?_)
 ·rw [f]; exact List.perm_middle.symm
 ·have s:A++D=H2:=by rw [← y,f]; rfl
  rw [s]
  exact h R' z (aK.known (n:=cs.toList.length) hb (by rw [List.drop_zero,List.take_length]))
def oK(af:Jd P B main)(R:ay){α S:Type}(A:fM α)(v:Value)(q:(α→S→Option (S × Bool))→S→Option S):Prop :=
 ∃ f first cap,v = .func (.func f) first cap∧aT P f∧∀ R',aH R R'→∀ (w:Value) (y:α→S→Option (S × Bool)) (Inv:S→ay→aj→Prop) (Hy:aj) (s z:S),eI af R' A w y Inv→Inv s R' Hy→q y s=some z →
  aL af f (first++#[w]++cap) R' Hy λ _ bM H'=>aH R' bM∧Inv z bM H'
theorem oK.mono{R':ay}{α S:Type}{A:fM α}{v:Value}{q:(α→S→Option (S × Bool))→S→Option S}(h:oK af R A v q)(z:aH R R'):oK af R' A v q:=by
 obtain ⟨f,first,cap,g,s,y⟩:=h
 exact ⟨f,first,cap,g,s,λ bM F=>y bM (z.trans F)⟩
theorem eI.frame{α S:Type}{A:fM α}{v:Value}{y:α→S→Option (S × Bool)}{Inv:S→ay→aj→Prop}(h:eI af R A v y Inv)(Hf:aj):eI af R A v y λ s R' H'=>∃ Hy,Inv s R' Hy∧H'=Hf++Hy where
 fn:=h.fn
 mono:=λ f g ⟨Hy,hi,e⟩=>⟨Hy,h.mono f g hi,e⟩
 call:=by
  intro H2 R' Hy s x va z M F L Q
  obtain ⟨Hy,F,rfl⟩:=F
  have:=h.call (H2++Hf) M F L Q
  rw [List.append_assoc] at this
  refine this.mono λ w bM b3 ⟨f,g,kv,G,J⟩=>⟨f,g,Hf++kv,⟨kv,G,rfl⟩,by rw [J,List.append_assoc]⟩
section
variable {S:Nat→aj} {ops:Array Oper} {n:Nat} {rem:List Nat} {H2:aj}
theorem vY{Q:Array Value→ay→aj→Prop}{R':ay}{H':aj}(s:∀ w,Fits B R H w→c5 B R H w R' H' w)(L:aH R R')(M:∀ j,∀ p∈S j,p∈H→p∈H')(J:∀ t,Q t R' H'→Q t R H) :
  ∀ (n:Nat) (rem:List Nat) (t:Array Value),kD af c S ops Q n rem t R' H'→kD af c S ops Q n rem t R H
 | 0,rem,t,h=>⟨h.1,J t h.2⟩
 | n+1,rem,t,h=>by
  rcases h with ⟨F,G⟩ | ⟨F,G⟩
  ·exact .inl ⟨F,J t G⟩
  ·refine .inr ⟨F,λ ⟨w,hw⟩ i hi Z=>?_⟩
   obtain ⟨o,Y,W,h⟩:=G ⟨w,(s w hw).fits⟩ i hi Z
   refine ⟨o,Y,W,?_⟩
   rcases h with ⟨a,b⟩ | ⟨a,b | ⟨f,args,b,b'⟩⟩
   ·exact .inl ⟨a,vY s L M J n _ _ b⟩
   ·exact .inr ⟨a,.inl ((aE.ghost s b).mono λ nx bM b3 ⟨v,x,y,z,T⟩=>⟨v,x,L.trans y,λ p g V=>z p g (M i p g V),T⟩)⟩
   ·exact .inr ⟨a,.inr ⟨f,args,b,(aL.ghost s b').mono λ v bM b3 ⟨y,z,T⟩=>⟨L.trans y,λ p g V=>z p g (M i p g V),T⟩⟩⟩
theorem Any.ghost{R':ay}{H':aj}(f:∀ w,Fits B R H w→c5 B R H w R' H' w)(g:aH R R')(s:∀ j,∀ p∈S j,p∈H→p∈H')(h:Any af c S ops k n rem R' H' st):Any af c S ops k n rem R H st :=
 ⟨h.1,λ tmps z=>vY f g s (λ _ y=>af.ghost f y) n rem tmps (h.2 tmps z)⟩
theorem Any.given(f:rem.Nodup)(g:rem.length≤n)(h:(∃ w,Fits B R H w)→Any af c S ops k n rem R H st):Any af c S ops k n rem R H st:=by
 by_cases hw:∃ w,Fits B R H w
 ·exact h hw
 ·refine ⟨f,λ tmps s=>?_⟩
  cases n with
  | zero =>
   have:rem=[]:=List.length_eq_zero_iff.1 (by omega)
   exact ⟨this,J.given af rfl λ h=>absurd h hw⟩
  | succ n =>
   cases rem with
   | nil=>exact .inl ⟨rfl,J.given af rfl λ h=>absurd h hw⟩
   | cons i rem=>exact .inr ⟨by simp,λ h=>absurd h hw⟩
theorem Any.freeze{b:Nat}{o:Obj}{A D:aj}(s:rem.Nodup)(g:rem.length≤n)(f:∀ j,∀ p∈S j,p∈A++D)(h:∀ R',aH R R'→R' b=some o→Any af c S ops k n rem R' (A++D) st):Any af c S ops k n rem R (A++(b,o)::D) st:=by
 refine Any.given s g λ ⟨w,hw⟩=>?_
 have hb:R b=none:=hw.dj b o (by simp)
 refine Any.ghost (R':=R.ins b o) (H':=A++D) (λ w hw=>?_) (ay.rk hb) (λ j p y _=>f j p y) (h _ (ay.rk hb) (ay.yo R b o))
 exact (ql List.perm_middle.symm hw).trans (AZ (ql List.perm_middle.symm hw).fits)
theorem Any.dg{α:Type}{K:bF α}[CM K]{kk e:Nat}(G:aj→aj)(J:eu G){v:Value}{xs:List α}{Hs:aj}(s:G []=H2)(M:aX K kk e R v xs Hs)(V:rem.Nodup)(T:rem.length≤n)(g:∀ j,∀ p∈S j,p∈H2)(h:∀ R',aH R R'→ah K kk R' v xs→Any af c S ops k n rem R' H2 st):Any af c S ops k n rem R (G Hs) st:=by
 subst s
 rcases M with ⟨A,rfl,rfl,rfl⟩ | ⟨b,cap,cs,es,rfl,rfl,Y,y,z,F⟩
 ·exact h R (aH.refl R) .nil
 ·obtain ⟨A,D,L⟩:=J
  rw [L] at h g ⊢
  refine Any.freeze V T (λ j p W=>g j p W) (λ R' f hb=>h R' f ?_)
  exact ⟨_,cap,es,rfl,z.mono f,y,λ _=>⟨b,0,cs,e,(0,0),rfl,hb,λ j w Q=>by simpa using F j w Q⟩⟩
theorem Any.iJ{α:Type}{K:bF α}[CM K]{kk e b m:Nat}(G:aj→aj)(z:eu G)(s:G []=H2){ys:List α}{cs:Array Value}(y:aO K kk R ys cs.toList)(hm:ys.length=m)(M:rem.Nodup)(L:rem.length≤n)(g:∀ j,∀ p∈S j,p∈H2)(h:∀ R',aH R R'→ah K kk R' (.slice (some ⟨b,0,none⟩) m m) ys→Any af c S ops k n rem R' H2 st):Any af c S ops k n rem R (G [(b,.cells cs e (0,0))]) st:=by
 subst hm s
 obtain ⟨A,D,F⟩:=z
 rw [F] at h g ⊢
 refine Any.freeze M L (λ j p Q=>g j p Q) (λ R' f hb=>h R' f ?_)
 exact ⟨_,ys.length,cs.toList,rfl,y.mono f,ct _,λ _=>⟨b,0,cs,e,(0,0),rfl,hb,λ j w J=>by simpa using J⟩⟩
end
theorem Ox.nilCheck{x:Operand}{a:Addr}{o:Oper}{C:ay→aj→St→Prop}{aa:St}(f:o.op = .nilCheck x)(y:a2 st x=some (.pointer (some a)))(g:bQ o.dst c.n)
  (s:aA (bJ o.dst (.pointer (some a)) st) aa) (h:C R H aa):aJ P B c o R H st C :=
 Ox.val (by rw [f]; rfl) g (λ F z=>by simp only [execOp,f,z x _ y]; exact al.bc _) s h
def many(a:aj):List (Nat × aj)→Nat→aj
 | [],_=>a
 | (q,l)::r,j=>if j=q then l else many a r j
section
variable {a N:aj} {ex:List (Nat × aj)} {rem D:List Nat} {i q:Nat} {l H':aj}
theorem aU(f:∀ p∈N,p∈a):∀ j∈rem,j≠i→j ∉ D→∀ p∈N,p∈many a [] j:=λ _ _ _ _ p g=>f p g
theorem aF(f:(D.contains q || q == i || !rem.contains q)=true)(h:∀ j∈rem,j≠i→j ∉ D→∀ p∈N,p∈many a ex j):∀ j∈rem,j≠i→j ∉ D→∀ p∈N,p∈many a ((q,l)::ex) j:=by
 intro j g y s p z
 unfold many
 split
 ·subst_vars
  simp only [Bool.or_eq_true,Bool.not_eq_true',List.contains_iff_mem,beq_iff_eq] at f
  rcases f with (x | x) | x
  ·exact absurd x s
  ·exact absurd x y
  ·have:rem.contains j=true:=List.contains_iff_mem.2 g
   rw [this] at x; cases x
 ·exact h j g y s p z
theorem ih(z:∀ p∈N,p∈l)(h:∀ j∈rem,j≠i→j ∉ D→∀ p∈N,p∈many a ex j):∀ j∈rem,j≠i→j ∉ D→∀ p∈N,p∈many a ((q,l)::ex) j:=by
 intro j g y s p f
 unfold many
 split
 ·exact z p f
 ·exact h j g y s p f
theorem bo(he:many a ex i=l)(h:∀ p∈l,p∈H'):∀ p∈many a ex i,p∈H→p∈H':=by
 rw [he]; exact λ p f _=>h p f
theorem JA(f:∀ p∈a,p∈H'):∀ j,∀ p∈many a [] j,p∈H':=λ _ p g=>f p g
theorem JB(g:∀ p∈l,p∈H')(h:∀ j,∀ p∈many a ex j,p∈H'):∀ j,∀ p∈many a ((q,l)::ex) j,p∈H':=by
 intro j p f
 unfold many at f
 split at f
 ·exact g p f
 ·exact h j p f
end
end
abbrev ev:=List (List Bool × Int)
def gB(k:List Bool):Value:=.agg (List.toArray ([]++(k.map Value.bool++[])))
def hY:List MapEntry→ev→Prop
 | [],m=>m=[]
 | e::es,m=>∃ k z r,m=(k,z)::r∧e.key=gB k∧e.val = .int .i64 z∧k.length=5∧hY es r
def gh:ev:=[([],0)]
def fI(m:ev)(k:List Bool):Int:=(m.lookup k).getD 0
theorem hY.push{e:MapEntry}{k:List Bool}{z:Int}(f:e.key=gB k)(g:e.val = .int .i64 z)(s:k.length=5):∀ {es:List MapEntry} {m:ev},hY es m→hY (es++[e]) (m++[(k,z)])
 | [],m,h=>by cases h; exact ⟨k,z,[],rfl,f,g,s,rfl⟩
 | _::es,m,h=>by
  obtain ⟨y,F,r,rfl,a,b,c,d⟩:=h
  exact ⟨y,F,r++[(k,z)],rfl,a,b,c,hY.push f g s d⟩
def gu(v:Value)(m:ev)(Hs:aj):Prop:=(v = .map none∧m=gh∧Hs=[])∨∃ b es clock,v = .map (some b)∧Hs=[(b,.map es clock)]∧hY es.toList m∧(m.map (·.1)).Nodup
def gL(R:ay)(v:Value)(m:ev):Prop:=(v = .map none∧m=gh)∨∃ b es clock f,v = .map (some b)∧R b=some (.map es clock)∧hY es.toList f∧(f.map (·.1)).Nodup∧List.Perm f m
theorem gL.mono{R R':ay}{v:Value}{m:ev}(h:gL R v m)(F:aH R R'):gL R' v m:=by
 rcases h with h | ⟨b,es,cl,G,f,g,s,y,z⟩
 ·exact .inl h
 ·exact .inr ⟨b,es,cl,G,f,F _ _ g,s,y,z⟩
theorem gu.one{v:Value}{m:ev}{Hs:aj}(h:gu v m Hs):v.oneCell'=true:=by
 rcases h with ⟨rfl,_⟩ | ⟨b,es,cl,rfl,_⟩ <;> rfl
theorem gu.cells{v:Value}{m:ev}{Hs:aj}(h:gu v m Hs):v.cells=#[v]:=by
 rcases h with ⟨rfl,_⟩ | ⟨b,es,cl,rfl,_⟩ <;> rfl
theorem gu.none:gu (.map none) gh []:=.inl ⟨rfl,rfl,rfl⟩
theorem JE{k:List Bool}(f:k.length=5):fI gh k=fI [] k:=by
 unfold fI gh
 rw [List.lookup_cons]
 cases k with
 | nil=>cases f
 | cons a k=>rfl
theorem gL.none{R:ay}:gL R (.map none) gh:=.inl ⟨rfl,rfl⟩
theorem yI{m:ev}(f:(m.map (·.1)).Nodup){k:List Bool}{z:Int}(h:(k,z)∈m):m.lookup k=some z:=by
 induction m with
 | nil=>cases h
 | cons p m y =>
  obtain ⟨g,F⟩:=p
  rw [List.map_cons,List.nodup_cons] at f
  rw [List.lookup_cons]
  rcases cO.1 h with h | h
  ·cases h; simp
  ·have s:k≠g:=λ e=>f.1 (List.mem_map.2 ⟨_,h,e⟩)
   have:(k == g)=false:=by simpa using s
   rw [this]
   exact y f.2 h
theorem yJ{m:ev}{k:List Bool}(h:k ∉ m.map (·.1)):m.lookup k=none:=by
 induction m with
 | nil=>rfl
 | cons p m f =>
  obtain ⟨g,s⟩:=p
  rw [List.map_cons,cO,not_or] at h
  rw [List.lookup_cons]
  have:(k == g)=false:=by simpa using h.1
  rw [this]
  exact f h.2
theorem JF{m f:ev}(G:(f.map (·.1)).Nodup)(s:List.Perm f m)(k:List Bool):fI f k=fI m k:=by
 have L:(m.map (·.1)).Nodup:=(s.map _).nodup_iff.1 G
 unfold fI
 by_cases g:k∈f.map (·.1)
 ·obtain ⟨⟨M,z⟩,y,F⟩:=List.mem_map.1 g
  simp only at F
  subst F
  rw [yI G y,yI L (s.mem_iff.1 y)]
 ·have J:k ∉ m.map (·.1):=λ h=>g ((s.map _).mem_iff.2 h)
  rw [yJ g,yJ J]
structure nc (P:Program) (t kt et:TypeId):Prop where
 ty:P.underlying t=some (.map kt et)
 key:∃ d,P.underlying kt=some d∧∀ a b,Instr.sameNow d a b=none
 eq:∀ a b:List Bool,a.length=5→b.length=5→al P (Op.equal kt (gB a) (gB b)) (a == b)
 cD:∀ (e:Bool) (a:List Bool),a.length=5→al P (Instr.checkKey e 10000 kt (gB a)) ()
 zero:al P (zeroValue et) (.int .i64 0)
section
variable {P:Program} {B:Base} {main:Bool} {af:Jd P B main} {c:Ctx} {R:ay} {H:aj} {st aa:St} {o:Oper} {C:ay→aj→St→Prop}
def jV:ev→List Bool→Nat→Option (Nat × Value)
 | [],_,_=>none
 | (f,z)::m,k,i=>if k == f then some (i,.int .i64 z) else jV m k (i+1)
theorem A0{t kt et:TypeId}(g:nc P t kt et){k:List Bool}(f:k.length=5):∀ {es:List MapEntry} {m:ev} {i:Nat},hY es m→al P (Instr.findAsking kt (gB k) es i) (jV m k i)
 | [],m,i,h=>by cases h; exact al.bc _
 | e::es,m,i,h=>by
  obtain ⟨s,z,r,rfl,y,F,G,J⟩:=h
  unfold Instr.findAsking
  rw [y]
  refine al.bj (g.eq k s f G) ?_
  unfold jV
  cases k == s with
  | true=>rw [F]; exact al.bc _
  | false=>exact A0 g f J
theorem Bc{t kt et:TypeId}(f:nc P t kt et){k:List Bool}(y:k.length=5){es:List MapEntry}{m:ev}(h:hY es m):al P (Instr.findKey kt (gB k) es) (jV m k 0):=by
 obtain ⟨d,g,s⟩:=f.key
 unfold Instr.findKey
 refine al.bj (al.underlying g) ?_
 cases es with
 | nil=>cases h; exact al.bc _
 | cons e es =>
  simp only [Instr.findNow,s]
  exact A0 f y h
theorem x0:∀ {m:ev} {k:List Bool} {i:Nat},(match jV m k i with | some (_,v)=>v | none=>.int .i64 0) = .int .i64 (fI m k)
 | [],_,_=>rfl
 | (f,z)::m,k,i=>by
  unfold jV fI
  rw [List.lookup_cons]
  cases g:k == f with
  | true=>rfl
  | false =>
   have:=x0 (m:=m) (k:=k) (i:=i+1)
   unfold fI at this
   exact this
theorem ya:∀ {m:ev} {k:List Bool} {i:Nat},k ∉ m.map (·.1)→jV m k i=none
 | [],_,_,_=>rfl
 | (f,z)::m,k,i,h=>by
  rw [List.map_cons,cO,not_or] at h
  have:(k == f)=false:=by simpa using h.1
  unfold jV
  rw [this]
  exact ya h.2
theorem Av{t kt et:TypeId}(g:nc P t kt et){k:List Bool}(z:k.length=5){es:List MapEntry}{m:ev}(h:hY es m){K:Value→ay→aj→Prop}(s:K (.int .i64 (fI m k)) R H) :
  aE P B R H (do
   Instr.checkKey es.isEmpty 10000 kt (gB k)
   let (v,ok) ← match ← Instr.findKey kt (gB k) es with
    | some (_,v)=>pure (v,true)
    | none=>pure (← zeroValue et,false)
   pure (if false then .tuple #[v,.bool ok] else v)) K:=by
 refine al.bV (g.cD _ k z) (al.bV (Bc g z h) ?_)
 have f:=x0 (m:=m) (k:=k) (i:=0)
 cases y:jV m k 0 with
 | some q =>
  obtain ⟨i,v⟩:=q
  rw [y] at f
  simp only at f
  subst f
  exact aE.bK (aE.bR (aE.bR s))
 | none =>
  rw [y] at f
  simp only at f
  refine al.bV g.zero (aE.bK (aE.bR (aE.bR ?_)))
  rw [f]
  exact s
theorem Ox.lookup{x y:Operand}{t kt et:TypeId}{v:Value}{m:ev}{k:List Bool}(G:o.op = .lookup t x y false)(W:a2 st x=some v)(Y:a2 st y=some (gB k))(F:nc P t kt et)(hm:gL R v m)(z:k.length=5)
  (V:bQ o.dst c.n) (f:aA (bJ o.dst (.int .i64 (fI m k)) st) aa) (h:C R H aa):aJ P B c o R H st C :=
 Ox.mem (s:=λ g=>Instr.lookup t (g x) (g y) false) (by rw [G]; rfl) V (λ g=>by simp only [execOp,G]) (λ g J=>by
  rw [J x _ W,J y _ Y]
  unfold Instr.lookup
  refine al.bV (al.underlying F.ty) ?_
  rcases hm with ⟨rfl,rfl⟩ | ⟨b,es,cl,Z,rfl,L,M,Q,T⟩
  ·refine aE.bK (aE.bR ?_)
   rw [JE z] at f
   exact Av F z (es:=[]) rfl ⟨aa,f,h⟩
  ·refine aE.bK (aE.getObj rfl (.inl L) ?_)
   rw [← JF Q T] at f
   have:=Av (B:=B) (R:=R) (H:=H) (K:=λ v R' H'=>∃ aa,aA (bJ o.dst v st) aa∧C R' H' aa) F z M ⟨aa,f,h⟩
   have e:es.isEmpty=es.toList.isEmpty:=by simp
   rw [← e] at this
   exact aE.bK (aE.bR this))
theorem Ox.makeMap{t:TypeId}(f:o.op = .makeMap t none)(z:bQ o.dst c.n)
  (y:∀ v Hs,gu v [] Hs→∃ aa,aA (bJ o.dst v st) aa∧C R (Hs++H) aa):aJ P B c o R H st C :=
 Ox.mem (s:=λ g=>Instr.makeMap t none) (by rw [f]; rfl) z (λ g=>by simp only [execOp,f]; rfl) (λ g F=>by
  unfold Instr.makeMap
  refine aE.bK (aE.new λ b _ _=>aE.bR ?_)
  exact y (.map (some b)) [(b,.map #[] 0)] (.inr ⟨b,#[],0,rfl,rfl,rfl,by simp⟩))
theorem Ox.JC{x y z:Operand}{t kt et:TypeId}{b:Nat}{es:Array MapEntry}{clock:Nat}{m:ev}{k:List Bool}{w:Int}{H':aj}(J:o.op = .mapUpdate t x y z)(V:a2 st x=some (.map (some b)))(W:a2 st y=some (gB k))(Y:a2 st z=some (.int .i64 w))(g:nc P t kt et)(hm:hY es.toList m)(G:k.length=5)(Q:k ∉ m.map (·.1))
  (L:cU H b (.map es clock) (.map (es.push { key:=gB k,val:=.int .i64 w,born:=clock }) (clock+1)) H') (M:o.dst=none) (T:aA st aa) (h:C R H' aa):aJ P B c o R H st C :=
 Ox.od (s:=λ f=>Instr.mapUpdate t (f x) (f y) (f z)) (by rw [J]; rfl) M (λ f=>by simp only [execOp,J]) T (λ f F=>by
  rw [F x _ V,F y _ W,F z _ Y]
  unfold Instr.mapUpdate
  refine al.bV (al.underlying g.ty) ?_
  refine aE.bK (aE.getObj rfl (.inr L.mem) ?_)
  refine al.bV (g.cD _ k G) (al.bV (Bc g G hm) ?_)
  rw [ya Q]
  exact aE.setObj rfl rfl L h)
theorem U.o8{todo:List Item}(G:aj→aj)(y:eu G){H2 Hs:aj}{v:Value}{m:ev}(f:G []=H2)(F:gu v m Hs)(h:∀ R',aH R R'→gL R' v m→U af c R' H2 st todo):U af c R (G Hs) st todo:=by
 subst f
 rcases F with ⟨rfl,rfl,rfl⟩ | ⟨b,es,cl,rfl,rfl,g,s⟩
 ·exact h R (aH.refl R) .none
 ·obtain ⟨A,D,z⟩:=y
  rw [z] at h ⊢
  refine U.perm (H':=(b,.map es cl)::(A++([]++D))) (by simpa using List.perm_middle.symm) (U.freeze λ R' J hb=>h R' J ?_)
  exact .inr ⟨b,es,cl,m,rfl,hb,g,s,List.Perm.refl _⟩
end
def dL(p w:Int):Value:=.agg #[.int .i64 p,.int .i64 w]
theorem qn{p w f w':Int}(h:dL p w=dL f w'):p=f∧w=w':=by
 simp only [dL,Value.agg.injEq,Array.mk.injEq,List.cons.injEq,Value.int.injEq] at h
 exact ⟨h.1.2,h.2.1.2⟩
def lL(m:Int→Int→Int)(p w z:Int):Int→Int→Int:=λ a b=>if a=p∧b=w then z else m a b
structure na (es:List MapEntry) (m:Int→Int→Int) (clock:Nat):Prop where
 iH:∀ e∈es,∃ p w,e.key=dL p w∧e.val = .int .i64 (m p w)
 zero:∀ p w,(∀ e∈es,e.key≠dL p w)→m p w=0
 keys:∀ (i j:Nat) (a b:MapEntry),es[i]? = some a→es[j]? = some b→a.key=b.key→i=j
 old:∀ e∈es,e.born < clock
 sL:∀ (i j:Nat) (a b:MapEntry),es[i]? = some a→es[j]? = some b→a.born=b.born→i=j
def jN(v:Value)(m:Int→Int→Int)(Hs:aj):Prop:=∃ b es clock,v = .map (some b)∧Hs=[(b,.map es clock)]∧na es.toList m clock
def qx(v:Value)(m:Int→Int→Int)(p w g:Int)(Hs:aj):Prop:=∃ b es clock,v = .map (some b)∧Hs=[(b,.map es clock)]∧na es.toList m clock∧∃ (i:Nat) (e:MapEntry),es[i]? = some e∧e.key=dL p w∧g=(e.born:Int)
theorem qx.own{v:Value}{m:Int→Int→Int}{p w g:Int}{Hs:aj}(h:qx v m p w g Hs):jN v m Hs:=by
 obtain ⟨b,es,cl,f,s,y,_⟩:=h
 exact ⟨b,es,cl,f,s,y⟩
structure oI (P:Program) (t kt et:TypeId):Prop where
 ty:P.underlying t=some (.map kt et)
 key:∃ d,P.underlying kt=some d∧∀ a b,Instr.sameNow d a b=none
 eq:∀ a b c d:Int,al P (Op.equal kt (dL a b) (dL c d)) (a == c && (b == d && true))
 cD:∀ (e:Bool) (a b:Int),al P (Instr.checkKey e 10000 kt (dL a b)) ()
 zero:al P (zeroValue et) (.int .i64 0)
section
variable {P:Program} {B:Base} {main:Bool} {af:Jd P B main} {c:Ctx} {R:ay} {H:aj} {st aa:St} {o:Oper} {C:ay→aj→St→Prop}
def BB(es:List MapEntry)(p w:Int)(r:Option (Nat × Value)):Prop :=
 (r=none∧∀ e∈es,e.key≠dL p w)∨∃ (i:Nat) (e:MapEntry),es[i]? = some e∧e.key=dL p w∧r=some (i,e.val)
theorem Ba{t kt et:TypeId}(y:oI P t kt et)(p w:Int):∀ (es:List MapEntry) (i:Nat),(∀ e∈es,∃ p w,e.key=dL p w)→∃ r,al P (Instr.findAsking kt (dL p w) es i) r∧((r=none∧∀ e∈es,e.key≠dL p w)∨∃ (j:Nat) (e:MapEntry),es[j]? = some e∧e.key=dL p w∧r=some (i+j,e.val))
 | [],i,h=>⟨none,al.bc _,.inl ⟨rfl,λ e he=>(by cases he)⟩⟩
 | e::es,i,h=>by
  obtain ⟨g,w',f⟩:=h e (by simp)
  by_cases heq:p=g∧w=w'
  ·obtain ⟨rfl,rfl⟩:=heq
   refine ⟨some (i,e.val),?_,.inr ⟨0,e,rfl,f,rfl⟩⟩
   unfold Instr.findAsking
   rw [f]
   refine al.bj (y.eq p w p w) ?_
   simp only [beq_self_eq_true,Bool.and_self,if_true]
   exact al.bc _
  ·obtain ⟨r,Q,s⟩:=Ba y p w es (i+1) (λ e he=>h e (by simp [he]))
   have hb:(p == g && (w == w' && true))=false:=by
    simp only [Bool.and_true,Bool.and_eq_false_iff,beq_eq_false_iff_ne]
    by_cases F:p=g
    ·exact .inr λ hw=>heq ⟨F,hw⟩
    ·exact .inl F
   refine ⟨r,?_,?_⟩
   ·unfold Instr.findAsking
    rw [f]
    refine al.bj (y.eq p w g w') ?_
    rw [hb]
    exact Q
   ·rcases s with ⟨rfl,s⟩ | ⟨j,G,L,M,rfl⟩
    ·refine .inl ⟨rfl,λ x z=>?_⟩
     rcases cO.1 z with rfl | z
     ·intro J
      obtain ⟨a,b⟩:=qn (f.symm.trans J)
      exact heq ⟨a.symm,b.symm⟩
     ·exact s x z
    ·exact .inr ⟨j+1,G,by simpa using L,M,by simp; omega⟩
theorem Bd{t kt et:TypeId}(y:oI P t kt et)(p w:Int){es:List MapEntry}{m:Int→Int→Int}{cl:Nat}(h:na es m cl):∃ r,al P (Instr.findKey kt (dL p w) es) r∧BB es p w r:=by
 obtain ⟨d,f,g⟩:=y.key
 obtain ⟨r,J,s⟩:=Ba y p w es 0 (λ e he=>let ⟨p,w,G,_⟩:=h.iH e he; ⟨p,w,G⟩)
 cases es with
 | nil=>exact ⟨none,by unfold Instr.findKey; exact al.bj (al.underlying f) (al.bc _),.inl ⟨rfl,λ e he=>by cases he⟩⟩
 | cons e es =>
  refine ⟨r,?_,?_⟩
  ·unfold Instr.findKey
   refine al.bj (al.underlying f) ?_
   simp only [Instr.findNow,g]
   exact J
  ·rcases s with s | ⟨j,z,f,g,F⟩
   ·exact .inl s
   ·exact .inr ⟨j,z,f,g,by simpa using F⟩
theorem Ox.Jz{t:TypeId}(g:o.op = .makeMap t none)(F:bQ o.dst c.n)
  (z:∀ v Hs,jN v (λ _ _=>0) Hs→∃ aa,aA (bJ o.dst v st) aa∧C R (Hs++H) aa):aJ P B c o R H st C :=
 Ox.mem (s:=λ y=>Instr.makeMap t none) (by rw [g]; rfl) F (λ y=>by simp only [execOp,g]; rfl) (λ y G=>by
  unfold Instr.makeMap
  refine aE.bK (aE.new λ b _ _=>aE.bR ?_)
  exact z (.map (some b)) [(b,.map #[] 0)] ⟨b,#[],0,rfl,rfl,⟨λ e he=>(by cases he),λ _ _ _=>rfl,λ i j a b f=>(by simp at f),λ e he=>(by cases he),λ i j a b f=>(by simp at f)⟩⟩)
theorem Ox.uf{x y:Operand}{t kt et:TypeId}{v:Value}{m:Int→Int→Int}{p w:Int}{Hs:aj}(F:o.op = .lookup t x y false)(ab:a2 st x=some v)(ac:a2 st y=some (dL p w))(f:oI P t kt et)(hm:jN v m Hs)(M:∀ q∈Hs,q∈H)
  (Q:bQ o.dst c.n) (z:aA (bJ o.dst (.int .i64 (m p w)) st) aa) (h:C R H aa):aJ P B c o R H st C :=
 Ox.mem (s:=λ g=>Instr.lookup t (g x) (g y) false) (by rw [F]; rfl) Q (λ g=>by simp only [execOp,F]) (λ g G=>by
  rw [G x _ ab,G y _ ac]
  unfold Instr.lookup
  refine al.bV (al.underlying f.ty) ?_
  obtain ⟨b,es,cl,rfl,rfl,he⟩:=hm
  refine aE.bK (aE.getObj rfl (.inr (M (b,.map es cl) (by simp))) ?_)
  refine aE.bK (aE.bR ?_)
  obtain ⟨r,Y,T⟩:=Bd f p w he
  refine al.bV (f.cD _ p w) (al.bV Y ?_)
  rcases T with ⟨rfl,W⟩ | ⟨i,e,J,L,rfl⟩
  ·refine al.bV f.zero (aE.bK (aE.bR (aE.bR ?_)))
   rw [he.zero p w W] at z
   exact ⟨aa,z,h⟩
  ·obtain ⟨ad,w',V,Z⟩:=he.iH e (List.mem_of_getElem? J)
   obtain ⟨rfl,rfl⟩:=qn (V.symm.trans L)
   rw [Z]
   exact aE.bK (aE.bR (aE.bR ⟨aa,z,h⟩)))
theorem Lh(p w:Int):Instr.sameBits 10000 (dL p w) (dL p w)=true:=by
 simp [Instr.sameBits,dL]
theorem JN{es:Array MapEntry}{i:Nat}{e:MapEntry}{k:Value}(h:es[i]? = some e)(g:e.key=k):es.modify i (λ e=>{ e with key:=k })=es:=by
 apply Array.ext_getElem?
 intro j
 rw [Array.getElem?_modify]
 by_cases f:i=j
 ·subst f; simp [h,← g]
 ·simp [f]
theorem na.push{es:Array MapEntry}{m:Int→Int→Int}{cl:Nat}{p w:Int}(h:na es.toList m cl)(z:∀ e∈es.toList,e.key≠dL p w) :
  na (es.push { key:=dL p w,val:=.int .i64 0,born:=cl }).toList m (cl+1):=by
 rw [Array.toList_push]
 refine ⟨λ e he=>?_,λ G w' F=>?_,λ i j a b f hb g=>?_,λ e he=>?_,λ i j a b f hb g=>?_⟩
 ·rcases List.mem_append.1 he with he | he
  ·exact h.iH e he
  ·rcases List.mem_singleton.1 he with rfl
   exact ⟨p,w,rfl,by rw [h.zero p w z]⟩
 ·exact h.zero G w' λ e he=>F e (List.mem_append.2 (.inl he))
 ·rw [List.getElem?_append] at f hb
  split at f <;> split at hb
  ·exact h.keys i j a b f hb g
  ·rename_i s y
   have:b={ key:=dL p w,val:=.int .i64 0,born:=cl }:=by
    have:=List.mem_of_getElem? hb; simpa using this
   subst this
   exact absurd g (z a (List.mem_of_getElem? f))
  ·rename_i s y
   have:a={ key:=dL p w,val:=.int .i64 0,born:=cl }:=by
    have:=List.mem_of_getElem? f; simpa using this
   subst this
   exact absurd g.symm (z b (List.mem_of_getElem? hb))
  ·have s:=(ep.1 f).1
   have y:=(ep.1 hb).1
   simp only [List.length_singleton,Array.length_toList] at *
   omega
 ·rcases List.mem_append.1 he with he | he
  ·have:=h.old e he; omega
  ·rcases List.mem_singleton.1 he with rfl
   exact Nat.lt_succ_self _
 ·rw [List.getElem?_append] at f hb
  split at f <;> split at hb
  ·exact h.sL i j a b f hb g
  ·have:b={ key:=dL p w,val:=.int .i64 0,born:=cl }:=by
    have:=List.mem_of_getElem? hb; simpa using this
   subst this
   have:=h.old a (List.mem_of_getElem? f)
   simp only at g
   omega
  ·have:a={ key:=dL p w,val:=.int .i64 0,born:=cl }:=by
    have:=List.mem_of_getElem? f; simpa using this
   subst this
   have:=h.old b (List.mem_of_getElem? hb)
   simp only at g
   omega
  ·have s:=(ep.1 f).1
   have y:=(ep.1 hb).1
   simp only [List.length_singleton,Array.length_toList] at *
   omega
theorem Ox.mapEntry{x y:Operand}{t kt et:TypeId}{v:Value}{m:Int→Int→Int}{p w:Int}{Hs:aj}(G:aj→aj)(Y:o.op = .mapEntry t x y)(am:a2 st x=some v)(an:a2 st y=some (dL p w))(F:oI P t kt et)(L:eu G)(hm:jN v m Hs)
  (ac:bQ o.dst c.n) (V:∀ g Q,qx v m p w g Q→∃ aa,aA (bJ o.dst (.tuple #[.int .i64 (m p w),.int .i64 g]) st) aa∧C R (G Q) aa):aJ P B c o R (G Hs) st C :=
 Ox.mem (s:=λ J=>Instr.mapEntry t (J x) (J y)) (by rw [Y]; rfl) ac (λ J=>by simp only [execOp,Y]) (λ J Z=>by
  rw [Z x _ am,Z y _ an]
  unfold Instr.mapEntry
  refine al.bV (al.underlying F.ty) ?_
  obtain ⟨b,es,cl,rfl,rfl,he⟩:=hm
  refine aE.bK (aE.getObj rfl (.inr (L.set (o':=.map es cl)).mem) ?_)
  obtain ⟨r,ae,ad⟩:=Bd F p w he
  refine al.bV (F.cD _ p w) (al.bV ae ?_)
  rcases ad with ⟨rfl,W⟩ | ⟨i,e,T,ab,rfl⟩
  ·refine al.bV F.zero (aE.bK (aE.setObj rfl rfl L.set (aE.bR ?_)))
   have:=V (cl:Int) [(b,.map (es.push { key:=dL p w,val:=.int .i64 0,born:=cl }) (cl+1))] ⟨b,es.push { key:=dL p w,val:=.int .i64 0,born:=cl },cl+1,rfl,rfl,he.push W,es.size,{ key:=dL p w,val:=.int .i64 0,born:=cl },by simp,rfl,rfl⟩
   rw [he.zero p w W] at this
   exact this
  ·obtain ⟨M,w',z,ak⟩:=he.iH e (List.mem_of_getElem? T)
   obtain ⟨rfl,rfl⟩:=qn (z.symm.trans ab)
   have f:es[i]? = some e:=by simpa using T
   have ag:al P (Instr.keyThatStays (((es[i]?).map (·.key)).getD (dL M w')) (dL M w')) (dL M w'):=by
    rw [f]
    simp only [Option.map_some,hs,z,Instr.keyThatStays,Lh,if_true]
    exact al.bc _
   refine al.bV ag (aE.bK (aE.setObj rfl rfl L.set (aE.bR ?_)))
   rw [JN f z,f,ak]
   exact V (e.born:Int) _ ⟨b,es,cl,rfl,rfl,he,i,e,f,z,rfl⟩)
theorem gl{α:Type}{a:Array α}{j:Nat}{x:α}(h:a.toList[j]? = some x):a[j]? = some x:=by rwa [Array.getElem?_toList] at h
theorem al.asInt{k:IntKind}{z:Int}:al P (asInt (.int k z)) z:=al.bc _
theorem Ox.entryStore{x y z:Operand}{t:TypeId}{v:Value}{m:Int→Int→Int}{p w g n:Int}{Hs:aj}(G:aj→aj)(au:o.op = .entryStore t x y z)(aH:a2 st x=some v)(aI:a2 st y=some (.int .i64 g))(aK:a2 st z=some (.int .i64 n))(an:eu G)(hm:qx v m p w g Hs)
  (az:o.dst=none) (aF:aA st aa) (ax:∀ ak,jN v (lL m p w n) ak→C R (G ak) aa):aJ P B c o R (G Hs) st C :=
 Ox.od (s:=λ T=>Instr.entryStore t (T x) (T y) (T z)) (by rw [au]; rfl) az (λ T=>by simp only [execOp,au]) aF (λ T ag=>by
  rw [ag x _ aH,ag y _ aI,ag z _ aK]
  unfold Instr.entryStore
  obtain ⟨b,es,cl,rfl,rfl,he,i,e,hi,Y,rfl⟩:=hm
  refine aE.bK (aE.getObj rfl (.inr (an.set (o':=.map es cl)).mem) ?_)
  refine al.bV al.asInt ?_
  have aB:es.findIdx? (λ av=>(av.born:Int) == (e.born:Int))=some i:=by
   obtain ⟨ap,ao⟩:=Array.getElem?_eq_some_iff.1 hi
   rw [Array.findIdx?_eq_some_iff_getElem]
   refine ⟨ap,by simp [ao],λ j J=>?_⟩
   have aC:j < es.size:=by omega
   simp only [Bool.not_eq_true,beq_eq_false_iff_ne]
   intro hb
   have:=he.sL j i es[j] e (by simp [aC]) (by simpa using hi) (by exact_mod_cast hb)
   omega
  rw [aB]
  refine aE.setObj rfl rfl an.set (ax _ ⟨b,_,cl,rfl,rfl,?_⟩)
  have M:∀ j a,(es.modify i λ e=>{ e with val:=.int .i64 n })[j]? = some a→∃ F,es[j]? = some F∧a.key=F.key∧a.born=F.born∧a.val=if i=j then .int .i64 n else F.val:=by
   intro j a f
   rw [Array.getElem?_modify] at f
   by_cases J:i=j
   ·subst J
    rw [hi] at f
    simp only [if_true,Option.map_some,eO] at f
    subst f
    exact ⟨e,hi,rfl,rfl,by simp⟩
   ·simp only [J,if_false] at f
    exact ⟨a,f,rfl,rfl,by simp [J]⟩
  have aq:∀ a∈(es.modify i λ e=>{ e with val:=.int .i64 n }).toList,∃ j,(es.modify i λ e=>{ e with val:=.int .i64 n })[j]? = some a:=λ a f=>by
   obtain ⟨j,J⟩:=List.mem_iff_getElem?.1 f
   exact ⟨j,gl J⟩
  refine ⟨λ a f=>?_,λ Z w' ar=>?_,λ j k a b' f hb ab=>?_,λ a f=>?_,λ j k a b' f hb ab=>?_⟩
  ·obtain ⟨j,J⟩:=aq a f
   obtain ⟨F,L,V,W,am⟩:=M j a J
   obtain ⟨Z,w',ad,aG⟩:=he.iH F (by rw [← Array.mem_def]; exact Array.mem_of_getElem? L)
   refine ⟨Z,w',V.trans ad,?_⟩
   rw [am]
   by_cases Q:i=j
   ·subst Q
    rw [hi] at L; cases L
    obtain ⟨rfl,rfl⟩:=qn (Y.symm.trans ad)
    simp [lL]
   ·rw [if_neg Q,aG]
    unfold lL
    rw [if_neg]
    rintro ⟨rfl,rfl⟩
    exact Q (he.keys i j e F (by simpa using hi) (by simpa using L) (Y.trans ad.symm))
  ·unfold lL
   by_cases ae:Z=p∧w'=w
   ·obtain ⟨rfl,rfl⟩:=ae
    exfalso
    obtain ⟨ap,ao⟩:=Array.getElem?_eq_some_iff.1 hi
    refine ar { e with val:=.int .i64 n } ?_ Y
    rw [← Array.mem_def]
    exact Array.mem_of_getElem? (i:=i) (by rw [Array.getElem?_modify]; simp [hi])
   ·rw [if_neg ae]
    refine he.zero Z w' λ a f=>?_
    obtain ⟨j,J⟩:=List.mem_iff_getElem?.1 f
    have ac:es[j]? = some a:=by simpa using J
    by_cases Q:i=j
    ·subst Q
     rw [hi] at ac; cases ac
     intro aw
     obtain ⟨rfl,rfl⟩:=qn (Y.symm.trans aw)
     exact ae ⟨rfl,rfl⟩
    ·exact ar a (by rw [← Array.mem_def]; exact Array.mem_of_getElem? (i:=j) (by rw [Array.getElem?_modify]; simp [Q,ac]))
  ·obtain ⟨F,L,V,_⟩:=M j a (gl f)
   obtain ⟨b0,k1,k2,_⟩:=M k b' (gl hb)
   exact he.keys j k F b0 (by simpa using L) (by simpa using k1) (V.symm.trans (ab.trans k2))
  ·obtain ⟨j,J⟩:=aq a f
   obtain ⟨F,L,V,W,am⟩:=M j a J
   rw [W]
   exact he.old F (by rw [← Array.mem_def]; exact Array.mem_of_getElem? L)
  ·obtain ⟨F,L,_,W,_⟩:=M j a (gl f)
   obtain ⟨b0,k1,_,k3,_⟩:=M k b' (gl hb)
   exact he.sL j k F b0 (by simpa using L) (by simpa using k1) (W.symm.trans (ab.trans k3)))
end
def ir{α β:Type}[DecidableEq α](m:α→β)(p:α)(z:β):α→β:=λ a=>if a=p then z else m a
section
variable {α β:Type} (K:α→Value) (E:β→Value) (z0:β) (ok:α→Prop)
structure ks (es:List MapEntry) (m:α→β) (clock:Nat):Prop where
 iH:∀ e∈es,∃ p,ok p∧e.key=K p∧e.val=E (m p)
 zero:∀ p,ok p→(∀ e∈es,e.key≠K p)→m p=z0
 keys:∀ (i j:Nat) (a b:MapEntry),es[i]? = some a→es[j]? = some b→a.key=b.key→i=j
 old:∀ e∈es,e.born < clock
def oJ(v:Value)(m:α→β)(Hs:aj):Prop:=∃ b es clock,v = .map (some b)∧Hs=[(b,.map es clock)]∧ks K E z0 ok es.toList m clock
structure oH (P:Program) (t kt et:TypeId):Prop where
 ty:P.underlying t=some (.map kt et)
 key:∃ d,P.underlying kt=some d∧∀ a b,ok a→ok b→Instr.sameNow d (K a) (K b)=none
 inj:∀ a b,ok a→ok b→K a=K b→a=b
 eq:∀ a b,ok a→ok b→∃ r:Bool,al P (Op.equal kt (K a) (K b)) r∧(r=true→a=b)∧(a=b→r=true)
 cD:∀ (e:Bool) (a:α),ok a→al P (Instr.checkKey e 10000 kt (K a)) ()
 bits:∀ a,ok a→Instr.sameBits 10000 (K a) (K a)=true
 zero:al P (zeroValue et) (E z0)
end
section
variable {α β:Type} {K:α→Value} {E:β→Value} {z0:β} {ok:α→Prop}
variable {P:Program} {B:Base} {main:Bool} {af:Jd P B main} {c:Ctx} {R:ay} {H:aj} {st aa:St} {o:Oper} {C:ay→aj→St→Prop}
theorem Bb{t kt et:TypeId}(y:oH K E z0 ok P t kt et){p:α}(s:ok p):∀ (es:List MapEntry) (i:Nat),(∀ e∈es,∃ p,ok p∧e.key=K p)→∃ r,al P (Instr.findAsking kt (K p) es i) r∧((r=none∧∀ e∈es,e.key≠K p)∨∃ (j:Nat) (e:MapEntry),es[j]? = some e∧e.key=K p∧r=some (i+j,e.val))
 | [],i,h=>⟨none,al.bc _,.inl ⟨rfl,λ e he=>(by cases he)⟩⟩
 | e::es,i,h=>by
  obtain ⟨W,F,f⟩:=h e (by simp)
  obtain ⟨b,hb,Q,T⟩:=y.eq p W s F
  cases b with
  | true =>
   obtain rfl:=Q rfl
   refine ⟨some (i,e.val),?_,.inr ⟨0,e,rfl,f,rfl⟩⟩
   unfold Instr.findAsking
   rw [f]
   exact al.bj hb (al.bc _)
  | false =>
   obtain ⟨r,V,g⟩:=Bb y s es (i+1) (λ e he=>h e (by simp [he]))
   refine ⟨r,?_,?_⟩
   ·unfold Instr.findAsking
    rw [f]
    exact al.bj hb V
   ·rcases g with ⟨rfl,g⟩ | ⟨j,G,L,M,rfl⟩
    ·refine .inl ⟨rfl,λ x z=>?_⟩
     rcases cO.1 z with rfl | z
     ·intro J
      have:=T (y.inj _ _ F s (f.symm.trans J)).symm
      cases this
     ·exact g x z
    ·exact .inr ⟨j+1,G,by simpa using L,M,by simp; omega⟩
theorem Bf{t kt et:TypeId}(F:oH K E z0 ok P t kt et){p:α}(g:ok p){es:List MapEntry}{m:α→β}{cl:Nat}(h:ks K E z0 ok es m cl):∃ r,al P (Instr.findKey kt (K p) es) r∧((r=none∧∀ e∈es,e.key≠K p)∨∃ (i:Nat) (e:MapEntry),es[i]? = some e∧e.key=K p∧r=some (i,e.val)):=by
 obtain ⟨d,f,s⟩:=F.key
 obtain ⟨r,M,y⟩:=Bb F g es 0 (λ e he=>let ⟨p,g,z,_⟩:=h.iH e he; ⟨p,g,z⟩)
 cases es with
 | nil=>exact ⟨none,by unfold Instr.findKey; exact al.bj (al.underlying f) (al.bc _),.inl ⟨rfl,λ e he=>by cases he⟩⟩
 | cons e es =>
  refine ⟨r,?_,?_⟩
  ·unfold Instr.findKey
   refine al.bj (al.underlying f) ?_
   obtain ⟨q,L,z,_⟩:=h.iH e (by simp)
   simp only [Instr.findNow,z,s p q g L]
   exact M
  ·rcases y with y | ⟨j,G,f,s,J⟩
   ·exact .inl y
   ·exact .inr ⟨j,G,f,s,by simpa using J⟩
theorem Ox.Jy{t:TypeId}(f:o.op = .makeMap t none)(F:bQ o.dst c.n)
  (y:∀ v Hs,oJ K E z0 ok v (λ _=>z0) Hs→∃ aa,aA (bJ o.dst v st) aa∧C R (Hs++H) aa):aJ P B c o R H st C :=
 Ox.mem (s:=λ g=>Instr.makeMap t none) (by rw [f]; rfl) F (λ g=>by simp only [execOp,f]; rfl) (λ g G=>by
  unfold Instr.makeMap
  refine aE.bK (aE.new λ b _ _=>aE.bR ?_)
  exact y (.map (some b)) [(b,.map #[] 0)] ⟨b,#[],0,rfl,rfl,⟨λ e he=>(by cases he),λ _ _ _=>rfl,λ i j a b z=>(by simp at z),λ e he=>(by cases he)⟩⟩)
theorem Ox.GO{x y:Operand}{t kt et:TypeId}{v:Value}{m:α→β}{p:α}{Hs:aj}(G:o.op = .lookup t x y false)(ad:a2 st x=some v)(ae:a2 st y=some (K p))(f:oH K E z0 ok P t kt et)(g:ok p)(hm:oJ K E z0 ok v m Hs)(Q:∀ q∈Hs,q∈H)
  (T:bQ o.dst c.n) (F:aA (bJ o.dst (E (m p)) st) aa) (h:C R H aa):aJ P B c o R H st C :=
 Ox.mem (s:=λ z=>Instr.lookup t (z x) (z y) false) (by rw [G]; rfl) T (λ z=>by simp only [execOp,G]) (λ z J=>by
  rw [J x _ ad,J y _ ae]
  unfold Instr.lookup
  refine al.bV (al.underlying f.ty) ?_
  obtain ⟨b,es,cl,rfl,rfl,he⟩:=hm
  refine aE.bK (aE.getObj rfl (.inr (Q (b,.map es cl) (by simp))) ?_)
  refine aE.bK (aE.bR ?_)
  obtain ⟨r,ab,V⟩:=Bf f g he
  refine al.bV (f.cD _ p g) (al.bV ab ?_)
  rcases V with ⟨rfl,Y⟩ | ⟨i,e,L,M,rfl⟩
  ·refine al.bV f.zero (aE.bK (aE.bR (aE.bR ?_)))
   rw [he.zero p g Y] at F
   exact ⟨aa,F,h⟩
  ·obtain ⟨ag,Z,W,ac⟩:=he.iH e (List.mem_of_getElem? L)
   obtain rfl:=f.inj _ _ Z g (W.symm.trans M)
   rw [ac]
   exact aE.bK (aE.bR (aE.bR ⟨aa,F,h⟩)))
theorem ks.push[DecidableEq α]{es:Array MapEntry}{m:α→β}{cl:Nat}{p:α}{z:β}(_:∀ a b,ok a→ok b→K a=K b→a=b)(T:ok p)(h:ks K E z0 ok es.toList m cl)(F:∀ e∈es.toList,e.key≠K p) :
  ks K E z0 ok (es.push { key:=K p,val:=E z,born:=cl }).toList (ir m p z) (cl+1):=by
 rw [Array.toList_push]
 refine ⟨λ e he=>?_,λ s V L=>?_,λ i j a b f hb y=>?_,λ e he=>?_⟩
 ·rcases List.mem_append.1 he with he | he
  ·obtain ⟨s,Q,g,J⟩:=h.iH e he
   refine ⟨s,Q,g,?_⟩
   unfold ir
   rw [if_neg (λ M=>F e he (by rw [g,M])),J]
  ·rcases List.mem_singleton.1 he with rfl
   exact ⟨p,T,rfl,by simp [ir]⟩
 ·have g:=h.zero s V λ e he=>L e (List.mem_append.2 (.inl he))
  unfold ir
  rw [if_neg,g]
  rintro rfl
  exact L { key:=K s,val:=E z,born:=cl } (List.mem_append.2 (.inr (by simp))) rfl
 ·have last:∀ {k:Nat} {x:MapEntry},[({ key:=K p,val:=E z,born:=cl }:MapEntry)][k]? = some x→k=0∧x={ key:=K p,val:=E z,born:=cl }:=by
   intro k x G
   cases k with
   | zero=>simp at G; exact ⟨rfl,G.symm⟩
   | succ k=>simp at G
  rw [List.getElem?_append] at f hb
  split at f <;> split at hb
  ·exact h.keys i j a b f hb y
  ·obtain ⟨_,rfl⟩:=last hb
   exact absurd y (F a (List.mem_of_getElem? f))
  ·obtain ⟨_,rfl⟩:=last f
   exact absurd y.symm (F b (List.mem_of_getElem? hb))
  ·have g:=(last f).1
   have J:=(last hb).1
   omega
 ·rcases List.mem_append.1 he with he | he
  ·have:=h.old e he; omega
  ·rcases List.mem_singleton.1 he with rfl
   exact Nat.lt_succ_self _
theorem ks.L9[DecidableEq α]{es:Array MapEntry}{m:α→β}{cl i:Nat}{p:α}{z:β}{e:MapEntry}(inj:∀ a b,ok a→ok b→K a=K b→a=b)(ae:ok p)(he:ks K E z0 ok es.toList m cl)(hi:es[i]? = some e)(M:e.key=K p) :
  ks K E z0 ok (es.modify i λ e=>{ e with key:=K p,val:=E z }).toList (ir m p z) cl:=by
 have gl:∀ {a:Array MapEntry} {j:Nat} {x:MapEntry},a.toList[j]? = some x→a[j]? = some x:=λ h=>by rwa [Array.getElem?_toList] at h
 have L:∀ j a,(es.modify i λ e=>{ e with key:=K p,val:=E z })[j]? = some a→∃ g,es[j]? = some g∧a.key=g.key∧a.born=g.born∧a.val=if i=j then E z else g.val:=by
  intro j a f
  rw [Array.getElem?_modify] at f
  by_cases s:i=j
  ·subst s
   rw [hi] at f
   simp only [if_true,Option.map_some,eO] at f
   subst f
   exact ⟨e,hi,M.symm,rfl,by simp⟩
  ·simp only [s,if_false] at f
   exact ⟨a,f,rfl,rfl,by simp [s]⟩
 have ac:∀ a∈(es.modify i λ e=>{ e with key:=K p,val:=E z }).toList,∃ j,(es.modify i λ e=>{ e with key:=K p,val:=E z })[j]? = some a:=λ a f=>by
  obtain ⟨j,s⟩:=List.mem_iff_getElem?.1 f
  exact ⟨j,gl s⟩
 have ab:∀ {j:Nat} {g:MapEntry},es[j]? = some g→g∈es.toList:=λ h=>by rw [← Array.mem_def]; exact Array.mem_of_getElem? h
 refine ⟨λ a f=>?_,λ G ag ad=>?_,λ j k a b' f hb am=>?_,λ a f=>?_⟩
 ·obtain ⟨j,s⟩:=ac a f
  obtain ⟨g,y,J,Y,Z⟩:=L j a s
  obtain ⟨G,W,T,an⟩:=he.iH g (ab y)
  refine ⟨G,W,J.trans T,?_⟩
  rw [Z]
  by_cases F:i=j
  ·subst F
   rw [hi] at y; cases y
   obtain rfl:=inj _ _ ae W (M.symm.trans T)
   simp [ir]
  ·rw [if_neg F,an]
   unfold ir
   rw [if_neg]
   rintro rfl
   exact F (he.keys i j e g (by simpa using hi) (by simpa using y) (M.trans T.symm))
 ·unfold ir
  by_cases V:G=p
  ·subst V
   exfalso
   obtain ⟨ap,ao⟩:=Array.getElem?_eq_some_iff.1 hi
   refine ad { e with key:=K G,val:=E z } ?_ rfl
   rw [← Array.mem_def]
   exact Array.mem_of_getElem? (i:=i) (by rw [Array.getElem?_modify]; simp [hi])
  ·rw [if_neg V]
   refine he.zero G ag λ a f=>?_
   obtain ⟨j,s⟩:=List.mem_iff_getElem?.1 f
   have Q:es[j]? = some a:=by simpa using s
   by_cases F:i=j
   ·subst F
    rw [hi] at Q; cases Q
    intro ak
    exact V (inj _ _ ae ag (M.symm.trans ak)).symm
   ·exact ad a (by rw [← Array.mem_def]; exact Array.mem_of_getElem? (i:=j) (by rw [Array.getElem?_modify]; simp [F,Q]))
 ·obtain ⟨g,y,J,_⟩:=L j a (gl f)
  obtain ⟨b0,k1,k2,_⟩:=L k b' (gl hb)
  exact he.keys j k g b0 (by simpa using y) (by simpa using k1) (J.symm.trans (am.trans k2))
 ·obtain ⟨j,s⟩:=ac a f
  obtain ⟨g,y,J,Y,Z⟩:=L j a s
  rw [Y]
  exact he.old g (ab y)
theorem Ox.JG[DecidableEq α]{x y u:Operand}{t kt et:TypeId}{v:Value}{m:α→β}{p:α}{z:β}{Hs:aj}(G:aj→aj)(Y:o.op = .mapUpdate t x y u)(ag:a2 st x=some v)(ak:a2 st y=some (K p))(am:a2 st u=some (E z))(f:oH K E z0 ok P t kt et)(g:ok p)(J:eu G)(hm:oJ K E z0 ok v m Hs)
  (ab:o.dst=none) (L:aA st aa) (W:∀ Q,oJ K E z0 ok v (ir m p z) Q→C R (G Q) aa):aJ P B c o R (G Hs) st C :=
 Ox.od (s:=λ F=>Instr.mapUpdate t (F x) (F y) (F u)) (by rw [Y]; rfl) ab (λ F=>by simp only [execOp,Y]) L (λ F M=>by
  rw [M x _ ag,M y _ ak,M u _ am]
  unfold Instr.mapUpdate
  refine al.bV (al.underlying f.ty) ?_
  obtain ⟨b,es,cl,rfl,rfl,he⟩:=hm
  refine aE.bK (aE.getObj rfl (.inr (J.set (o':=.map es cl)).mem) ?_)
  obtain ⟨r,ae,ac⟩:=Bf f g he
  refine al.bV (f.cD _ p g) (al.bV ae ?_)
  rcases ac with ⟨rfl,ad⟩ | ⟨i,e,Z,V,rfl⟩
  ·exact aE.setObj rfl rfl J.set (W _ ⟨b,_,_,rfl,rfl,he.push f.inj g ad⟩)
  ·have T:es[i]? = some e:=by simpa using Z
   have L:al P (Instr.keyThatStays (((es[i]?).map (·.key)).getD (K p)) (K p)) (K p):=by
    rw [T]
    simp only [Option.map_some,hs,V,Instr.keyThatStays,f.bits p g,if_true]
    exact al.bc _
   exact al.bV L (aE.setObj rfl rfl J.set (W _ ⟨b,_,_,rfl,rfl,he.L9 f.inj g T V⟩)))
end
theorem Ks{old vs:List Value}(h:vs.length=old.length)(tl:List Value):dD (List.toArray (old++tl)) 0 vs=List.toArray (vs++tl):=by
 apply Array.ext_getElem?
 intro j
 rw [lE vs _ 0 j (by simp; omega)]
 simp only [Nat.zero_le,true_and,Nat.zero_add,Nat.sub_zero,List.getElem?_toArray]
 by_cases f:j < vs.length
 ·rw [if_pos f,fU f]
 ·rw [if_neg f,fC (by omega),fC (by omega),h]
theorem p9{α:Type}(T H:List α){l:α}:List.Perm (l::(T++H)) (H++l::T):=List.perm_append_comm (l₁:=l::T)
class jk (P:Program) where
 off:Nat→Nat→Option Nat
 ok:∀ s f n,off s f=some n→cM P s f n
def rW(F:Nat→Nat→Option Nat)(st:St)(o:Oper):Option Value :=
 match o.op with
 | .move x=>a2 st x
 | .assign x=>a2 st x
 | .pick x y z=>match a2 st x with
  | some (.bool true)=>a2 st y
  | some (.bool false)=>a2 st z
  | _=>none
 | .extract x j=>match a2 st x with
  | some (.tuple vs)=>vs[j]?
  | _=>none
 | .unOp .not _ x=>match a2 st x with
  | some (.bool a)=>some (.bool (!a))
  | _=>none
 | .binOp g _ x y _=>match a2 st x,a2 st y with
  | some (.int kd a),some (.int G b)=>if kd=G then (match s9 g a b with
   | some r=>some (.bool r)
   | none=>match sF g a b with
    | some z=>some (.int kd (kd.wrap z))
    | none=>none) else none
  | _,_=>none
 | .fieldAddr s x f=>match a2 st x,F s f with
  | some (.pointer (some ⟨b,n,none⟩)),some off=>some (.pointer (some ⟨b,n+off,none⟩))
  | _,_=>none
 | _=>none
section
variable {P:Program} [jk P] {B:Base} {main:Bool} {af:Jd P B main} {c:Ctx} {R:ay} {H:aj} {st aa:St} {o:Oper} {C:ay→aj→St→Prop} {k:List Item}
theorem Aa{v:Value}(h:rW (jk.off P) st o=some v)(J:bQ o.dst c.n)(L:aA (bJ o.dst v st) aa)(G:C R H aa):aJ P B c o R H st C:=by
 unfold rW at h
 split at h
 ·rename_i x g; exact Ox.move g h J L G
 ·rename_i x g; exact Ox.assign g h J L G
 ·rename_i x y z g
  split at h
  ·rename_i F; exact Ox.Kj g F h J L G
  ·rename_i F; exact Ox.Ki g F h J L G
  ·cases h
 ·rename_i x j g
  split at h
  ·rename_i F; exact Ox.extract g F h J L G
  ·cases h
 ·rename_i t x g
  split at h
  ·rename_i F; cases h; exact Ox.not g F J L G
  ·cases h
 ·rename_i W t x y u g
  split at h
  ·rename_i kd a Y b F M
   split at h
   ·rename_i e; subst e
    split at h
    ·rename_i r T; cases h; exact Ox.cmp g F M T J L G
    ·split at h
     ·rename_i z V; cases h; exact Ox.ar g F M V J L G
     ·cases h
   ·cases h
  ·cases h
 ·rename_i s x f g
  split at h
  ·rename_i F Q; cases h; exact Ox.fieldAddr g F (jk.ok s f _ Q) J L G
  ·cases h
 ·cases h
def vt(f:Nat→Nat→Option Nat)(ops:Array Oper)(n:Nat)(st:St)(i:Nat):Option St :=
 match ops[i]? with
 | none=>none
 | some o=>match cJ ops st o with
  | some true=>match rW f st o,o.dst with
   | some v,some d=>if Nat.blt d n=true then some ((d,v)::st) else none
   | _,_=>none
  | some false=>match gA o.op,o.dst with
   | false,some d=>if Nat.blt d n=true then some ((d,undef)::st) else none
   | false,none=>some st
   | _,_=>none
  | none=>none
def lG(f:Nat→Nat→Option Nat)(ops:Array Oper)(n:Nat):List Nat→St→Option St
 | [],st=>some st
 | i::is,st=>match vt f ops n st i with
  | some aa=>lG f ops n is aa
  | none=>none
theorem AL{ops:Array Oper}{n i:Nat}{y:Nat→Nat→Option Nat}(h:vt y ops n st i=some aa):∃ o,ops[i]? = some o ∧
  ((cJ ops st o=some true∧∃ v d,rW y st o=some v∧o.dst=some d∧bQ (some d) n∧aa=(d,v)::st) ∨
   (cJ ops st o=some false∧gA o.op=false∧bQ o.dst n∧aa=bJ o.dst undef st)):=by
 unfold vt at h
 split at h
 ·cases h
 ·rename_i o z
  refine ⟨o,z,?_⟩
  split at h
  ·rename_i hw
   split at h
   ·rename_i v d F f
    split at h
    ·rename_i s; cases h; exact .inl ⟨hw,v,d,F,f,s,rfl⟩
    ·cases h
   ·cases h
  ·rename_i hw
   split at h
   ·rename_i d g f
    split at h
    ·rename_i s; cases h; exact .inr ⟨hw,g,by rw [f]; exact s,by rw [f]; rfl⟩
    ·cases h
   ·rename_i g f
    cases h; exact .inr ⟨hw,g,by rw [f]; rfl,by rw [f]; rfl⟩
   ·cases h
  ·cases h
theorem U.run{ops:Array Oper}(y:(c.kind == CallKind.early)=false):∀ {is rest:List Nat} {st:St},lG (jk.off P) ops c.n is st=some aa→U af c R H aa (.inRegion ops rest::k)→U af c R H st (.inRegion ops (is++rest)::k)
 | [],rest,st,h,f=>by cases h; exact f
 | i::is,rest,st,h,f=>by
  unfold lG at h
  split at h
  ·rename_i M G
   have F:=U.run y h f
   obtain ⟨o,z,⟨hw,v,d,J,s,g,rfl⟩ | ⟨hw,L,g,rfl⟩⟩:=AL G
   ·exact U.cI z hw y (Aa J (by rw [s]; exact g) (by rw [s]; exact aA.refl _) F)
   ·exact U.unwanted z hw g (aA.refl _) F
  ·cases h
theorem U.vs(m:Nat){ops:Array Oper}{is f:List Nat}(h:lG (jk.off P) ops c.n (is.take m) st=some aa)(y:is.drop m=f)(g:U af c R H aa (.inRegion ops f::k))(s:(c.kind == CallKind.early)=false:=by rfl):U af c R H st (.inRegion ops is::k):=by
 subst y
 have:=U.run (rest:=is.drop m) s h g
 rwa [List.take_append_drop] at this
def xm(ops:Array Oper)(rem:List Nat)(i:Nat):Nat→List Nat→List Nat
 | 0,D=>D
 | n+1,D=>xm ops rem i n (rem.filter λ j=>j != i && (D.contains j || match ops[j]? with | some o=>o.after.any λ e=>Region.binds .any e && (e.on == i || D.contains e.on) | none=>false))
def o1(ops:Array Oper)(rem:List Nat)(i:Nat):List Nat:=xm ops rem i rem.length []
def qV(ops:Array Oper):List Nat→List Nat→Bool
 | _,[]=>true
 | rem,i::is=>decide rem.Nodup && gY ops rem i (o1 ops rem i) && qV ops (rem.erase i) is
theorem Any.Bn{S:Nat→aj}{ops:Array Oper}{n:Nat}:∀ (is:List Nat) {rem:List Nat} {st:St},lG (jk.off P) ops c.n is st=some aa→qV ops rem is=true→Any af c S ops k n (is.foldl List.erase rem) R H aa→Any af c S ops k (n+is.length) rem R H st
 | [],rem,st,h,_,g=>by cases h; exact g
 | i::is,rem,st,h,f,g=>by
  unfold lG at h
  split at h
  ·rename_i V M
   simp only [qV,dn,decide_eq_true_eq] at f
   obtain ⟨⟨F,J⟩,f⟩:=f
   have L:=Any.Bn is h f g
   obtain ⟨o,G,⟨hw,v,d,T,s,y,rfl⟩ | ⟨hw,Q,y,rfl⟩⟩:=AL M
   ·exact Any.vz (N:=[]) _ G s hw J (λ _ _ _ _ p z=>by cases z) (λ p z=>by cases z) (λ R' H' _ _=>Aa T (by rw [s]; exact y) (.one s) ⟨rfl,rfl,rfl⟩) (aA.refl _) F rfl L
   ·exact Any.L2 _ G J Q y hw (aA.refl _) F rfl L
  ·cases h
theorem Any.vs{S:Nat→aj}{ops:Array Oper}{n:Nat}(m:Nat)(is:List Nat){rem:List Nat}{st:St}(h:lG (jk.off P) ops c.n is st=some aa)(f:Any af c S ops k n (is.foldl List.erase rem) R H aa)(g:qV ops rem is=true:=by decide +kernel)(hm:is.length=m:=by rfl):Any af c S ops k (n+m) rem R H st:=by
 subst hm
 exact Any.Bn is h g f
end
section
variable {P:Program} {B:Base} {main:Bool} {af:Jd P B main} {c:Ctx} {R:ay} {H:aj} {st aa:St} {o:Oper} {C:ay→aj→St→Prop} {k:List Item}
theorem U.rg(is:List Nat){id:Nat}{ops:Array Oper}(h:U af c R H st (.inRegion ops is::k))(g:ops.size=is.length:=by rfl)(f:List.range is.length=is:=by rfl):U af c R H st (.code (.region id ops false)::k):=U.eZ g f h
theorem U.dw(is:List Nat){id:Nat}{ops:Array Oper}(hm:P.follows .mixedOrders=true)(h:Any af c (λ _=>H) ops k is.length is R H st)(g:(c.kind == CallKind.early)=false:=by rfl)(hb:backward ops=true:=by decide +kernel)(s:ops.size=is.length:=by rfl)(f:List.range is.length=is:=by rfl):U af c R H st (.code (.region id ops true)::k):=U.Cv hm g hb s f h
theorem Any.tk(i:Nat){N:aj}{ops:Array Oper}{n d:Nat}{rem:List Nat}{v:Value}(z:ops[i]? = some o)(f:∀ p∈N,p∈H)(s:∀ R' H',aH R R'→(∀ p∈N,p∈H')→aJ P B c o R' H' st λ R1 H1 J=>R1=R'∧H1=H'∧J=[(d,v)])
  (h:Any af c (λ _=>N) ops k n (rem.erase i) R H ((d,v)::st)) (g:o.dst=some d:=by rfl) (hw:cJ ops st o=some true:=by rfl) (G:gY ops rem i (o1 ops rem i)=true:=by decide +kernel) (y:rem.Nodup:=by decide):Any af c (λ _=>N) ops k (n+1) rem R H st :=
 Any.vz _ z g hw G (λ _ _ _ _ _ F=>F) f s (aA.refl _) y rfl h
theorem U.cv{ops:Array Oper}{i d:Nat}{rest:List Nat}{g:Call}{x:Operand}{f:FuncId}{first captured:Array Value}{vs:List Value}{args:Array Value}{bP:Value→ay→aj→Prop}(he:aT P f)(G:aL af f args R H bP)
  (h:∀ v R' H',bP v R' H'→U af c R' H' ((d,v)::st) (.inRegion ops rest::k))
  (M:ops[i]? = some o:=by rfl) (hw:cJ ops st o=some true:=by rfl) (J:(c.kind == CallKind.early)=false:=by rfl) (Q:o.op = .call g:=by rfl) (F:g.callee = .value x:=by rfl) (V:a2 st x=some (.func (.func f) first captured):=by rfl)
  (y:iD st g.args.toList=some vs:=by rfl) (z:first++vs.toArray++captured=args:=by rfl) (s:o.dst=some d:=by rfl) (L:Nat.blt d c.n=true:=by rfl):U af c R H st (.inRegion ops (i::rest)::k) :=
 U.step M hw J (Ox.b5 Q F V y he z (by rw [s]; exact L) (G.mono λ v R' H' T=>⟨_,.put s,h v R' H' T⟩))
theorem Any.cv(i:Nat){S:Nat→aj}{ops:Array Oper}{n d:Nat}{rem:List Nat}{g:Call}{x:Operand}{f:FuncId}{first captured:Array Value}{vs:List Value}{args:Array Value}{bP:Value→ay→aj→Prop}(he:aT P f)(G:aL af f args R H bP)
  (h:∀ v R' H',bP v R' H'→aH R R'∧(∀ p∈S i,p∈H→p∈H')∧Any af c S ops k n (rem.erase i) R' H' ((d,v)::st))
  (M:ops[i]? = some o:=by rfl) (hw:cJ ops st o=some true:=by rfl) (Q:o.op = .call g:=by rfl) (F:g.callee = .value x:=by rfl) (W:a2 st x=some (.func (.func f) first captured):=by rfl)
  (y:iD st g.args.toList=some vs:=by rfl) (z:first++vs.toArray++captured=args:=by rfl) (s:o.dst=some d:=by rfl) (J:Nat.blt d c.n=true:=by rfl) (V:rem.filter (fJ ops rem)=[i]:=by decide +kernel) (L:rem.Nodup:=by decide):Any af c S ops k (n+1) rem R H st :=
 Any.one M V hw L rfl (Ox.b5 Q F W y he z (by rw [s]; exact J) (G.mono λ v R' H' T=>⟨_,.put s,h v R' H' T⟩))
theorem Any.on(i:Nat){S:Nat→aj}{ops:Array Oper}{n:Nat}{rem:List Nat}(g:ops[i]? = some o)(hw:cJ ops st o=some true)
  (h:gM af c o R H st λ R' H' aa=>aH R R'∧(∀ p∈S i,p∈H→p∈H')∧Any af c S ops k n (rem.erase i) R' H' aa) (s:rem.filter (fJ ops rem)=[i]:=by decide +kernel) (f:rem.Nodup:=by decide):Any af c S ops k (n+1) rem R H st:=Any.one g s hw f rfl h
theorem U.ld{ops:Array Oper}{i d:Nat}{rest:List Nat}{x:Operand}{t:TypeId}{b off:Nat}{v:Value}(G:dr P t)(g:Cell R H ⟨b,off,none⟩ v)(h:U af c R H ((d,v)::st) (.inRegion ops rest::k))
  (z:ops[i]? = some o:=by rfl) (hw:cJ ops st o=some true:=by rfl) (s:(c.kind == CallKind.early)=false:=by rfl) (F:o.op = .load t x:=by rfl) (J:a2 st x=some (.pointer (some ⟨b,off,none⟩)):=by rfl) (f:o.dst=some d:=by rfl) (y:Nat.blt d c.n=true:=by rfl):U af c R H st (.inRegion ops (i::rest)::k) :=
 U.cI z hw s (Ox.gQ F J G g (by rw [f]; exact y) (.put f) h)
theorem U.kn(t:Nat){x b:Bool}{todo:List Item}(hb:x=b)(h:U af c R H ((t,.bool b)::st) todo)(f:st.lookup t=some (.bool x):=by rfl):U af c R H st todo:=U.known f hb h
theorem U.s{ops:Array Oper}{i:Nat}{rest:List Nat}(g:ops[i]? = some o)(hw:cJ ops st o=some true)(h:aJ P B c o R H st λ R' H' aa=>U af c R' H' aa (.inRegion ops rest::k))(f:(c.kind == CallKind.early)=false:=by rfl):U af c R H st (.inRegion ops (i::rest)::k):=U.cI g hw f h
end
abbrev aB:List Nat:=[0]
abbrev aC:List Nat:=[0,1]
abbrev aM:List Nat:=[0,1,2]
abbrev bb:List Nat:=[0,1,2,3]
abbrev bA:List Nat:=[0,1,2,3,4]
abbrev b4:List Nat:=[0,1,2,3,4,5]
abbrev dc:List Nat:=[0,1,2,3,4,5,6]
abbrev cX:List Nat:=[0,1,2,3,4,5,6,7]
abbrev dW:List Nat:=[0,1,2,3,4,5,6,7,8]
abbrev fz:List Nat:=[0,1,2,3,4,5,6,7,8,9]
abbrev hW:List Nat:=[0,1,2,3,4,5,6,7,8,9,10]
abbrev gW:List Nat:=[0,1,2,3,4,5,6,7,8,9,10,11]
abbrev ov:List Nat:=[0,1,2,3,4,5,6,7,8,9,10,11,12]
abbrev ko:List Nat:=[0,1,2,3,4,5,6,7,8,9,10,11,12,13]
abbrev kq:List Nat:=[0,1,2,3,4,5,6,7,8,9,10,11,12,13,14]
abbrev vk:List Nat:=[0,1,2,3,4,5,6,7,8,9,10,11,12,13,14,15]
abbrev rY:List Nat:=[0,1,2,3,4,5,6,7,8,9,10,11,12,13,14,15,16,17]
abbrev Al:List Nat:=[0,1,2,3,4,5,6,7,8,9,10,11,12,13,14,15,16,17,18]
abbrev vl:List Nat:=[0,1,2,3,4,5,6,7,8,9,10,11,12,13,14,15,16,17,18,19]
abbrev KV:List Nat:=[0,1,2,3,4,5,6,7,8,9,10,11,12,13,14,15,16,17,18,19,20]
abbrev KW:List Nat:=[0,1,2,3,4,5,6,7,8,9,10,11,12,13,14,15,16,17,18,19,20,21,22,23]
abbrev KX:List Nat:=[0,1,2,3,4,5,6,7,8,9,10,11,12,13,14,15,16,17,18,19,20,21,22,23,24,25]
abbrev KY:List Nat:=[0,1,2,3,4,5,6,7,8,9,10,11,12,13,14,15,16,17,18,19,20,21,22,23,24,25,26]
abbrev KZ:List Nat:=[0,1,2,3,4,5,6,7,8,9,10,11,12,13,14,15,16,17,18,19,20,21,22,23,24,25,26,27,28,29,30]
abbrev Am:List Nat:=[0,1,2,3,4,5,6,7,8,9,10,11,12,13,14,15,16,17,18,19,20,21,22,23,24,25,26,27,28,29,30,31,32,33]
abbrev K0:List Nat:=[0,1,2,3,4,5,6,7,8,9,10,11,12,13,14,15,16,17,18,19,20,21,22,23,24,25,26,27,28,29,30,31,32,33,34,35,36,37]
abbrev La:List Nat:=[0,1,2,3,4,5,6,7,8,9,10,11,12,13,14,15,16,17,18,19,20,21,22,23,24,25,26,27,28,29,30,31,32,33,34,35,36,37,38,39,40]
abbrev An:List Nat:=[0,1,2,3,4,5,6,7,8,9,10,11,12,13,14,15,16,17,18,19,20,21,22,23,24,25,26,27,28,29,30,31,32,33,34,35,36,37,38,39,40,41,42,43]
section
variable {α:Type} {a qJ sN wq Cj MD ME MF MG x:α} {l l₁ iO:List α}
theorem so(h:List.Sublist l₁ iO):List.Sublist l₁ (a::iO):=h.cons a
theorem sk(h:List.Sublist l₁ iO):List.Sublist (a::l₁) (a::iO):=List.Sublist.cons_cons a h
theorem sr:List.Sublist l l:=.refl _
theorem sn:List.Sublist [] l:=List.nil_sublist _
theorem su(h:List.Sublist l₁ iO):∀ p∈l₁,p∈iO:=λ _ f=>h.subset f
theorem pp:∀ p∈l,p∈l:=λ _ h=>h
theorem z0:x∈x::l:=.head _
theorem z1:x∈a::x::l:=.tail _ z0
theorem z2:x∈a::qJ::x::l:=.tail _ z1
theorem z3:x∈a::qJ::sN::x::l:=.tail _ z2
theorem z4:x∈a::qJ::sN::wq::x::l:=.tail _ z3
theorem z5:x∈a::qJ::sN::wq::Cj::x::l:=.tail _ z4
end
section
variable {P:Program} {B:Base} {main:Bool} {af:Jd P B main} {c:Ctx} {R:ay} {H:aj} {st aa:St} {o:Oper} {k:List Item}
theorem sq{x y:Code}(h:U af c R H st (.code x :: .code y::k)):U af c R H st (.code (.seq x y)::k):=U.seq h
theorem er{ops:Array Oper}(h:U af c R H st k):U af c R H st (.inRegion ops []::k):=U.ds h
theorem es{ops:Array Oper}{x y:Code}(h:U af c R H st (.code x :: .code y::k)):U af c R H st (.inRegion ops [] :: .code (.seq x y)::k):=U.ds (U.seq h)
theorem sg(is:List Nat){id:Nat}{ops:Array Oper}{y:Code}(h:U af c R H st (.inRegion ops is :: .code y::k))(g:ops.size=is.length:=by rfl)(f:List.range is.length=is:=by rfl):U af c R H st (.code (.seq (.region id ops false) y)::k):=U.seq (U.rg is h g f)
theorem nx(is:List Nat){id:Nat}{os ops:Array Oper}{y:Code}(h:U af c R H st (.inRegion ops is :: .code y::k))(g:ops.size=is.length:=by rfl)(f:List.range is.length=is:=by rfl):U af c R H st (.inRegion os [] :: .code (.seq (.region id ops false) y)::k):=U.ds (sg is h g f)
theorem sp(h:U af c R H st k):U af c R H st (.code .skip::k):=U.skip h
theorem vs[jk P](m:Nat){ops:Array Oper}{is f:List Nat}(g:U af c R H aa (.inRegion ops f::k))(h:lG (jk.off P) ops c.n (is.take m) st=some aa:=by rfl)(y:is.drop m=f:=by rfl)(s:(c.kind == CallKind.early)=false:=by rfl):U af c R H st (.inRegion ops is::k):=U.vs m h y g s
theorem ld(j:Nat){ops:Array Oper}{i d:Nat}{rest:List Nat}{x:Operand}{t e:TypeId}{b:Nat}{f:Nat × Nat}{L:List Value}{v:Value}(J:dr P t)(hm:(b,Obj.cells L.toArray e f)∈H)(h:U af c R H ((d,v)::st) (.inRegion ops rest::k))(s:L[j]? = some v:=by rfl)
  (F:ops[i]? = some o:=by rfl) (hw:cJ ops st o=some true:=by rfl) (y:(c.kind == CallKind.early)=false:=by rfl) (G:o.op = .load t x:=by rfl) (M:a2 st x=some (.pointer (some ⟨b,0+j,none⟩)):=by rfl) (g:o.dst=some d:=by rfl) (z:Nat.blt d c.n=true:=by rfl):U af c R H st (.inRegion ops (i::rest)::k) :=
 U.ld J ((aK.box hm).one s) h F hw y G M g z
theorem lN(vs:List Value)(j n:Nat){ops:Array Oper}{i d:Nat}{rest:List Nat}{x:Operand}{t e:TypeId}{b:Nat}{g:Nat × Nat}{L:List Value}{m:Nat}(M:ek P t m)(hm:(b,Obj.cells L.toArray e g)∈H)(h:U af c R H ((d,.agg vs.toArray)::st) (.inRegion ops rest::k))(Q:(L.drop j).take n=vs:=by rfl)
  (G:ops[i]? = some o:=by rfl) (hw:cJ ops st o=some true:=by rfl) (y:(c.kind == CallKind.early)=false:=by rfl) (J:o.op = .load t x:=by rfl) (T:a2 st x=some (.pointer (some ⟨b,0+j,none⟩)):=by rfl) (F:vs.length=m:=by rfl) (f:o.dst=some d:=by rfl) (z:Nat.blt d c.n=true:=by rfl):U af c R H st (.inRegion ops (i::rest)::k) :=
 U.s G hw (Ox.bB J T M F ((aK.box hm).part Q) (by rw [f]; exact z) (.put f) h) y
theorem bx{ops:Array Oper}{i d:Nat}{rest:List Nat}{x:Operand}{t:TypeId}{vs:Array Value}(h:∀ b,U af c R ((b,.cells vs t)::H) ((d,.pointer (some ⟨b,0,none⟩))::st) (.inRegion ops rest::k))
  (z:ops[i]? = some o:=by rfl) (hw:cJ ops st o=some true:=by rfl) (g:(c.kind == CallKind.early)=false:=by rfl) (F:o.op = .box t x:=by rfl) (G:a2 st x=some (.agg vs):=by rfl) (f:o.dst=some d:=by rfl) (y:Nat.blt d c.n=true:=by rfl):U af c R H st (.inRegion ops (i::rest)::k) :=
 U.s z hw (Ox.wo F G (by rw [f]; exact y) λ b _ _=>⟨_,.put f,h b⟩) g
theorem sc{α:Type}{t:Bool}{a b:Option α}{r:α}{x:Operand}{th el:Code}(f:ab t a b=some r)(s:t=true→a=some r→U af c R H st (.code th::k))(y:t=false→b=some r→U af c R H st (.code el::k))(g:a2 st x=some (.bool t):=by rfl):U af c R H st (.code (.cond x th el)::k) :=
 a8 f (λ h f=>U.nm g h (s h f)) (λ h f=>U.nk g h (y h f))
theorem ls{α:Type}{K:bF α}{n:Nat}{ops:Array Oper}{i d:Nat}{rest:List Nat}{x:Operand}{t e:TypeId}{v:Value}{xs:List α}(y:ah K n R v xs)(J:P.underlying t=some (.slice e))(h:U af c R H ((d,.int .i64 (xs.length:Int))::st) (.inRegion ops rest::k))
  (F:ops[i]? = some o:=by rfl) (hw:cJ ops st o=some true:=by rfl) (g:(c.kind == CallKind.early)=false:=by rfl) (G:o.op = .call ⟨.builtin .len,#[x],#[t]⟩:=by rfl) (L:a2 st x=some v:=by rfl) (f:o.dst=some d:=by rfl) (z:Nat.blt d c.n=true:=by rfl):U af c R H st (.inRegion ops (i::rest)::k) :=
 U.s F hw (Ox.iM G L y J (by rw [f]; exact z) (.put f) h) g
theorem lr{α:Type}{K:bF α}{n:Nat}{ops:Array Oper}{i d:Nat}{rest:List Nat}{x:Operand}{t e:TypeId}{v:Value}{xs:List α}{g:aj}(z:bE K n R g v xs)(L:P.underlying t=some (.slice e))(h:U af c R H ((d,.int .i64 (xs.length:Int))::st) (.inRegion ops rest::k))
  (G:ops[i]? = some o:=by rfl) (hw:cJ ops st o=some true:=by rfl) (y:(c.kind == CallKind.early)=false:=by rfl) (J:o.op = .call ⟨.builtin .len,#[x],#[t]⟩:=by rfl) (M:a2 st x=some v:=by rfl) (f:o.dst=some d:=by rfl) (F:Nat.blt d c.n=true:=by rfl):U af c R H st (.inRegion ops (i::rest)::k) :=
 U.s G hw (Ox.ud J M z L (by rw [f]; exact F) (.put f) h) y
theorem rt{fr:Frame}{cs:List Frame}{f:FuncId}{n:Nat}{fn:Func}{vs:List Value}{H':aj}(g:P.funcs[f]? = some fn)(y:gv P R H st fn.results.toList vs)(z:List.Sublist H' H)(s:af.J R H' (bk (fr.finish (hU vs)) cs)):U af ⟨f,.normal,none,n,[],fr::cs⟩ R H st (.code .ret::k) :=
 U.KU g y (J.drop z s)
theorem ts(i:Nat){ops:Array Oper}{n d:Nat}{rem:List Nat}{S:Nat→aj}{v:Value}{N:aj}(D:List Nat)(F:ops[i]? = some o)(g:∀ j∈rem,j≠i→j ∉ D→∀ p∈N,p∈S j)(f:∀ p∈N,p∈H)
  (y:∀ R' H',aH R R'→(∀ p∈N,p∈H')→aJ P B c o R' H' st λ R1 H1 J=>R1=R'∧H1=H'∧J=[(d,v)]) (h:Any af c S ops k n (rem.erase i) R H ((d,v)::st))
  (s:o.dst=some d:=by rfl) (hw:cJ ops st o=some true:=by rfl) (G:gY ops rem i D=true:=by decide +kernel) (z:rem.Nodup:=by decide):Any af c S ops k (n+1) rem R H st :=
 Any.vz D F s hw G g f y (aA.refl _) z rfl h
theorem tl(i j:Nat){ops:Array Oper}{n d:Nat}{rem:List Nat}{x:Operand}{t e:TypeId}{b:Nat}{g:Nat × Nat}{L:List Value}{v:Value}(M:dr P t)(hm:(b,Obj.cells L.toArray e g)∈H)(h:Any af c (λ _=>H) ops k n (rem.erase i) R H ((d,v)::st))(y:L[j]? = some v:=by rfl)
  (G:ops[i]? = some o:=by rfl) (J:o.op = .load t x:=by rfl) (T:a2 st x=some (.pointer (some ⟨b,0+j,none⟩)):=by rfl) (f:o.dst=some d:=by rfl) (z:Nat.blt d c.n=true:=by rfl) (hw:cJ ops st o=some true:=by rfl) (Q:gY ops rem i (o1 ops rem i)=true:=by decide +kernel) (F:rem.Nodup:=by decide):Any af c (λ _=>H) ops k (n+1) rem R H st :=
 Any.tk i G pp (λ _ _ _ s=>Ox.gQ J T M ((aK.box (s _ hm)).one y) (by rw [f]; exact z) (.one f) ⟨rfl,rfl,rfl⟩) h f hw Q F
theorem tN(i:Nat)(vs:List Value)(j m:Nat){ops:Array Oper}{n d:Nat}{rem:List Nat}{x:Operand}{t e:TypeId}{b:Nat}{g:Nat × Nat}{L:List Value}{q:Nat}(M:ek P t q)(hm:(b,Obj.cells L.toArray e g)∈H)(h:Any af c (λ _=>H) ops k n (rem.erase i) R H ((d,.agg vs.toArray)::st))(T:(L.drop j).take m=vs:=by rfl)
  (F:ops[i]? = some o:=by rfl) (G:o.op = .load t x:=by rfl) (V:a2 st x=some (.pointer (some ⟨b,0+j,none⟩)):=by rfl) (J:vs.length=q:=by rfl) (f:o.dst=some d:=by rfl) (y:Nat.blt d c.n=true:=by rfl) (hw:cJ ops st o=some true:=by rfl) (Q:gY ops rem i (o1 ops rem i)=true:=by decide +kernel) (z:rem.Nodup:=by decide):Any af c (λ _=>H) ops k (n+1) rem R H st :=
 Any.tk i F pp (λ _ _ _ s=>Ox.bB G V M J ((aK.box (s _ hm)).part T) (by rw [f]; exact y) (.one f) ⟨rfl,rfl,rfl⟩) h f hw Q z
theorem tw(i j:Nat){S:Nat→aj}{ops:Array Oper}{n:Nat}{rem:List Nat}{a b:Oper}(f:gM af c a R H st λ R' H' aa=>aH R R'∧(∀ p∈S i,p∈H→p∈H')∧Any af c S ops k n (rem.erase i) R' H' aa)
  (g:gM af c b R H st λ R' H' aa=>aH R R'∧(∀ p∈S j,p∈H→p∈H')∧Any af c S ops k n (rem.erase j) R' H' aa) (s:ops[i]? = some a:=by rfl) (hb:ops[j]? = some b:=by rfl) (z:rem.filter (fJ ops rem)=[i,j]:=by decide +kernel) (F:cJ ops st a=some true:=by rfl) (G:cJ ops st b=some true:=by rfl) (y:rem.Nodup:=by decide):Any af c S ops k (n+1) rem R H st :=
 Any.Ma s hb z F G y rfl rfl f g
theorem ka{H X:aj}:∀ p∈H,p∈X→p∈H:=λ _ h _=>h
theorem kp{R:ay}{H X:aj}{C:Prop}(h:C):aH R R∧(∀ p∈H,p∈X→p∈H)∧C:=⟨aH.refl _,ka,h⟩
theorem ku{H H' X:aj}(h:List.Sublist H H'):∀ p∈H,p∈X→p∈H':=λ _ f _=>h.subset f
theorem rr{R:ay}:aH R R:=aH.refl _
end
abbrev CZ:bF Int:=CI .i64
def iu(v:Value)(lo k:Nat):Value:=match v with | .slice A n cap=>.slice (if cap=lo then A else A.map (·.add (lo * k))) (n - lo) (cap - lo) | v=>v
def hD(xs:List Int)(lo:Nat):List Int:=xs.take lo++List.replicate (xs.length - lo) 0
theorem Cr{α:Type}{xs ys:List α}{lo hi:Int}(h:fw xs lo hi=some ys):lo.toNat≤xs.length:=by
 obtain ⟨f,g,s,_⟩:=qX h
 omega
section
variable {P:Program} {B:Base} {main:Bool} {af:Jd P B main} {c:Ctx} {R:ay} {H H':aj} {st aa:St} {o:Oper} {C:ay→aj→St→Prop}
theorem aX.view{α:Type}{K:bF α}{k e:Nat}{v:Value}{xs:List α}{Hs:aj}{lo:Nat}(h:aX K k e R v xs Hs)(F:∀ p∈Hs,p∈H):bE K k R H (iu v lo k) (xs.drop lo):=by
 obtain ⟨A,cap,es,rfl,s,G,hm⟩:=h.rd F
 refine ⟨if cap=lo then A else A.map (·.add (lo * k)),cap - lo,es.drop (lo * k),by simp [iu],s.drop,by simp; omega,λ z=>?_⟩
 have y:lo < xs.length:=by
  apply Classical.byContradiction
  intro J
  exact z (List.drop_eq_nil_of_le (by omega))
 obtain ⟨b,o',rfl,g⟩:=hm (by rintro rfl; simp at y)
 refine ⟨b,o'+lo * k,?_,λ j w f=>?_⟩
 ·rw [if_neg (by omega)]; simp [h0]
 ·rw [List.getElem?_drop] at f
  have:=g _ _ f
  simpa [Nat.add_assoc] using this
theorem aX.Bm{α:Type}{K:bF α}{k t e s:Nat}{v:Value}{xs ys:List α}{Hs:aj}{lo:Int}(h:aX K k e R v xs Hs)(f:fs P t s k)(G:fw xs lo (xs.length:Int)=some ys):oE P t k v (xs.length:Int) lo (xs.length:Int) (iu v lo.toNat k):=by
 obtain ⟨y,z,F,_⟩:=qX G
 obtain ⟨A,cap,es,rfl,T,J,hm⟩:=h.rd (H:=Hs) (λ _ h=>h)
 intro W st x V hi Q M L g
 rw [cm] at g
 rw [M]
 unfold Instr.sliceAt
 refine al.bj (al.underlying f.1) ?_
 unfold Instr.slice
 refine al.bj (al.underlying f.1) (al.bj (vC Q L g ⟨y,z,F⟩ J) (al.bj f.2 ?_))
 simp only [iu,cm]
 exact al.bc _
theorem aX.front{α:Type}{K:bF α}{k t e G:Nat}{v:Value}{xs ys:List α}{Hs:aj}{hi:Int}(h:aX K k e R v xs Hs)(g:fs P t G k)(Y:fw xs 0 hi=some ys):∃ F,aX K k e R F ys Hs∧oE P t k v (xs.length:Int) 0 hi F:=by
 obtain ⟨V,W,s,rfl⟩:=qX Y
 have key:∀ A cap,v = .slice A xs.length cap→xs.length≤cap→oE P t k v (xs.length:Int) 0 hi (.slice (if cap=0 then A else A.map (·.add (0 * k))) (hi.toNat - 0) (cap - 0)):=by
  rintro A cap rfl Z ak st x ag ae ad ac ab y
  rw [cm] at y
  rw [ac]
  unfold Instr.sliceAt
  refine al.bj (al.underlying g.1) ?_
  unfold Instr.slice
  exact al.bj (al.underlying g.1) (al.bj (vC ad ab y ⟨V,W,s⟩ Z) (al.bj g.2 (al.bc _)))
 rcases h with ⟨A,rfl,rfl,rfl⟩ | ⟨b,cap,cs,es,rfl,rfl,J,L,M,Q⟩
 ·have:=key A 0 rfl (ct _)
  have T:hi.toNat=0:=by simp at s; omega
  rw [T] at this
  exact ⟨_,.inl ⟨A,rfl,by simp,rfl⟩,by simpa using this⟩
 ·refine ⟨_,?_,key _ cap rfl L⟩
  have z:((xs.take hi.toNat).drop (0:Int).toNat).length=hi.toNat:=by simp; omega
  refine .inr ⟨b,cap,cs,es.take (hi.toNat * k),?_,rfl,J,by rw [z]; omega,by simpa using M.take,λ j w f=>?_⟩
  ·rw [z]
   congr 1
   split <;> simp [h0]
  ·rw [List.getElem?_take] at f
   split at f
   ·exact Q _ _ f
   ·cases f
theorem Ox.GL{α:Type}{K:bF α}{k f lo:Nat}{x:Operand}{t e:TypeId}{v:Value}{xs:List α}{Hs:aj}(y:o.op = .call ⟨.builtin .len,#[x],#[t]⟩)(G:a2 st x=some (iu v lo k))(s:aX K k f R v xs Hs)(F:P.underlying t=some (.slice e))
  (g:bQ o.dst c.n) (z:aA (bJ o.dst (.int .i64 ((xs.drop lo).length:Int)) st) aa) (h:C R H aa):aJ P B c o R H st C :=
 Ox.ud y G (s.view (H:=Hs) (λ _ h=>h)) F g z h
theorem Ox.Cn{t e lo:Nat}(G:aj→aj){x:Operand}{v:Value}{xs:List Int}{Hs:aj}(T:o.op = .call ⟨.builtin .clear,#[x],#[t]⟩)(s:a2 st x=some (iu v lo 1))(av:fs P t e 1)(aw:dH P e #[.int .i64 0])(ad:eu G)
  (z:aX (CI .i64) 1 e R v xs Hs) (aC:lo≤xs.length) (ag:bQ o.dst c.n) (ab:∀ g,aX (CI .i64) 1 e R v (hD xs lo) g→∃ aa,aA (bJ o.dst (.tuple #[]) st) aa∧C R (G g) aa):aJ P B c o R (G Hs) st C:=by
 refine ⟨by rw [T]; rfl,ag,λ V aB=>?_⟩
 simp only [execOp,T]
 refine al.bV (a:=⟨.builtin .clear #[t] o.type (#[x].map λ | .const _=>true | _=>false),#[x].map V⟩) (al.bc _) ?_
 simp only [invoke,builtin]
 have e1:(#[x].map V)=#[iu v lo 1]:=by simp [aB x _ s]
 rw [e1]
 have fin:∀ g,aX (CI .i64) 1 e R v (hD xs lo) g→aE P B R (G g) (pure (Value.tuple #[])) λ a R' H'=>aE P B R' H' (pure (Next.value a)) λ nx R' H'=>∃ v,(nx = .value v∨(nx = .skip∧v=undef))∧∃ aa,aA (bJ o.dst v st) aa∧C R' H' aa:=λ g h=>by
  obtain ⟨aa,au,ac⟩:=ab g h
  exact aE.bR (aE.bR ⟨_,.inl rfl,aa,au,ac⟩)
 refine aE.bK ?_
 unfold Builtin.clear_
 refine al.bV (al.underlying av.1) ?_
 by_cases J:xs.length - lo=0
 ·have y:∃ A cap,iu v lo 1 = .slice A 0 cap:=by
   obtain ⟨A,cap,es,rfl,_⟩:=z.rd (H:=Hs) (λ _ h=>h)
   exact ⟨_,_,by simp only [iu,J]; rfl⟩
  obtain ⟨A,cap,y⟩:=y
  rw [y]
  have ae:hD xs lo=xs:=by
   unfold hD
   rw [J,List.replicate_zero,List.append_nil,List.take_of_length_le (by omega)]
  rw [ae] at fin
  cases A with
  | none=>exact aE.bK (aE.bR (fin Hs z))
  | some a=>exact aE.bK (aE.bR (fin Hs z))
 ·rcases z with ⟨A,rfl,rfl,rfl⟩ | ⟨b,cap,cs,es,rfl,rfl,W,Y,L,Z⟩
  ·simp at J
  ·have y:iu (.slice (some ⟨b,0,none⟩) xs.length cap) lo 1 = .slice (some ⟨b,lo,none⟩) (xs.length - lo) (cap - lo):=by
    simp only [iu]
    rw [if_neg (by omega)]
    simp [h0]
   rw [y]
   obtain ⟨m,hm⟩:∃ m,xs.length - lo=m+1:=⟨xs.length - lo - 1,by omega⟩
   rw [hm]
   dsimp only
   obtain ⟨z0,ax,az⟩:=aw
   refine al.bV ax (aE.bK ?_)
   have ar:(Builtin.zeroCells z0.cells (m+1)).toList=List.replicate (m+1) (Value.int .i64 0):=by
    rw [az]
    apply List.ext_getElem?
    intro j
    simp only [Builtin.zeroCells]
    by_cases f:j < m+1
    ·simp [f,Nat.mod_one]
    ·simp [f]
   rw [ar]
   have aF:lo+(m+1)≤cs.size:=by omega
   refine aE.given λ aq=>aE.qh _ cs lo 0 (G [(b,.cells cs e (0,0))]) (G [(b,.cells (dD cs lo (List.replicate (m+1) (Value.int .i64 0))) e (0,0))]) (λ u hu=>by rw [List.eq_of_mem_replicate hu]; rfl) (by simp; omega) (by simpa using eu.set ad) aq ?_
   have Q:(hD xs lo).length=xs.length:=by simp [hD]; omega
   refine fin _ (.inr ⟨b,cap,dD cs lo (List.replicate (m+1) (Value.int .i64 0)),es.take lo++List.replicate (m+1) (Value.int .i64 0),by rw [Q],rfl,by rw [qb]; exact W,by rw [Q]; exact Y,?_,λ j w f=>?_⟩)
   ·have M:=L.take (n:=lo)
    rw [Nat.mul_one] at M
    unfold hD
    rw [hm]
    refine M.append ?_
    refine ⟨by simp,λ i x s=>?_⟩
    rw [List.getElem?_replicate] at s
    split at s
    ·rename_i hi
     cases s
     refine ⟨[.int .i64 0],rfl,rfl,λ j w f=>?_⟩
     have an:=(ep.1 f).1
     have am:j=0:=by simp at an; omega
     subst am
     rw [Nat.mul_one,List.getElem?_replicate,if_pos (by omega)]
     exact f
    ·cases s
   ·have ak:=L.len
    rw [Nat.mul_one] at ak
    rw [lE _ _ _ _ (by simp; omega)]
    rcases Nat.lt_or_ge j lo with F | F
    ·rw [fU (by simp; omega),List.getElem?_take,if_pos F] at f
     rw [if_neg (by omega)]
     exact Z _ _ f
    ·rw [fC (by simp; omega)] at f
     have ap:(es.take lo).length=lo:=by simp; omega
     rw [ap] at f
     have ao:=(ep.1 f).1
     rw [if_pos ⟨F,by simp at ao ⊢; omega⟩]
     exact f
end
def ag{α:Type}(a b:Option α):Prop:=∀ r,a=some r→b=some r
theorem ag.bp{α:Type}(a:Option α):ag a a:=λ _ h=>h
theorem ag.none{α:Type}{b:Option α}:ag none b:=λ _ h=>by cases h
theorem ag.bs{α β:Type}{a s:Option α}{f y:α→Option β}(h:ag a s)(z:∀ x,ag (f x) (y x)):ag (a.bind f) (s.bind y):=by
 intro r g
 obtain ⟨x,F,g⟩:=ae g
 rw [h x F]
 exact z x r g
theorem ag.ab{α:Type}{t:Bool}{a f b b':Option α}(h:ag a f)(g:ag b b'):ag (ab t a b) (ab t f b'):=by
 cases t
 ·exact g
 ·exact h
def iN{S O:Type}(body:S→Option (S ⊕ O))(s:S):Option O:=fH body 200 s
theorem ag.fH{S O:Type}{body g:S→Option (S ⊕ O)}(h:∀ s,ag (body s) (g s)):∀ (n:Nat) (s:S),ag (Go.Lg.fH body n s) (a1 g s)
 | 0,_=>λ _ f=>by cases f
 | n+1,s=>λ r f=>by
  simp only [Go.Lg.fH] at f
  cases hb:body s with
  | none=>rw [hb] at f; cases f
  | some x =>
   rw [hb] at f
   have y:=h s x hb
   cases x with
   | inl s'=>rw [gC y]; exact ag.fH h n s' r f
   | inr o=>cases f; exact dO y
theorem ag.dv{S O:Type}{body f:S→Option (S ⊕ O)}{s:S}(h:∀ s,ag (body s) (f s)):ag (iN body s) (a1 f s):=ag.fH h 200 s
theorem ag.ez{α β y:Type}{f s:α→Option y}{g g':β→Option y}(h:∀ x,ag (f x) (s x))(z:∀ x,ag (g x) (g' x))(x:α ⊕ β):ag (Sum.elim f g x) (Sum.elim s g' x):=by
 cases x
 ·exact h _
 ·exact z _
theorem ag.cp{α S O:Type}{f F:α→S→Option (S ⊕ O)}(h:∀ x s,ag (f x s) (F x s))(x:α)(s:S ⊕ O):ag (Go.Lg.cp f x s) (Go.Lg.cp F x s):=by
 intro r g
 cases s with
 | inr s=>cases g
 | inl s =>
  simp only [Go.Lg.cp] at g ⊢
  cases y:f x s with
  | none=>rw [y] at g; cases g
  | some z=>rw [y] at g; rw [h x s z y]; exact g
theorem ag.mapM{α β:Type}{f z:α→Option β}(h:∀ x,ag (f x) (z x)):∀ l:List α,ag (l.mapM f) (l.mapM z)
 | []=>ag.bp _
 | a::l=>by
  intro r g
  rw [List.mapM_cons] at g ⊢
  cases s:f a with
  | none=>rw [s] at g; simp at g
  | some b =>
   cases y:l.mapM f with
   | none=>rw [s,y] at g; simp at g
   | some F =>
    rw [s,y] at g
    rw [h a b s,ag.mapM h l F y]
    exact g
abbrev aw:Value:=.slice none 0 0
theorem br{α β:Sort _}{a:α}{b:β}:a=a∧b=b:=⟨rfl,rfl⟩
theorem aG{α β f:Sort _}{a:α}{b:β}{d:f}:a=a∧b=b∧d=d:=⟨rfl,rfl,rfl⟩
theorem aq{st aa:St}(h:cV st aa):aA st aa:=cV.sub h
theorem eD{f:Option Value}:f=f∧True:=⟨rfl,trivial⟩
theorem cg{f g:Option Value}:f=f∧g=g∧True:=⟨rfl,rfl,trivial⟩
theorem du{f g s:Option Value}:f=f∧g=g∧s=s∧True:=⟨rfl,rfl,rfl,trivial⟩
theorem bt{f g s y:Option Value}:f=f∧g=g∧s=s∧y=y∧True:=⟨rfl,rfl,rfl,rfl,trivial⟩
theorem b2{f g s y z:Option Value}:f=f∧g=g∧s=s∧y=y∧z=z∧True:=⟨rfl,rfl,rfl,rfl,rfl,trivial⟩
theorem cS{f g s y z F:Option Value}:f=f∧g=g∧s=s∧y=y∧z=z∧F=F∧True:=⟨rfl,rfl,rfl,rfl,rfl,rfl,trivial⟩
theorem fc{f g s y z F G:Option Value}:f=f∧g=g∧s=s∧y=y∧z=z∧F=F∧G=G∧True:=⟨rfl,rfl,rfl,rfl,rfl,rfl,rfl,trivial⟩
theorem ij{f g s y z F G J:Option Value}:f=f∧g=g∧s=s∧y=y∧z=z∧F=F∧G=G∧J=J∧True:=⟨rfl,rfl,rfl,rfl,rfl,rfl,rfl,rfl,trivial⟩
theorem hl{f g s y z F G J L:Option Value}:f=f∧g=g∧s=s∧y=y∧z=z∧F=F∧G=G∧J=J∧L=L∧True:=⟨rfl,rfl,rfl,rfl,rfl,rfl,rfl,rfl,rfl,trivial⟩
theorem mS{f g s y z F G J L M:Option Value}:f=f∧g=g∧s=s∧y=y∧z=z∧F=F∧G=G∧J=J∧L=L∧M=M∧True:=⟨rfl,rfl,rfl,rfl,rfl,rfl,rfl,rfl,rfl,rfl,trivial⟩
theorem fN{f g y z F G J L M Q s:Option Value}:f=f∧g=g∧y=y∧z=z∧F=F∧G=G∧J=J∧L=L∧M=M∧Q=Q∧s=s∧True:=⟨rfl,rfl,rfl,rfl,rfl,rfl,rfl,rfl,rfl,rfl,rfl,trivial⟩
theorem iW{f g z F G J L M Q T s y:Option Value}:f=f∧g=g∧z=z∧F=F∧G=G∧J=J∧L=L∧M=M∧Q=Q∧T=T∧s=s∧y=y∧True:=⟨rfl,rfl,rfl,rfl,rfl,rfl,rfl,rfl,rfl,rfl,rfl,rfl,trivial⟩
section
variable {P:Program} {B:Base} {main:Bool} {af:Jd P B main} {c:Ctx} {R:ay} {H:aj} {st aa:St} {o:Oper} {k:List Item} {ops:Array Oper} {i d:Nat} {rest:List Nat} {t e:TypeId}
theorem bX{x y:Operand}{v:Value}{kd:IntKind}{j:Int}{b n:Nat}(J:kx P t v j b n)(h:U af c R H ((d,.pointer (some ⟨b,n,none⟩))::st) (.inRegion ops rest::k))(F:ops[i]? = some o:=by rfl)(hw:cJ ops st o=some true:=by rfl)(g:(c.kind == CallKind.early)=false:=by rfl)
  (G:o.op = .indexAddr t x y:=by rfl) (L:a2 st x=some v:=by rfl) (M:a2 st y=some (.int kd j):=by rfl) (f:o.dst=some d:=by rfl) (z:Nat.blt d c.n=true:=by rfl):U af c R H st (.inRegion ops (i::rest)::k) :=
 U.s F hw (Ox.rj G L M J (by rw [f]; exact z) (.put f) h) g
theorem bu(cs:Array Value)(G:dH P t cs)(h:∀ b,U af c R ((b,.cells cs t)::H) ((d,.pointer (some ⟨b,0,none⟩))::st) (.inRegion ops rest::k))(z:ops[i]? = some o:=by rfl)(hw:cJ ops st o=some true:=by rfl)(g:(c.kind == CallKind.early)=false:=by rfl)
  (F:o.op = .alloc t:=by rfl) (f:o.dst=some d:=by rfl) (y:Nat.blt d c.n=true:=by rfl):U af c R H st (.inRegion ops (i::rest)::k) :=
 U.s z hw (Ox.alloc F G (by rw [f]; exact y) λ b _ _=>⟨_,.put f,h b⟩) g
theorem cF(cells:Array Value){parts:Array (Nat × Operand)}{g:List (Nat × Value)}{places:List (Nat × Nat)}{z:Array Value}(Q:fE P t places z)(h:U af c R H ((d,.agg cells)::st) (.inRegion ops rest::k))(J:ops[i]? = some o:=by rfl)(hw:cJ ops st o=some true:=by rfl)(F:(c.kind == CallKind.early)=false:=by rfl)
  (L:o.op = .build t parts:=by rfl) (M:lD st parts.toList=some g:=by rfl) (y:Instr.fill (places.toArray[·]?) z g=some cells:=by repeat first | refine ca rfl rfl rfl rfl ?_ | exact cE) (f:o.dst=some d:=by rfl) (G:Nat.blt d c.n=true:=by rfl):U af c R H st (.inRegion ops (i::rest)::k) :=
 U.s J hw (Ox.build L Q M y (by rw [f]; exact G) (.put f) h) F
theorem dt(cells:Array Value){n len:Nat}{parts:Array (Nat × Operand)}{g:List (Nat × Value)}{z base:Array Value}(Q:iz P t e n z)(hb:(Array.range (len * n)).map (z[· % z.size]!)=base)(h:∀ b,U af c R ((b,.cells cells e)::H) ((d,.slice (some ⟨b,0,none⟩) len len)::st) (.inRegion ops rest::k))
  (J:ops[i]? = some o:=by rfl) (hw:cJ ops st o=some true:=by rfl) (F:(c.kind == CallKind.early)=false:=by rfl) (L:o.op = .buildSlice t len parts:=by rfl) (M:lD st parts.toList=some g:=by rfl) (hlen:len * n≤16777216:=by decide) (y:Instr.fill (λ j=>some (j * n,n)) base g=some cells:=by repeat first | refine ca rfl rfl rfl rfl ?_ | exact cE) (f:o.dst=some d:=by rfl) (G:Nat.blt d c.n=true:=by rfl):U af c R H st (.inRegion ops (i::rest)::k) :=
 U.s J hw (Ox.buildSlice L Q M hlen hb y (by rw [f]; exact G) λ b _ _=>⟨_,.put f,h b⟩) F
theorem eC(cs':Array Value){x y:Operand}{b off:Nat}{v:Value}{cs:Array Value}{H':aj}(M:dr P t)(L:cU H b (.cells cs e (0,0)) (.cells cs' e (0,0)) H')(h:U af c R H' st (.inRegion ops rest::k))(G:ops[i]? = some o:=by rfl)(hw:cJ ops st o=some true:=by rfl)(z:(c.kind == CallKind.early)=false:=by rfl)
  (J:o.op = .store t x y:=by rfl) (T:a2 st x=some (.pointer (some ⟨b,off,none⟩)):=by rfl) (V:a2 st y=some v:=by rfl) (Q:v.oneCell'=true:=by rfl) (F:Nat.blt off cs.size=true:=by rfl) (f:cs.setIfInBounds off v=cs':=by rfl) (g:o.dst=none:=by rfl):U af c R H st (.inRegion ops (i::rest)::k) :=
 U.s G hw (Ox.dE J T V M Q L F f g (.refl _) h) z
theorem bC(cs':Array Value){x y:Operand}{b off n:Nat}{vs cs:Array Value}{H':aj}(T:ek P t n)(Q:cU H b (.cells cs e (0,0)) (.cells cs' e (0,0)) H')(h:U af c R H' st (.inRegion ops rest::k))(L:ops[i]? = some o:=by rfl)(hw:cJ ops st o=some true:=by rfl)(F:(c.kind == CallKind.early)=false:=by rfl)
  (M:o.op = .store t x y:=by rfl) (V:a2 st x=some (.pointer (some ⟨b,off,none⟩)):=by rfl) (W:a2 st y=some (.agg vs):=by rfl) (J:vs.size=n:=by rfl) (f:∀ u∈vs.toList,u.oneCell'=true:=by repeat first | exact bl | refine aW rfl ?_ | refine aW (ah.one (by assumption)) ?_ | refine aW (bE.one (by assumption)) ?_ | refine aW (aX.one (by assumption)) ?_ | refine aW (gL.one (by assumption)) ?_ | refine aW (gu.one (by assumption)) ?_ | refine aW (eI.one (by assumption)) ?_) (G:Nat.ble (off+n) cs.size=true:=by rfl) (g:dD cs off vs.toList=cs':=by rfl) (z:o.dst=none:=by rfl):U af c R H st (.inRegion ops (i::rest)::k) :=
 U.s L hw (Ox.cG M V W T J f Q G g z (.refl _) h) F
theorem hQ{x:Operand}{u:TypeId}{kd M L:IntKind}{a:Int}(G:P.underlying t=some (.int L))(hu:P.underlying u=some (.int kd))(h:U af c R H ((d,.int kd (kd.wrap a))::st) (.inRegion ops rest::k))(z:ops[i]? = some o:=by rfl)(hw:cJ ops st o=some true:=by rfl)(g:(c.kind == CallKind.early)=false:=by rfl)
  (F:o.op = .convert t u x:=by rfl) (J:a2 st x=some (.int M a):=by rfl) (f:o.dst=some d:=by rfl) (y:Nat.blt d c.n=true:=by rfl):U af c R H st (.inRegion ops (i::rest)::k) :=
 U.s z hw (Ox.xj F J G hu (by rw [f]; exact y) (.put f) h) g
end
abbrev pT(b:Nat):Value:=.pointer (some ⟨b,0,none⟩)
abbrev bW(l:List Bool):Array Value:=List.toArray ([]++(l.map Value.bool++[]))
abbrev f16:List Bool:=[false,false,false,false,false,false,false,false,false,false,false,false,false,false,false,false]
theorem au{α:Type}{a b:α}(h:some a=some b):b=a:=(ey h).symm
theorem vK{α:Type}{P:Program}{s:Sem α}{a:α}(h:∀ w,(s.run P w,s.events P w #[])=(.ok a w,#[])):al P s a:=λ w=>⟨congrArg Prod.fst (h w),congrArg Prod.snd (h w)⟩
section
variable {A1:Type} {K1:bF A1} [CM K1] {k1:Nat} {v1:Value} {x1:List A1} {A2:Type} {K2:bF A2} [CM K2] {k2:Nat} {v2:Value} {x2:List A2} {A3:Type} {K3:bF A3} [CM K3] {k3:Nat} {v3:Value} {x3:List A3} {A4:Type} {K4:bF A4} [CM K4] {k4:Nat} {v4:Value} {x4:List A4} {A5:Type} {K5:bF A5} [CM K5] {k5:Nat} {v5:Value} {x5:List A5} {A6:Type} {K6:bF A6} [CM K6] {k6:Nat} {v6:Value} {x6:List A6} {A7:Type} {K7:bF A7} [CM K7] {k7:Nat} {v7:Value} {x7:List A7} {A8:Type} {K8:bF A8} [CM K8] {k8:Nat} {v8:Value} {x8:List A8} {A9:Type} {K9:bF A9} [CM K9] {k9:Nat} {v9:Value} {x9:List A9} {R R':ay}
theorem dC(h:aH R R')(f:ah K1 k1 R v1 x1)(g:ah K2 k2 R v2 x2):ah K1 k1 R' v1 x1∧ah K2 k2 R' v2 x2:=⟨f.mono h,g.mono h⟩
theorem cH(h:aH R R')(f:ah K1 k1 R v1 x1)(g:ah K2 k2 R v2 x2)(s:ah K3 k3 R v3 x3):ah K1 k1 R' v1 x1∧ah K2 k2 R' v2 x2∧ah K3 k3 R' v3 x3:=⟨f.mono h,g.mono h,s.mono h⟩
theorem di(h:aH R R')(f:ah K1 k1 R v1 x1)(g:ah K2 k2 R v2 x2)(s:ah K3 k3 R v3 x3)(y:ah K4 k4 R v4 x4):ah K1 k1 R' v1 x1∧ah K2 k2 R' v2 x2∧ah K3 k3 R' v3 x3∧ah K4 k4 R' v4 x4:=⟨f.mono h,g.mono h,s.mono h,y.mono h⟩
theorem oe(h:aH R R')(f:ah K1 k1 R v1 x1)(g:ah K2 k2 R v2 x2)(s:ah K3 k3 R v3 x3)(y:ah K4 k4 R v4 x4)(z:ah K5 k5 R v5 x5):ah K1 k1 R' v1 x1∧ah K2 k2 R' v2 x2∧ah K3 k3 R' v3 x3∧ah K4 k4 R' v4 x4∧ah K5 k5 R' v5 x5:=⟨f.mono h,g.mono h,s.mono h,y.mono h,z.mono h⟩
theorem hP(h:aH R R')(f:ah K1 k1 R v1 x1)(g:ah K2 k2 R v2 x2)(s:ah K3 k3 R v3 x3)(y:ah K4 k4 R v4 x4)(z:ah K5 k5 R v5 x5)(F:ah K6 k6 R v6 x6):ah K1 k1 R' v1 x1∧ah K2 k2 R' v2 x2∧ah K3 k3 R' v3 x3∧ah K4 k4 R' v4 x4∧ah K5 k5 R' v5 x5∧ah K6 k6 R' v6 x6:=⟨f.mono h,g.mono h,s.mono h,y.mono h,z.mono h,F.mono h⟩
theorem jF(h:aH R R')(f:ah K1 k1 R v1 x1)(g:ah K2 k2 R v2 x2)(s:ah K3 k3 R v3 x3)(y:ah K4 k4 R v4 x4)(z:ah K5 k5 R v5 x5)(F:ah K6 k6 R v6 x6)(G:ah K7 k7 R v7 x7):ah K1 k1 R' v1 x1∧ah K2 k2 R' v2 x2∧ah K3 k3 R' v3 x3∧ah K4 k4 R' v4 x4∧ah K5 k5 R' v5 x5∧ah K6 k6 R' v6 x6∧ah K7 k7 R' v7 x7:=⟨f.mono h,g.mono h,s.mono h,y.mono h,z.mono h,F.mono h,G.mono h⟩
theorem og(h:aH R R')(f:ah K1 k1 R v1 x1)(g:ah K2 k2 R v2 x2)(s:ah K3 k3 R v3 x3)(y:ah K4 k4 R v4 x4)(z:ah K5 k5 R v5 x5)(F:ah K6 k6 R v6 x6)(G:ah K7 k7 R v7 x7)(J:ah K8 k8 R v8 x8):ah K1 k1 R' v1 x1∧ah K2 k2 R' v2 x2∧ah K3 k3 R' v3 x3∧ah K4 k4 R' v4 x4∧ah K5 k5 R' v5 x5∧ah K6 k6 R' v6 x6∧ah K7 k7 R' v7 x7∧ah K8 k8 R' v8 x8:=⟨f.mono h,g.mono h,s.mono h,y.mono h,z.mono h,F.mono h,G.mono h,J.mono h⟩
theorem JM(h:aH R R')(f:ah K1 k1 R v1 x1)(g:ah K2 k2 R v2 x2)(s:ah K3 k3 R v3 x3)(y:ah K4 k4 R v4 x4)(z:ah K5 k5 R v5 x5)(F:ah K6 k6 R v6 x6)(G:ah K7 k7 R v7 x7)(J:ah K8 k8 R v8 x8)(L:ah K9 k9 R v9 x9):ah K1 k1 R' v1 x1∧ah K2 k2 R' v2 x2∧ah K3 k3 R' v3 x3∧ah K4 k4 R' v4 x4∧ah K5 k5 R' v5 x5∧ah K6 k6 R' v6 x6∧ah K7 k7 R' v7 x7∧ah K8 k8 R' v8 x8∧ah K9 k9 R' v9 x9:=⟨f.mono h,g.mono h,s.mono h,y.mono h,z.mono h,F.mono h,G.mono h,J.mono h,L.mono h⟩
end
section
variable {P:Program} {B:Base} {main:Bool} {af:Jd P B main} {c:Ctx} {R:ay} {H:aj} {st aa:St} {o:Oper} {k:List Item} {ops:Array Oper} {i d n:Nat} {rest rem:List Nat} {t e:TypeId}
theorem aY{f:FuncId}{fn:Func}{body:Code}{args:List Value}{bP:Value→ay→aj→Prop}(g:P.funcs[f]? = some fn)(n:Nat)
  (h:∀ fr cs,(∀ v R' H',bP v R' H'→af.J R' H' (bk (fr.finish v) cs))→U af ⟨f,.normal,none,n,[],fr::cs⟩ R H (lU 0 args) [.code body]) (hb:fn.body=some body:=by rfl) (y:fn.ntmps=n:=by rfl) (s:Nat.ble args.length n=true:=by rfl):aL af f args.toArray R H bP:=aL.rQ g hb y s h
theorem kI{N:aj}{x y:Operand}{v:Value}{kd:IntKind}{j:Int}{b m:Nat}(z:kx P t v j b m)(s:o.op = .indexAddr t x y:=by rfl)(F:a2 st x=some v:=by rfl)(G:a2 st y=some (.int kd j):=by rfl)(f:o.dst=some d:=by rfl)(g:Nat.blt d c.n=true:=by rfl) :
  ∀ R' H',aH R R'→(∀ p∈N,p∈H')→aJ P B c o R' H' st λ R1 H1 J=>R1=R'∧H1=H'∧J=[(d,.pointer (some ⟨b,m,none⟩))] :=
 λ _ _ _ _=>Ox.rj s F G z (by rw [f]; exact g) (.one f) ⟨rfl,rfl,rfl⟩
theorem kA{N f:aj}{x:Operand}{b q:Nat}{v:Value}{L:List Value}(Q:dr P t)(j:Nat)(F:aK R f b q L)(s:∀ p∈f,p∈N)(G:L[j]? = some v:=by rfl)(M:o.op = .load t x:=by rfl)(T:a2 st x=some (.pointer (some ⟨b,q+j,none⟩)):=by rfl)(g:o.dst=some d:=by rfl)(J:Nat.blt d c.n=true:=by rfl) :
  ∀ R' H',aH R R'→(∀ p∈N,p∈H')→aJ P B c o R' H' st λ R1 H1 V=>R1=R'∧H1=H'∧V=[(d,v)] :=
 λ _ _ y z=>Ox.gQ M T Q (((F.le y).sub λ p h=>z p (s p h)).one G) (by rw [g]; exact J) (.one g) ⟨rfl,rfl,rfl⟩
theorem kU{N:aj}{x:Operand}{b q:Nat}{v:Value}{L:List Value}(G:dr P t)(j:Nat)(s:aK R [] b q L)(y:L[j]? = some v:=by rfl)(F:o.op = .load t x:=by rfl)(J:a2 st x=some (.pointer (some ⟨b,q+j,none⟩)):=by rfl)(f:o.dst=some d:=by rfl)(z:Nat.blt d c.n=true:=by rfl) :
  ∀ R' H',aH R R'→(∀ p∈N,p∈H')→aJ P B c o R' H' st λ R1 H1 M=>R1=R'∧H1=H'∧M=[(d,v)] :=
 λ _ _ g _=>Ox.gQ F J G ((s.up g).one y) (by rw [f]; exact z) (.one f) ⟨rfl,rfl,rfl⟩
theorem kX{N:aj}{x:Operand}{b:Nat}{v:Value}{L:List Value}{g:Nat × Nat}(G:dr P t)(j:Nat)(hm:(b,Obj.cells L.toArray e g)∈N)(y:L[j]? = some v:=by rfl)(F:o.op = .load t x:=by rfl)(J:a2 st x=some (.pointer (some ⟨b,0+j,none⟩)):=by rfl)(f:o.dst=some d:=by rfl)(z:Nat.blt d c.n=true:=by rfl) :
  ∀ R' H',aH R R'→(∀ p∈N,p∈H')→aJ P B c o R' H' st λ R1 H1 M=>R1=R'∧H1=H'∧M=[(d,v)] :=
 λ _ _ _ s=>Ox.gQ F J G ((aK.box (s _ hm)).one y) (by rw [f]; exact z) (.one f) ⟨rfl,rfl,rfl⟩
section
variable {N:aj} {m:Nat} {v:Value}
theorem tQ(i:Nat)(y:ops[i]? = some o)(g:∀ R' H',aH R R'→(∀ p∈N,p∈H')→aJ P B c o R' H' st λ R1 H1 F=>R1=R'∧H1=H'∧F=[(d,v)])(h:Any af c (λ _=>N) ops k m (rem.erase i) R N ((d,v)::st))
  (f:o.dst=some d:=by rfl) (hw:cJ ops st o=some true:=by rfl) (z:gY ops rem i (o1 ops rem i)=true:=by decide +kernel) (s:rem.Nodup:=by decide):Any af c (λ _=>N) ops k (m+1) rem R N st:=Any.tk i y pp g h f hw z s
end
theorem oW(i:Nat){S:Nat→aj}{m n b:Nat}{x y:Operand}{l:List Bool}{cs:Array Value}{H':aj}(Q:ek P t n)(f:l.length=n)(M:cU H b (.cells cs e (0,0)) (.cells (bW l) e (0,0)) H')(s:∀ p∈S i,p∈H→p∈H')(h:Any af c S ops k m (rem.erase i) R H' st)(G:ops[i]? = some o:=by rfl)(hw:cJ ops st o=some true:=by rfl)
  (J:o.op = .store t x y:=by rfl) (T:a2 st x=some (.pointer (some ⟨b,0,none⟩)):=by rfl) (V:a2 st y=some (.agg (bW l)):=by rfl) (g:cs.size=n:=by simp) (z:o.dst=none:=by rfl) (L:rem.filter (fJ ops rem)=[i]:=by decide +kernel) (F:rem.Nodup:=by decide):Any af c S ops k (m+1) rem R H st :=
 Any.on i G hw (aJ.to (Ox.cG J T V Q (by simp [f]) (cj bl (cj (ej λ _=>rfl) bl)) M (by simp [g]) (eo (by simp [f,g])) z (.refl _) ⟨rr,s,h⟩)) L F
theorem oS(i:Nat)(cs':Array Value){S:Nat→aj}{m b off:Nat}{x y:Operand}{v:Value}{cs:Array Value}{H':aj}(Q:dr P t)(M:cU H b (.cells cs e (0,0)) (.cells cs' e (0,0)) H')(f:∀ p∈S i,p∈H→p∈H')(h:Any af c S ops k m (rem.erase i) R H' st)(G:ops[i]? = some o:=by rfl)(hw:cJ ops st o=some true:=by rfl)
  (J:o.op = .store t x y:=by rfl) (V:a2 st x=some (.pointer (some ⟨b,off,none⟩)):=by rfl) (W:a2 st y=some v:=by rfl) (T:v.oneCell'=true:=by rfl) (z:Nat.blt off cs.size=true:=by rfl) (g:cs.setIfInBounds off v=cs':=by rfl) (s:o.dst=none:=by rfl) (L:rem.filter (fJ ops rem)=[i]:=by decide +kernel) (F:rem.Nodup:=by decide):Any af c S ops k (m+1) rem R H st :=
 Any.on i G hw (aJ.to (Ox.dE J V W Q T M z g s (.refl _) ⟨rr,f,h⟩)) L F
theorem eB{α:Type}{K:bF α}{q cap b:Nat}{es:List Value}{cs:Array Value}{f:Nat × Nat}{tl:aj}(x:α)(g:K R x es)(s:es.length=q:=by rfl)(he:es++[]=cs.toList:=by rfl):e4 K q R ((b,Obj.cells cs e f)::tl) (.slice (some ⟨b,0,none⟩) 1 cap) [x] :=
 e4.lit z0 (aO.le (aO.cons g s aO.nil) he) rfl
end
end Go.Lg
