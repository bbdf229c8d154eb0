/- What enters and leaves the machine; the run of a row. Conditions: none. -/
import Derived.Test.YtihapemckcdicaaGreatDoorQYLgC
import Derived.Test.YtihapemckcdicaaGreatDoorQYLgB
import Derived.Test.YtihapemckcdicaaGreatDoorQYLgD
import Derived.Conc.AtomicLaws2
import Derived.Conc.ClockLaws
import Derived.Conc.EventLaws
import Derived.Laws.LoneSync
import Derived.Conc.SmallLaws
import Derived.Conc.LeavingOf
import Derived.Conc.HoldsTime
import Derived.Handed
import Derived.LaidMore
import Derived.Below
import Derived.Carry
import Derived.SizedLaws
namespace Go.Lg
open Go.Conc Go.ConcN
structure dA (P:Program) (f:FuncId) (e:Array Value→Sem Value):Prop where
 ex:∃ fn,P.funcs[f]? = some fn∧(fn.name == "runtime.NumGoroutine")=false∧fn.body.isNone=true∧Extern.findNext fn=none∧Extern.find fn=some e
def gb(P:Program)(s:Sem Value)(f:FuncId)(w:World)(v:Value)(w':World)(fT:Array Event):Prop :=
 s.run P w = .ok v w'∧s.events P w #[⟨.mark (.extern f),false,true⟩]=#[⟨.mark (.extern f),false,true⟩]++fT∧∀ x∈fT,x.sync=true∧∀ g,x.loc ≠ .mark (.extern g)
section
variable {P:Program} {main:Bool} {c:Ctx} {st:St} {k:List Item} {ops:Array Oper} {i:Nat} {rest:List Nat} {o:Oper} {f:FuncId} {as:Array Operand} {ee:Array TypeId} {e:Array Value→Sem Value} {vs:List Value} {tmps:Array Value} {w w':World} {v:Value} {fT:Array Event}
theorem oB{tmps:Array Value}(l:o.op = .call ⟨.value (.func f),as,ee⟩)(p:bV c.n st tmps)(d:ev st as.toList=some vs):execOp (aN c tmps (.inRegion ops (i::rest)::k)).eval o=callFunc f vs.toArray:=by
 have g:=p.knows c (.inRegion ops (i::rest)::k)
 have b:(aN c tmps (.inRegion ops (i::rest)::k)).eval (.func f) = .func (.func f) #[] #[]:=rfl
 have a:as.map (aN c tmps (.inRegion ops (i::rest)::k)).eval=vs.toArray:=by apply Array.ext'; simpa using m2 g _ _ d
 unfold execOp
 simp [l,resolve,Deferred.ofValue,invoke,b,a]
theorem rk(ho:ops[i]? = some o)(hw:bQ ops st o=some true)(q:(c.kind == CallKind.early)=false)(a:o.op = .call ⟨.value (.func f),as,ee⟩)(p:dA P f e)(b:bV c.n st tmps)(g:ev st as.toList=some vs)(d:gb P (e vs.toArray) f w v w' fT) :
  stepG P main (aO (aN c tmps (.inRegion ops (i::rest)::k)) c.cs) w = .go (aO (aN c (c7 o.dst v tmps) (.inRegion ops rest::k)) c.cs) w' fT:=by
 obtain ⟨fn,h1,h2,h3,h4,h5⟩:=p.ex
 obtain ⟨t,l,u⟩:=d
 rw [g7 ho (e2 b hw) (by rw [a]; rfl),← hx (rest:=rest) (k:=k) (c:=c) (tmps:=tmps) (v:=v) ho,oB a b g]
 have r:(callFunc f vs.toArray).run P w = .ok (.value v) w':=by rw [run_callFunc_extern h1 h2 h3 h4 h5,t]; rfl
 rw [m0 (by simpa [aN] using q) r]
 congr 1
 rw [events_callFunc_extern h1 h2 h3 h4 h5]
 simp only [List.push_toArray,List.nil_append]
 rw [l,seen_entry _ _ _ u]
theorem Dc(ho:ops[i]? = some o)(hw:bQ ops st o=some true)(a:o.op = .call ⟨.value (.func f),as,ee⟩)(g:dA P f e)(b:bV c.n st tmps)(d:ev st as.toList=some vs)(p:(e vs.toArray).run P w = .halt .blocked w) :
  stepG P main (aO (aN c tmps (.inRegion ops (i::rest)::k)) c.cs) w = .go { aO (aN c tmps (.inRegion ops (i::rest)::k)) c.cs with status:=.blocked } w #[]:=by
 obtain ⟨fn,h1,h2,h3,h4,h5⟩:=g.ex
 rw [g7 ho (e2 b hw) (by rw [a]; rfl),oB a b d]
 have l:(callFunc f vs.toArray).run P w = .halt .blocked w:=by rw [run_callFunc_extern h1 h2 h3 h4 h5,p]; rfl
 simp [stepG.apply,l,aO,GStep.after,seen_none]
theorem P1(ho:ops[i]? = some o)(d:o.op = .call ⟨.value (.func f),as,ee⟩)(b:dA P f e):mayWake P (aO (aN c tmps (.inRegion ops (i::rest)::k)) c.cs)=true:=by
 obtain ⟨fn,h1,_,h3,_⟩:=b.ex
 have a:fn.body.isSome=false:=by cases hb:fn.body <;> simp_all
 simp [mayWake,aO,aN,ho,d,Frame.eval,h1,a]
end
section
variable {P:Program} {f:FuncId} {w:World} {ad:Addr} {k:IntKind}
theorem h7{m:Mark}(hm:∀ g,m ≠ .extern g):gb P (do mark m; pure Extern.Race.none_) f w (.tuple #[]) w (said m) :=
 ⟨by simp [Extern.Race.none_],by simp [said],λ x a=>by
  simp [said] at a; subst a; exact ⟨rfl,λ g h=>hm g (by cases h; rfl)⟩⟩
theorem m7{mk:Addr→Mark}(hm:∀ ad g,mk ad ≠ .extern g){vs:List Value}(a:vs[0]? = some (.pointer (some ad))):gb P (Extern.Race.marked mk vs.toArray) f w (.tuple #[]) w (said (mk ad)) :=
 ⟨by simp [Extern.Race.marked,Extern.Race.at_,a,Extern.Race.none_],by simp [Extern.Race.marked,Extern.Race.at_,a,said],λ x b=>by
  simp [said] at b; subst b; exact ⟨rfl,λ g h=>hm ad g (Loc.mark.inj h)⟩⟩
def atR(ad:Addr):Array Event:=#[⟨.cell ad,false,true⟩]
def pV(ad:Addr):Array Event:=#[⟨.cell ad,true,true⟩]
def rG(ad:Addr):Array Event:=#[⟨.cell ad,false,true⟩,⟨.cell ad,true,true⟩]
theorem oz{v n:Int}(a:w.cell? ad=some (.int k v))(b:w.frozen? ad=false):gb P (Extern.Atomic.casT (.int k) #[.pointer (some ad),.int k v,.int k n]) f w (.bool true) (w.setCell ad (.int k n)) (rG ad) :=
 ⟨by rw [casT_eq]; exact run_cas_hit_entry a b,by rw [casT_eq,events_cas_hit_entry a b]; rfl,sync_rw ad⟩
theorem qi{v old n:Int}(a:w.cell? ad=some (.int k v))(d:w.frozen? ad=false)(b:¬ v=old):gb P (Extern.Atomic.casT (.int k) #[.pointer (some ad),.int k old,.int k n]) f w (.bool false) w (atR ad) :=
 ⟨by rw [casT_eq]; exact run_cas_miss_entry a d b,by rw [casT_eq,events_cas_miss_entry a d b]; rfl,sync_r ad⟩
theorem l3{v d:Int}(a:w.cell? ad=some (.int k v))(b:w.frozen? ad=false):gb P (Extern.Atomic.update (Op.intArith .add) k true #[.pointer (some ad),.int k d]) f w (.int k (k.wrap (v+d))) (w.setCell ad (.int k (k.wrap (v+d)))) (rG ad) :=
 ⟨run_add_entry a b,by rw [events_add_entry a b]; rfl,sync_rw ad⟩
theorem sD{v:Int}(a:w.cell? ad=some (.int k v)):gb P (Extern.Atomic.loadT (.int k) #[.pointer (some ad)]) f w (.int k v) w (atR ad):=by
 have e:Extern.Atomic.loadT (.int k) #[.pointer (some ad)]=(do Extern.Atomic.read (.int k) (← asAddr (.pointer (some ad)))):=rfl
 refine ⟨?_,?_,sync_r ad⟩
 ·rw [e]; simp [Extern.Atomic.read,asAddr,a]
 ·rw [e]; simp [Extern.Atomic.read,asAddr,a,events_load,atR]
theorem G6{v:Int}{u:Value}(a:w.cell? ad=some u)(d:w.frozen? ad=false):gb P (Extern.Atomic.storeT #[.pointer (some ad),.int k v]) f w (.tuple #[]) (w.setCell ad (.int k v)) (pV ad):=by
 have e:Extern.Atomic.storeT #[.pointer (some ad),.int k v]=(do store (← asAddr (.pointer (some ad))) (.int k v) .atomic; pure Extern.Atomic.none_):=rfl
 refine ⟨?_,?_,λ x b=>by simp [pV] at b; subst b; exact ⟨rfl,λ g h=>by cases h⟩⟩
 ·rw [e]; simp [asAddr,a,d,run_store P w ad (.int k v) .atomic rfl,Extern.Atomic.none_]
 ·rw [e]; simp [asAddr,a,d,events_store P w _ ad (.int k v) .atomic rfl,pV]
theorem Ad{n:Int}{vs:List Value}(d:vs[0]? = some (.pointer (some ad)))(a:w.cell? ad=some (.int .u32 n))(b:n≠0)(g:w.frozen? ad=false):gb P (Extern.Sync.semacquire vs.toArray) f w (.tuple #[]) (w.setCell ad (.int .u32 (n - 1))) (semEvents ad) :=
 ⟨by simp [Extern.Sync.semacquire,Extern.Sync.count,d,a,b,g,Extern.Sync.none_,run_store P w ad (.int .u32 (n - 1)) .atomic rfl,Result.andThen],
  by simp [Extern.Sync.semacquire,Extern.Sync.count,d,a,b,g,semEvents,events_load,events_store P w _ ad (.int .u32 (n - 1)) .atomic rfl,run_store P w ad (.int .u32 (n - 1)) .atomic rfl,Result.evThen],semEvents_sync ad⟩
theorem ym{vs:List Value}(b:vs[0]? = some (.pointer (some ad)))(a:w.cell? ad=some (.int .u32 0)):(Extern.Sync.semacquire vs.toArray).run P w = .halt .blocked w:=by
 simp [Extern.Sync.semacquire,Extern.Sync.count,b,a]
theorem vP{n:Int}{vs:List Value}(b:vs[0]? = some (.pointer (some ad)))(a:w.cell? ad=some (.int .u32 n))(d:w.frozen? ad=false):gb P (Extern.Sync.semrelease vs.toArray) f w (.tuple #[]) (w.setCell ad (.int .u32 (IntKind.u32.wrap (n+1)))) (semEvents ad) :=
 ⟨by simp [Extern.Sync.semrelease,Extern.Sync.count,b,a,d,Extern.Sync.none_,Op.intArith,run_store P w ad (.int .u32 (IntKind.u32.wrap (n+1))) .atomic rfl,Result.andThen],
  by simp [Extern.Sync.semrelease,Extern.Sync.count,b,a,d,semEvents,Op.intArith,events_load,events_store P w _ ad (.int .u32 (IntKind.u32.wrap (n+1))) .atomic rfl,run_store P w ad (.int .u32 (IntKind.u32.wrap (n+1))) .atomic rfl,Result.evThen],semEvents_sync ad⟩
theorem G5{n:Int}(h4:4≤n):gb P (Extern.Sync.canSpin #[.int k n]) f w (.bool false) w #[] :=
 ⟨by rw [canSpin_eq,if_pos h4]; rfl,by rw [canSpin_eq,if_pos h4]; rfl,by simp⟩
theorem Ae{n:Int}(h4:n < 4):gb P (Extern.Sync.canSpin #[.int k n]) f w (.bool w.spins) w.asked #[]:=by
 have a:¬ (n ≥ 4):=by omega
 exact ⟨by rw [canSpin_eq,if_neg a]; rfl,by rw [canSpin_eq,if_neg a]; rfl,by simp⟩
end
section
variable {F:Fx} {s s':Sh} {w:World}
theorem cX.cm(h:cX F s w):w.cell? (am F)=some (.int .i32 s.mu.val):=by simp [World.cell?,am,h.m,g3]
theorem cX.rY(h:cX F s w):w.cell? ⟨F.bm,1,none⟩=some (.int .u32 (s.ms:Int)):=by simp [World.cell?,h.m,g3]
theorem cX.cg(h:cX F s w):w.cell? (aw F)=some (.int .u64 (lG s)):=by simp [World.cell?,aw,h.g,g9]
theorem cX.rU(h:cX F s w):w.cell? (hV F)=some (.int .u32 (s.ws:Int)):=by simp [World.cell?,hV,h.g,g9]
theorem cX.zm(h:cX F s w)(i:Nat):w.frozen? ⟨F.bm,i,none⟩=false:=by simp [World.frozen?,h.m,g3]
theorem cX.zg(h:cX F s w)(i:Nat):w.frozen? ⟨F.bw,i,none⟩=false:=by simp [World.frozen?,h.g,g9]
theorem bG.refl(h:cX F s w):bG F s w w:=⟨rfl,λ _ _ _=>rfl,h,id,rfl,rfl⟩
theorem bG.asked(h:cX F s w):bG F s w w.asked:=⟨rfl,λ _ _ _=>rfl,⟨h.m,h.g⟩,id,rfl,rfl⟩
theorem bG.later(h:cX F s w)(a:F.B.os w.os→F.B.os w.later.os):bG F s w w.later:=⟨rfl,λ _ _ _=>rfl,⟨h.m,h.g⟩,a,rfl,rfl⟩
theorem CQ{w:World}{a:Addr}{cs:Array Value}{t:TypeId}{v:Value}(h:w.heap[a.block]? = some (.cells cs t (0,0)))(b:a.spot=none):w.setCell a v={ w with heap:=w.heap.setIfInBounds a.block (.cells (cs.setIfInBounds a.off v) t (0,0)) }:=by
 simp only [World.setCell]
 congr 1
 apply Array.ext_getElem?
 intro i
 rw [Array.getElem?_modify]
 by_cases hi:a.block=i
 ·subst hi
  rw [iZ (ft h),h]
  simp [b]
 ·simp [hi,fN hi]
theorem bG.bm{v:Value}{i:Nat}(h:cX F s w)(ho:g3 F.tm s' = .cells (#[.int .i32 s.mu.val,.int .u32 (s.ms:Int)].setIfInBounds i v) F.tm (0,0))(d:g9 F.tw s'=g9 F.tw s):bG F s' w (w.setCell ⟨F.bm,i,none⟩ v):=by
 rw [CQ (a:=⟨F.bm,i,none⟩) h.m rfl]
 refine ⟨by simp,λ b h1 h2=>fN (Ne.symm h1),⟨?_,?_⟩,id,rfl,rfl⟩
 ·rw [ho]; exact iZ (ft h.m)
 ·rw [d]
  show (w.heap.setIfInBounds _ _)[F.bw]? = _
  rw [fN F.ho.1]; exact h.g
theorem bG.bw{v:Value}{i:Nat}(h:cX F s w)(ho:g9 F.tw s' = .cells (#[.int .u64 (lG s),.int .u32 (s.ws:Int)].setIfInBounds i v) F.tw (0,0))(d:g3 F.tm s'=g3 F.tm s):bG F s' w (w.setCell ⟨F.bw,i,none⟩ v):=by
 rw [CQ (a:=⟨F.bw,i,none⟩) h.g rfl]
 refine ⟨by simp,λ b h1 h2=>fN (Ne.symm h2),⟨?_,?_⟩,id,rfl,rfl⟩
 ·rw [d]
  show (w.heap.setIfInBounds _ _)[F.bm]? = _
  rw [fN (Ne.symm F.ho.1)]; exact h.m
 ·rw [ho]; exact iZ (ft h.g)
theorem bG.mu{m:Wd}(h:cX F s w):bG F { s with mu:=m } w (w.setCell (am F) (.int .i32 m.val)):=bG.bm h rfl rfl
theorem bG.ms{n:Nat}(h:cX F s w):bG F { s with ms:=n } w (w.setCell ⟨F.bm,1,none⟩ (.int .u32 (n:Int))):=bG.bm h rfl rfl
theorem bG.wg{v u:Nat}(h:cX F s w):bG F { s with v:=v,w:=u } w (w.setCell (aw F) (.int .u64 (4294967296 * v+u))):=bG.bw h rfl rfl
theorem bG.ws{n:Nat}(h:cX F s w):bG F { s with ws:=n } w (w.setCell (hV F) (.int .u32 (n:Int))):=bG.bw h rfl rfl
theorem kz{a:Addr}(h:a.block=F.bm∨a.block=F.bw):hf F (atR a):=.inl λ e he=>by simp [atR] at he; subst he; exact ⟨a,false,rfl,h⟩
theorem Es{a:Addr}(h:a.block=F.bm∨a.block=F.bw):hf F (pV a):=.inl λ e he=>by simp [pV] at he; subst he; exact ⟨a,true,rfl,h⟩
theorem hn{a:Addr}(h:a.block=F.bm∨a.block=F.bw):hf F (rG a):=.inl λ e he=>by simp [rG] at he; rcases he with rfl | rfl <;> exact ⟨a,_,rfl,h⟩
theorem hk:hf F #[]:=.inl λ e he=>by simp at he
theorem pU{a:Addr}(h:a.block=F.bm∨a.block=F.bw):hf F (semEvents a):=.inr ⟨a,h,rfl⟩
end
section
variable {F:Fx} {c:Ctx} {R:ax} {H:ai} {st:St} {kk:List Item} {ops:Array Oper} {i:Nat} {rest:List Nat} {o:Oper} {f:FuncId} {as:Array Operand} {ee:Array TypeId} {e:Array Value→Sem Value} {vs:List Value} {n k j:Nat} {T:Lp} {T0:Mp}
theorem KW.ext(ho:ops[i]? = some o)(hw:bQ ops st o=some true)(r:(c.kind == CallKind.early)=false)(b:o.op = .call ⟨.value (.func f),as,ee⟩)(a:dA F.P f e)(g:ev st as.toList=some vs)(hd:bA o.dst c.n)
  (h:hL F.N T→∀ w s,Fits F.B R H w→cX F s w→nY F.N T s→okW F.N T s →
   ((∃ c,T = .s1 c)∧s.ms=0∧(e vs.toArray).run F.P w = .halt .blocked w) ∨
   ∃ v w' fT T' s',gb F.P (e vs.toArray) f w v w' fT∧ca T s T' s'∧lF F j T T'∧oA F T fT∧bG F s' w w'∧∀ l,bV c.n (bC o.dst v st) l→kx F (KW F n k) k j T T' R H (aO (aN c l (.inRegion ops rest::kk)) c.cs)) :
  ∀ tmps,bV c.n st tmps→KW F (n+1) k j T R H (aO (aN c tmps (.inRegion ops (i::rest)::kk)) c.cs):=by
 intro tmps d C
 refine ⟨rfl,rfl,λ _=>P1 ho b a,λ w s q A t u=>?_⟩
 rcases h C w s q A t u with ⟨h1,h2,h3⟩ | ⟨v,w',fT,T',s',p,h2,h3,h4,h5,h6⟩
 ·exact .inl ⟨h1,h2,Dc ho hw b a d g h3⟩
 ·exact .inr ⟨_,w',fT,T',s',h2,h3,h4,rk ho hw r b a d g p,h5,h6 _ (d.put v hd)⟩
theorem KM.ext(ho:ops[i]? = some o)(hw:bQ ops st o=some true)(t:(c.kind == CallKind.early)=false)(g:o.op = .call ⟨.value (.func f),as,ee⟩)(d:dA F.P f e)(b:ev st as.toList=some vs)(hd:bA o.dst c.n)(h1:∀ r,T0 ≠ .go r)(h2:T0 ≠ .wq)
  (h:∀ w s,Fits F.B R H w→cX F s w→gK F.N T0 s→(T0 = .w3∧s.ws=0∧(e vs.toArray).run F.P w = .halt .blocked w) ∨
   ∃ v w' fT T' s',gb F.P (e vs.toArray) f w v w' fT∧dC T0 s T' s'∧m8 F T0 fT∧bG F s' w w'∧∀ l,bV c.n (bC o.dst v st) l→Own F.P F.B true (KM F n T') R H (aO (aN c l (.inRegion ops rest::kk)) c.cs)) :
  ∀ tmps,bV c.n st tmps→KM F (n+1) T0 R H (aO (aN c tmps (.inRegion ops (i::rest)::kk)) c.cs):=by
 intro tmps a
 have key:∀ w s,Fits F.B R H w→cX F s w→gK F.N T0 s→(T0 = .w3∧s.ws=0∧stepG F.P true (aO (aN c tmps (.inRegion ops (i::rest)::kk)) c.cs) w = .go { aO (aN c tmps (.inRegion ops (i::rest)::kk)) c.cs with status:=.blocked } w #[]) ∨
   ∃ g' w' es T' s',dC T0 s T' s'∧m8 F T0 es∧stepG F.P true (aO (aN c tmps (.inRegion ops (i::rest)::kk)) c.cs) w = .go g' w' es∧bG F s' w w'∧Own F.P F.B true (KM F n T') R H g':=λ w s q A u=>by
  rcases h w s q A u with ⟨h1,h2,h3⟩ | ⟨v,w',fT,T',s',p,h3,h4,h5,h6⟩
  ·exact .inl ⟨h1,h2,Dc ho hw g d a b h3⟩
  ·exact .inr ⟨_,w',fT,T',s',h3,h4,rk ho hw t g d a b p,h5,h6 _ (a.put v hd)⟩
 refine ⟨rfl,rfl,?_⟩
 cases T0 <;> first | exact absurd rfl (h1 _) | exact absurd rfl h2 | exact key
theorem KM.acq(ho:ops[i]? = some o)(hw:bQ ops st o=some true)(p:(c.kind == CallKind.early)=false)(q:o.op = .call ⟨.value (.func f),as,ee⟩)(g:dA F.P f (Extern.Race.marked .acquire))(d:ev st as.toList=some vs)(t:vs[0]? = some (.pointer (some (aw F))))(hd:bA o.dst c.n)
  (h:∀ js,(∀ k,k < F.N→js k=F.J)→∀ b,bV c.n (bC o.dst (.tuple #[]) st) b→F.mj R ((F.bo,F.cont js)::H) (aO (aN c b (.inRegion ops rest::kk)) c.cs)) :
  ∀ tmps,bV c.n st tmps→KM F (n+1) .wq R H (aO (aN c tmps (.inRegion ops (i::rest)::kk)) c.cs):=λ tmps a =>
 ⟨rfl,rfl,λ w s _ r _=>⟨_,w,rk ho hw p q g a d (m7 (λ _ _=>by simp) t),bG.refl r,λ js l=>h js l _ (a.put _ hd)⟩⟩
end
def jf(P:Program)(c:Ctx)(o:Oper)(st:St)(v:Value):Prop:=fU o.op=false∧bA o.dst c.n∧∀ a,Knows st a→ah P (execOp a o) (.value v)
section
variable {P:Program} {B:Base} {main:Bool} {ab:Jd P B main} {c:Ctx} {R:ax} {H:ai} {st st':St} {k:List Item} {ops:Array Oper} {i:Nat} {rest:List Nat} {o:Oper} {v:Value} {x y z:Operand}
theorem U.val(ho:ops[i]? = some o)(hw:bQ ops st o=some true)(b:(c.kind == CallKind.early)=false)(a:jf P c o st v)(d:aA (bC o.dst v st) st')(h:U ab c R H st' (.inRegion ops rest::k)):U ab c R H st (.inRegion ops (i::rest)::k) :=
 U.eg ho hw b (Ox.val a.1 a.2.1 a.2.2 d h)
theorem OV.move(a:o.op = .move x)(hd:bA o.dst c.n)(b:aU st x=some v):jf P c o st v:=⟨by rw [a]; rfl,hd,λ g d=>by simp only [execOp,a,d x v b]; exact ah.a0 _⟩
theorem OV.assign(a:o.op = .assign x)(hd:bA o.dst c.n)(b:aU st x=some v):jf P c o st v:=⟨by rw [a]; rfl,hd,λ g d=>by simp only [execOp,a,d x v b]; exact ah.a0 _⟩
theorem OV.ND(a:o.op = .pick x y z)(hd:bA o.dst c.n)(d:aU st x=some (.bool true))(g:aU st y=some v):jf P c o st v:=⟨by rw [a]; rfl,hd,λ l b=>by
 simp only [execOp,a,b x _ d,b y v g,asBool]; exact ah.ba (ah.a0 true) (ah.a0 _)⟩
theorem OV.NC(a:o.op = .pick x y z)(hd:bA o.dst c.n)(d:aU st x=some (.bool false))(g:aU st z=some v):jf P c o st v:=⟨by rw [a]; rfl,hd,λ l b=>by
 simp only [execOp,a,b x _ d,b z v g,asBool]; exact ah.ba (ah.a0 false) (ah.a0 _)⟩
theorem OV.nilCheck{a:Addr}(b:o.op = .nilCheck x)(hd:bA o.dst c.n)(d:aU st x=some (.pointer (some a))):jf P c o st (.pointer (some a)):=⟨by rw [b]; rfl,hd,λ l g=>by
 simp only [execOp,b,g x _ d]; exact ah.ba (ah.a0 _) (ah.a0 _)⟩
theorem OV.fieldAddr{s f off b n:Nat}(a:o.op = .fieldAddr s x f)(hd:bA o.dst c.n)(g:aU st x=some (.pointer (some ⟨b,n,none⟩)))(d:dB P s f off):jf P c o st (.pointer (some ⟨b,n+off,none⟩)):=⟨by rw [a]; rfl,hd,λ p l=>by
 simp only [execOp,a,l x _ g]; exact ah.ba (d b n) (ah.a0 _)⟩
theorem OV.bin{bo:BinOp}{t u:TypeId}{ka kb:IntKind}{a b:Int}(d:o.op = .binOp bo t x y u)(hd:bA o.dst c.n)(p:aU st x=some (.int ka a))(q:aU st y=some (.int kb b))(l:ah P (binOp bo t (.int ka a) (.int kb b)) v):jf P c o st v:=⟨by rw [d]; rfl,hd,λ r g=>by
 simp only [execOp,d,g x _ p,g y _ q]; exact ah.ba (ah.ba (mQ _ _ _ _ _ _ _ _) l) (ah.a0 _)⟩
theorem OV.not{t:TypeId}{a:Bool}(b:o.op = .unOp .not t x)(hd:bA o.dst c.n)(d:aU st x=some (.bool a)):jf P c o st (.bool (!a)):=⟨by rw [b]; rfl,hd,λ l g=>by
 simp only [execOp,b,g x _ d]; exact ah.ba (ah.a0 _) (ah.a0 _)⟩
end
structure QJ (P:Program) where
 Q:Goroutine→Prop
 step:∀ {g g':Goroutine},g.status = .running→(∀ w,stepG P false g w = .go g' w #[])→Q g'→Q g
def Py(P:Program)(K:Goroutine→Prop):QJ P:=⟨λ g=>∃ q,mX P K q g,λ b h ⟨q,a⟩=>⟨q+1,.inr ⟨b,_,h,a⟩⟩⟩
def ll(P:Program)(d:Nat):QJ P:=⟨λ g=>∃ q,QuitsD P q d g,λ b h ⟨q,a⟩=>⟨q+1,QuitsD.ctl b h a⟩⟩
section
variable {P:Program} (J:QJ P)
def aB(c:Ctx)(st:St)(todo:List Item):Prop:=∀ tmps,bV c.n st tmps→J.Q (aO (aN c tmps todo) c.cs)
variable {J} {c:Ctx} {st st':St} {k:List Item} {ops:Array Oper} {i:Nat} {rest:List Nat} {o:Oper} {v:Value}
theorem aB.sub{todo:List Item}(a:aA st st')(h:aB J c st' todo):aB J c st todo:=λ tmps b=>h tmps (b.sub a)
theorem aB.skip(h:aB J c st k):aB J c st (.code .skip::k):=λ tmps a=>J.step rfl (λ w=>by simp [stepG,stepG.exec,aO,aN]) (h tmps a)
theorem aB.inBlock{id:Nat}(h:aB J c st k):aB J c st (.inBlock id::k):=λ tmps a=>J.step rfl (λ w=>by simp [stepG,stepG.exec,aO,aN]) (h tmps a)
theorem aB.seq{x y:Code}(h:aB J c st (.code x :: .code y::k)):aB J c st (.code (.seq x y)::k):=λ tmps a=>J.step rfl (λ w=>by simp [stepG,stepG.exec,aO,aN]) (h tmps a)
theorem aB.block{id:Nat}{x:Code}(h:aB J c st (.code x :: .inBlock id::k)):aB J c st (.code (.block id x)::k):=λ tmps a=>J.step rfl (λ w=>by simp [stepG,stepG.exec,aO,aN]) (h tmps a)
theorem aB.enterLoop{x:Code}(h:aB J c st (.code x :: .inLoop x::k)):aB J c st (.code (.loop x)::k):=λ tmps a=>J.step rfl (λ w=>by simp [stepG,stepG.exec,aO,aN]) (h tmps a)
theorem aB.inLoop{x:Code}(h:aB J c st (.code x :: .inLoop x::k)):aB J c st (.inLoop x::k):=λ tmps a=>J.step rfl (λ w=>by simp [stepG,stepG.exec,aO,aN]) (h tmps a)
theorem aB.exit{id:Nat}{a:List Item}(he:exitTo id k=some a)(h:aB J c st a):aB J c st (.code (.exit id)::k):=λ tmps b=>J.step rfl (λ w=>by simp [stepG,stepG.exec,aO,aN,he]) (h tmps b)
theorem aB.region{id n:Nat}{is:List Nat}(b:ops.size=n)(a:List.range n=is)(h:aB J c st (.inRegion ops is::k)):aB J c st (.code (.region id ops false)::k):=by
 subst b; subst a
 exact λ tmps d=>J.step rfl (λ w=>by simp [stepG,stepG.exec,aO,aN]) (h tmps d)
theorem aB.aK(h:aB J c st k):aB J c st (.inRegion ops []::k):=λ tmps a=>J.step rfl (λ w=>by simp [stepG,stepG.exec,aO,aN]) (h tmps a)
theorem aB.c5{x:Operand}{th el:Code}(b:aU st x=some (.bool true))(h:aB J c st (.code th::k)):aB J c st (.code (.cond x th el)::k):=λ tmps a=>by
 have he:=a.knows c (.code (.cond x th el)::k) x _ b
 exact J.step rfl (λ w=>by simp only [aN] at he; simp [stepG,stepG.exec,aO,aN,he]) (h tmps a)
theorem aB.cw{x:Operand}{th el:Code}(b:aU st x=some (.bool false))(h:aB J c st (.code el::k)):aB J c st (.code (.cond x th el)::k):=λ tmps a=>by
 have he:=a.knows c (.code (.cond x th el)::k) x _ b
 exact J.step rfl (λ w=>by simp only [aN] at he; simp [stepG,stepG.exec,aO,aN,he]) (h tmps a)
theorem aB.unwanted(ho:ops[i]? = some o)(hw:bQ ops st o=some false)(b:bA o.dst c.n)(d:aA (bC o.dst undef st) st')(h:aB J c st' (.inRegion ops rest::k)):aB J c st (.inRegion ops (i::rest)::k) :=
 λ _ a=>J.step rfl (λ _=>xH ho (e2 a hw)) (h _ ((a.put undef b).sub d))
theorem aB.val(ho:ops[i]? = some o)(hw:bQ ops st o=some true)(g:(c.kind == CallKind.early)=false)(b:jf P c o st v)(l:aA (bC o.dst v st) st')(h:aB J c st' (.inRegion ops rest::k)):aB J c st (.inRegion ops (i::rest)::k):=λ tmps a=>by
 refine J.step rfl (λ w=>?_) (h _ ((a.put v b.2.1).sub l))
 have d:=b.2.2 _ (a.knows c (.inRegion ops (i::rest)::k)) w
 rw [g7 ho (e2 a hw) b.1,← hx (rest:=rest) (k:=k) (c:=c) (tmps:=tmps) (v:=v) ho,m0 (by simpa [aN] using g) d.1,d.2]
 rfl
theorem aB.ext{f:FuncId}{as:Array Operand}{ee:Array TypeId}{e:Array Value→Sem Value}{vs:List Value}(ho:ops[i]? = some o)(hw:bQ ops st o=some true)(l:(c.kind == CallKind.early)=false)(p:o.op = .call ⟨.value (.func f),as,ee⟩)(hd:bA o.dst c.n)(g:dA P f e)(d:ev st as.toList=some vs)
  (b:∀ w,gb P (e vs.toArray) f w v w #[]) (q:aA (bC o.dst v st) st') (h:aB J c st' (.inRegion ops rest::k)):aB J c st (.inRegion ops (i::rest)::k):=λ _ a =>
 J.step rfl (λ w=>rk ho hw l p g a d (b w)) (h _ ((a.put v hd).sub q))
theorem aB.enter{f:FuncId}{fn:Func}{body:Code}{as:Array Operand}{ee:Array TypeId}{vs:List Value}{n:Nat}(ho:ops[i]? = some o)(hw:bQ ops st o=some true)(p:(c.kind == CallKind.early)=false)(d:o.op = .call ⟨.value (.func f),as,ee⟩)(l:ev st as.toList=some vs)
  (b:P.funcs[f]? = some fn) (u:(fn.name == "runtime.NumGoroutine")=false) (hb:fn.body=some body) (A:fn.ntmps=n) (r:Nat.ble vs.length n=true)
  (h:∀ tmps,bV c.n st tmps→aB J ⟨f,.normal,none,n,[],aN c tmps (.inRegion ops (i::rest)::k)::c.cs⟩ (ji 0 vs) [.code body]):aB J c st (.inRegion ops (i::rest)::k):=λ tmps a=>by
 have g:ah P (execOp (aN c tmps (.inRegion ops (i::rest)::k)).eval o) (.enter f vs.toArray):=by
  rw [oB d a l]
  exact n9 b u (by rw [hb]; rfl)
 subst A
 have D:vs.length≤fn.ntmps:=by simpa [Nat.ble_eq] using r
 have e:Frame.enter P f vs.toArray .normal=aN ⟨f,.normal,none,fn.ntmps,[],aN c tmps (.inRegion ops (i::rest)::k)::c.cs⟩ (vs.toArray++Array.replicate (fn.ntmps - vs.length) undef) [.code body]:=by
  simp [Frame.enter,aN,b,hb]
 refine J.step rfl (λ w=>?_) (h tmps a (vs.toArray++Array.replicate (fn.ntmps - vs.length) undef) ⟨by simp; omega,λ t v C=>?_⟩)
 ·rw [g7 ho (e2 a hw) (by rw [d]; rfl),pR rfl (by simpa [aN] using p) (g w).1,(g w).2,e]
  rfl
 ·obtain ⟨_,h2⟩:=pS vs 0 t v C
  have q:t < vs.length:=by
   have:=(dU.1 h2).1
   simpa using this
  rw [Array.getElem?_append_left (by simpa using q)]
  simpa using h2
def ew(c:Ctx)(tmps:Array Value)(todo:List Item):Frame:={ aN c tmps todo with mode:=.returning }
theorem QJ.back{fr:Frame}{cs:List Frame}{f:FuncId}{n:Nat}{fn:Func}{vs:List Value}{tmps:Array Value}{todo:List Item}(b:P.funcs[f]? = some fn)(l:bV n st tmps)(g:lq st fn.results.toList=some vs)(d:J.Q (aO (fr.finish (dZ vs)) cs)) :
  J.Q (aO (ew ⟨f,.normal,none,n,[],fr::cs⟩ tmps todo) (fr::cs)) :=
 J.step rfl (λ w=>by
  have a:=xW (P:=P) l g
  simp [ew,stepG,unwind,doReturn,aO,aN,b,(a w).1,(a w).2,GStep.after,seen_none]) d
theorem QJ.yv{fr:Frame}{cs:List Frame}{f:FuncId}{n:Nat}{fn:Func}{vs:List Value}{tmps:Array Value}{todo:List Item}(b:P.funcs[f]? = some fn)(l:bV n st tmps)(g:lq st fn.results.toList=some vs)(hm:fr.mode = .returning∨fr.mode = .panicking [goexitEntry])(d:J.Q (aO fr cs)) :
  J.Q (aO (ew ⟨f,.deferred,none,n,[],fr::cs⟩ tmps todo) (fr::cs)) :=
 J.step rfl (λ w=>by
  have a:=xW (P:=P) l g
  rcases hm with hm | hm <;> simp [ew,stepG,unwind,doReturn,aO,aN,b,(a w).1,(a w).2,GStep.after,seen_none,hm,goexitEntry]) d
theorem aB.ret(a:c.ro=none)(h:∀ tmps,bV c.n st tmps→J.Q (aO (ew c tmps (.code .ret::k)) c.cs)):aB J c st (.code .ret::k):=λ tmps b =>
 J.step rfl (λ w=>by simp [stepG,stepG.exec,aO,aN,ew,a]) (h tmps b)
theorem aB.vy(a:c.ro=none)(h:∀ tmps,bV c.n st tmps→J.Q (aO (ew c tmps []) c.cs)):aB J c st []:=λ tmps b =>
 J.step rfl (λ w=>by simp [stepG,stepG.exec,aO,aN,ew,a]) (h tmps b)
theorem aB.resume{c':Ctx}{tmps:Array Value}(ho:ops[i]? = some o)(b:bV c.n st tmps)(hd:bA o.dst c.n)(a:aA (bC o.dst v st) st')(h:aB J c st' (.inRegion ops rest::k))(_:c'.cs=aN c tmps (.inRegion ops (i::rest)::k)::c.cs) :
  J.Q (aO ((aN c tmps (.inRegion ops (i::rest)::k)).finish v) c.cs):=by
 rw [hx ho]
 exact h _ ((b.put v hd).sub a)
end
section
variable {P:Program} {B:Base} {main:Bool} {ab:Jd P B main} {c:Ctx} {R:ax} {H:ai} {st st':St} {k:List Item} {ops:Array Oper} {i:Nat} {rest:List Nat} {o:Oper} {f:FuncId} {as:Array Operand} {ee:Array TypeId} {vs:List Value}
theorem step_defer{tmps:Array Value}{w:World}(ho:ops[i]? = some o)(hw:bQ ops st o=some true)(d:(c.kind == CallKind.early)=false)(l:c.ro=none)(g:o.op = .defer ⟨.value (.func f),as,ee⟩)(p:bV c.n st tmps)(t:ev st as.toList=some vs) :
  stepG P main (aO (aN c tmps (.inRegion ops (i::rest)::k)) c.cs) w = .go (aO (aN { c with defers:=dcall f vs.toArray::c.defers } (c7 o.dst undef tmps) (.inRegion ops rest::k)) c.cs) w #[]:=by
 have A:=p.knows c (.inRegion ops (i::rest)::k)
 have b:(aN c tmps (.inRegion ops (i::rest)::k)).eval (.func f) = .func (.func f) #[] #[]:=rfl
 have r:as.map (aN c tmps (.inRegion ops (i::rest)::k)).eval=vs.toArray:=by apply Array.ext'; simpa using m2 A _ _ t
 have C:(execOp (aN c tmps (.inRegion ops (i::rest)::k)).eval o).run P w = .ok (.defer (dcall f vs.toArray)) w:=by
  unfold execOp
  simp [g,resolve,Deferred.ofValue,b,r,dcall]
 have he:(execOp (aN c tmps (.inRegion ops (i::rest)::k)).eval o).events P w #[]=#[]:=by
  unfold execOp
  simp [g,resolve,Deferred.ofValue,b]
 have D:=e2 p hw
 obtain ⟨a,kind,ro,n,defers,cs⟩:=c
 simp only at l d
 subst l
 have q:stepG P main (aO (aN ⟨a,kind,none,n,defers,cs⟩ tmps (.inRegion ops (i::rest)::k)) cs) w=stepG.apply P true (aN ⟨a,kind,none,n,defers,cs⟩ tmps (.inRegion ops (i::rest)::k)) cs none (execOp (aN ⟨a,kind,none,n,defers,cs⟩ tmps (.inRegion ops (i::rest)::k)).eval o) w:=by
  simp [aO,stepG,stepG.exec,stepG.oper,Frame.oper?,aN,ho,D]
 refine q.trans ?_
 unfold stepG.apply
 rw [show (execOp (aN ⟨a,kind,none,n,defers,cs⟩ tmps (.inRegion ops (i::rest)::k)).eval o).runT P w #[]=(.ok (.defer (dcall f vs.toArray)) w,#[]) by rw [Sem.runT_eq,C,he]]
 cases u:o.dst <;> simp [GStep.after,seen_none,aO,aN,Frame.finish,ho,u,c7,d]
end
section
variable {F:Fx} {c:Ctx} {R:ax} {H:ai} {st:St} {kk:List Item} {ops:Array Oper} {i:Nat} {rest:List Nat} {o:Oper} {n k j:Nat} {T:Lp} {T0:Mp}
theorem Pl{main:Bool}{t:TypeId}{x:Operand}{tmps:Array Value}{w:World}{s:Sh}(ho:ops[i]? = some o)(hw:bQ ops st o=some true)(p:(c.kind == CallKind.early)=false)(d:o.op = .load t x)(A:aU st x=some (.pointer (some (am F))))(g:bV c.n st tmps)(q:dn F.P t)(r:(F.P.funcs[c.fn]?).any (·.norace)=true)(u:cX F s w) :
  stepG F.P main (aO (aN c tmps (.inRegion ops (i::rest)::kk)) c.cs) w = .go (aO (aN c (c7 o.dst (.int .i32 s.mu.val) tmps) (.inRegion ops rest::kk)) c.cs) w #[]:=by
 have l:=g.knows c (.inRegion ops (i::rest)::kk)
 have a:(execOp (aN c tmps (.inRegion ops (i::rest)::kk)).eval o).run F.P w = .ok (.value (.int .i32 s.mu.val)) w∧(execOp (aN c tmps (.inRegion ops (i::rest)::kk)).eval o).events F.P w #[]=#[⟨.cell (am F),false,false⟩]:=by
  simp only [execOp,d,l x _ A]
  have h1:=q.1 w
  have b:=u.cm
  constructor
  ·simp [Instr.loadAt,Instr.sureAddr,loadVar,h1.1,b]
  ·simp [Instr.loadAt,Instr.sureAddr,loadVar,h1.1,h1.2,b,events_load]
 rw [g7 ho (e2 g hw) (by rw [d]; rfl),← hx (rest:=rest) (k:=kk) (c:=c) (tmps:=tmps) (v:=.int .i32 s.mu.val) ho,m0 (by simpa [aN] using p) a.1,a.2]
 congr 1
 rw [seen_def]
 simp [seenStep,aN,r]
theorem KW.look{t:TypeId}{x:Operand}(ho:ops[i]? = some o)(hw:bQ ops st o=some true)(l:(c.kind == CallKind.early)=false)(q:o.op = .load t x)(A:aU st x=some (.pointer (some (am F))))(p:dn F.P t)(u:(F.P.funcs[c.fn]?).any (·.norace)=true)(hd:bA o.dst c.n)(hu:T ≠ .us∧T ≠ .d4)
  (g:∀ es,hf F es→oA F T es)
  (h:hL F.N T→∀ s,nY F.N T s→∃ T',ca T s T' s∧lF F j T T'∧∀ d,bV c.n (bC o.dst (.int .i32 s.mu.val) st) d→kx F (KW F n k) k j T T' R H (aO (aN c d (.inRegion ops rest::kk)) c.cs)) :
  ∀ tmps,bV c.n st tmps→KW F (n+1) k j T R H (aO (aN c tmps (.inRegion ops (i::rest)::kk)) c.cs):=by
 intro tmps b C
 refine ⟨rfl,rfl,λ e=>by rcases e with e | e; exact absurd e hu.1; exact absurd e hu.2,λ w s D a r E=>.inr ?_⟩
 obtain ⟨T',h2,h3,h6⟩:=h C s r
 exact ⟨_,w,#[],T',s,h2,h3,g _ hk,Pl ho hw l q A b p u a,bG.refl a,h6 _ (b.put _ hd)⟩
def oe(P:Program)(src dst:TypeId):Prop:=∃ t,P.underlying src=some (.pointer t)∧P.underlying dst=some .unsafePointer∧(P.info? t).map (λ i=>decide (i.size=0))=some false
theorem Db{src dst:TypeId}{x:Operand}{a:Addr}{v:Value}{w:World}{main:Bool}{tmps:Array Value}(ho:ops[i]? = some o)(hw:bQ ops st o=some true)(A:(c.kind == CallKind.early)=false)(g:o.op = .convert src dst x)(C:aU st x=some (.pointer (some a)))(l:bV c.n st tmps)(hu:oe F.P src dst)(d:w.cell? a=some v) :
  stepG F.P main (aO (aN c tmps (.inRegion ops (i::rest)::kk)) c.cs) w = .go (aO (aN c (c7 o.dst (.pointer (some a)) tmps) (.inRegion ops rest::kk)) c.cs) w #[]:=by
 obtain ⟨t,p,q,r⟩:=hu
 have u:=l.knows c (.inRegion ops (i::rest)::kk)
 have h1:=run_convert_to_unsafe p q r d
 have h2:=events_convert_to_unsafe p q r d #[]
 have b:(execOp (aN c tmps (.inRegion ops (i::rest)::kk)).eval o).run F.P w = .ok (.value (.pointer (some a))) w∧(execOp (aN c tmps (.inRegion ops (i::rest)::kk)).eval o).events F.P w #[]=#[]:=by
  simp only [execOp,g,u x _ C]
  constructor
  ·simp [h1]
  ·simp [h2]
 rw [g7 ho (e2 l hw) (by rw [g]; rfl),← hx (rest:=rest) (k:=kk) (c:=c) (tmps:=tmps) (v:=.pointer (some a)) ho,m0 (by simpa [aN] using A) b.1,b.2,seen_none]
theorem KW.conv{src dst:TypeId}{x:Operand}{a:Addr}(ho:ops[i]? = some o)(hw:bQ ops st o=some true)(r:(c.kind == CallKind.early)=false)(u:o.op = .convert src dst x)(D:aU st x=some (.pointer (some a)))(hu:oe F.P src dst)(hd:bA o.dst c.n)
  (p:∀ s w,cX F s w→∃ v,w.cell? a=some v) {T':Lp} (b:T ≠ .us∧T ≠ .d4) (q:oA F T #[]) (t:∀ s,ca T s T' s) (A:lF F j T T')
  (h:∀ l,bV c.n (bC o.dst (.pointer (some a)) st) l→kx F (KW F n k) k j T T' R H (aO (aN c l (.inRegion ops rest::kk)) c.cs)) :
  ∀ tmps,bV c.n st tmps→KW F (n+1) k j T R H (aO (aN c tmps (.inRegion ops (i::rest)::kk)) c.cs):=by
 intro tmps g L
 refine ⟨rfl,rfl,λ e=>by rcases e with e | e; exact absurd e b.1; exact absurd e b.2,λ w s E d G I=>.inr ?_⟩
 obtain ⟨v,C⟩:=p s w d
 exact ⟨_,w,#[],T',s,t s,A,q,Db ho hw r u D g hu C,bG.refl d,h _ (g.put _ hd)⟩
theorem KM.conv{src dst:TypeId}{x:Operand}{a:Addr}{T0 T':Mp}(ho:ops[i]? = some o)(hw:bQ ops st o=some true)(q:(c.kind == CallKind.early)=false)(u:o.op = .convert src dst x)(C:aU st x=some (.pointer (some a)))(hu:oe F.P src dst)(hd:bA o.dst c.n)
  (l:∀ s w,cX F s w→∃ v,w.cell? a=some v) (h1:∀ r,T0 ≠ .go r) (h2:T0 ≠ .wq) (p:m8 F T0 #[]) (t:∀ s,dC T0 s T' s)
  (h:∀ g,bV c.n (bC o.dst (.pointer (some a)) st) g→Own F.P F.B true (KM F n T') R H (aO (aN c g (.inRegion ops rest::kk)) c.cs)) :
  ∀ tmps,bV c.n st tmps→KM F (n+1) T0 R H (aO (aN c tmps (.inRegion ops (i::rest)::kk)) c.cs):=by
 intro tmps d
 have key:∀ w s,Fits F.B R H w→cX F s w→gK F.N T0 s→(T0 = .w3∧s.ws=0∧stepG F.P true (aO (aN c tmps (.inRegion ops (i::rest)::kk)) c.cs) w = .go { aO (aN c tmps (.inRegion ops (i::rest)::kk)) c.cs with status:=.blocked } w #[]) ∨
   ∃ g' w' es T' s',dC T0 s T' s'∧m8 F T0 es∧stepG F.P true (aO (aN c tmps (.inRegion ops (i::rest)::kk)) c.cs) w = .go g' w' es∧bG F s' w w'∧Own F.P F.B true (KM F n T') R H g':=λ w s D b E=>by
  obtain ⟨v,A⟩:=l s w b
  exact .inr ⟨_,w,#[],T',s,t s,p,Db ho hw q u C d hu A,bG.refl b,h _ (d.put _ hd)⟩
 refine ⟨rfl,rfl,?_⟩
 cases T0 <;> first | exact absurd rfl (h1 _) | exact absurd rfl h2 | exact key
theorem uF:∀ s w,cX F s w→∃ v,w.cell? (am F)=some v:=λ _ _ h=>⟨_,h.cm⟩
theorem uG:∀ s w,cX F s w→∃ v,w.cell? (aw F)=some v:=λ _ _ h=>⟨_,h.cg⟩
theorem yq:∀ s w,cX F s w→∃ v,w.cell? (hV F)=some v:=λ _ _ h=>⟨_,h.rU⟩
section
variable {P:Program} {B:Base} {main:Bool} {ab:Jd P B main} {tmps:Array Value} {todo:List Item} {f:FuncId} {ds:List Deferred} {args:Array Value}
theorem U.xN(a:c.ro=none)(h:∀ tmps,bV c.n st tmps→ab.J R H (aO (ew c tmps (.code .ret::kk)) c.cs)):U ab c R H st (.code .ret::kk):=λ tmps b =>
 Jd.ctl rfl (λ w=>by simp [stepG,stepG.exec,aO,aN,ew,a]) (h tmps b)
theorem U.toEnd(a:c.ro=none)(h:∀ tmps,bV c.n st tmps→ab.J R H (aO (ew c tmps []) c.cs)):U ab c R H st []:=λ tmps b =>
 Jd.ctl rfl (λ w=>by simp [stepG,stepG.exec,aO,aN,ew,a]) (h tmps b)
theorem Jd.unwind{fn:Func}(hd:c.defers=dcall f args::ds)(b:P.funcs[f]? = some fn)(d:(fn.name == "runtime.NumGoroutine")=false)(hb:fn.body.isNone=false)
  (h:ab.J R H (aO (Frame.enter P f args .deferred) (ew { c with defers:=ds } tmps todo::c.cs))):ab.J R H (aO (ew c tmps todo) c.cs):=by
 have a:=n9 (P:=P) (args:=args) b d hb
 refine Jd.ctl rfl (λ w=>?_) h
 simp [ew,aO,aN,stepG,Go.unwind,callDeferred,hd,dcall,invoke,(a w).1,(a w).2,GStep.after,seen_none]
theorem Jd.back{fr:Frame}{cs:List Frame}{g:FuncId}{m:Nat}{fn:Func}{vs:List Value}(b:P.funcs[g]? = some fn)(p:bV m st tmps)(l:lq st fn.results.toList=some vs)(d:ab.J R H (aO (fr.finish (dZ vs)) cs)):ab.J R H (aO (ew ⟨g,.normal,none,m,[],fr::cs⟩ tmps todo) (fr::cs)):=by
 have a:=xW (P:=P) p l
 refine Jd.ctl rfl (λ w=>?_) d
 simp [ew,stepG,Go.unwind,doReturn,aO,aN,b,(a w).1,(a w).2,GStep.after,seen_none]
theorem U.defer{as:Array Operand}{ee:Array TypeId}{vs:List Value}{st':St}(ho:ops[i]? = some o)(hw:bQ ops st o=some true)(d:(c.kind == CallKind.early)=false)(l:c.ro=none)(g:o.op = .defer ⟨.value (.func f),as,ee⟩)(b:ev st as.toList=some vs)(hd:bA o.dst c.n)(p:aA (bC o.dst undef st) st')
  (h:U ab { c with defers:=dcall f vs.toArray::c.defers } R H st' (.inRegion ops rest::kk)):U ab c R H st (.inRegion ops (i::rest)::kk):=λ _ a =>
 Jd.ctl rfl (λ _=>step_defer ho hw d l g a b) (h _ ((a.put undef hd).sub p))
theorem aB.defer{J:QJ P}{as:Array Operand}{ee:Array TypeId}{vs:List Value}{st':St}(ho:ops[i]? = some o)(hw:bQ ops st o=some true)(d:(c.kind == CallKind.early)=false)(l:c.ro=none)(g:o.op = .defer ⟨.value (.func f),as,ee⟩)(b:ev st as.toList=some vs)(hd:bA o.dst c.n)(p:aA (bC o.dst undef st) st')
  (h:aB J { c with defers:=dcall f vs.toArray::c.defers } st' (.inRegion ops rest::kk)):aB J c st (.inRegion ops (i::rest)::kk):=λ _ a =>
 J.step rfl (λ _=>step_defer ho hw d l g a b) (h _ ((a.put undef hd).sub p))
theorem Dd{e:Array Value→Sem Value}{w w':World}{v:Value}{fT:Array Event}(hd:c.defers=dcall f args::ds)(d:dA P f e)(a:gb P (e args) f w v w' fT) :
  stepG P main (aO (ew c tmps todo) c.cs) w = .go (aO (ew { c with defers:=ds } tmps todo) c.cs) w' fT:=by
 obtain ⟨fn,h1,h2,h3,h4,h5⟩:=d.ex
 obtain ⟨l,b,p⟩:=a
 have g:(callFunc f args).run P w = .ok (.value v) w':=by rw [run_callFunc_extern h1 h2 h3 h4 h5,l]; rfl
 have hl:seen P c.fn ((callFunc f args).events P w #[])=fT:=by
  rw [events_callFunc_extern h1 h2 h3 h4 h5]
  simp only [List.push_toArray,List.nil_append]
  rw [b,seen_entry _ _ _ p]
 simp [ew,aO,aN,stepG,Go.unwind,callDeferred,hd,dcall,invoke,g,GStep.after] at hl ⊢
 exact hl
theorem NN{d:Nat}(hd:c.defers=dcall f args::ds)(a:dA P f (λ _=>do mark .enable; pure Extern.Race.none_))(h:∃ q,QuitsD P q (d - 1) (aO (ew { c with defers:=ds } tmps todo) c.cs)):∃ q,QuitsD P q d (aO (ew c tmps todo) c.cs):=by
 obtain ⟨q,b⟩:=h
 exact ⟨q+1,QuitsD.said ⟨.mark .enable,false,true⟩ rfl rfl (λ w=>Dd hd a (h7 (by simp))) b⟩
end
theorem KM.unwind{f:FuncId}{args:Array Value}{ds:List Deferred}{tmps:Array Value}{todo:List Item}{r:Nat}(hd:c.defers=dcall f args::ds)(a:dA F.P f (λ _=>do mark .enable; pure Extern.Race.none_))
  (h:Own F.P F.B true (KM F n (.go r)) R H (aO (ew { c with defers:=ds } tmps todo) c.cs)):KM F (n+1) (.ke r) R H (aO (ew c tmps todo) c.cs) :=
 ⟨rfl,rfl,λ w s _ b _=>.inr ⟨_,w,_,_,s,.ke,rfl,Dd hd a (h7 (by simp)),bG.refl b,h⟩⟩
section
variable {P:Program} {B:Base} {main:Bool}
def lI(P:Program):Frame:={ (default:Frame) with fn:=P.funcs.size,defers:=[],mode:=.panicking [goexitEntry] }
def p6(P:Program)(d:Deferred):Goroutine:={ frame:={ (default:Frame) with fn:=P.funcs.size,defers:=[d],mode:=.panicking [goexitEntry] },callers:=[],status:=.running,dying:=none }
theorem Px{a:Call}{d:Deferred}{tmps:Array Value}{w:World}(ho:ops[i]? = some o)(hw:bQ ops st o=some true)(b:o.op = .go a)(l:bV c.n st tmps)(g:∀ p,Knows st p→ah P (resolve p a o.type) d)(hd:(d.target matches .nil)=false) :
  stepG P main (aO (aN c tmps (.inRegion ops (i::rest)::kk)) c.cs) w = .spawn (aO (aN c (c7 o.dst undef tmps) (.inRegion ops rest::kk)) c.cs) (p6 P d) w #[]:=by
 rw [g7 ho (e2 l hw) (by rw [b]; rfl)]
 have q:=l.knows c (.inRegion ops (i::rest)::kk)
 have:ah P (execOp (aN c tmps (.inRegion ops (i::rest)::kk)).eval o) (.spawn d):=by
  simp only [execOp,b]
  exact ah.ba (g _ q) (ah.a0 _)
 have h:=this w
 rw [← hx (rest:=rest) (k:=kk) (c:=c) (tmps:=tmps) (v:=undef) ho]
 clear g this
 obtain ⟨r,t⟩:=d
 cases r <;> simp_all [stepG.apply,aO,GStep.after,seen_none,p6]
theorem Own.child{K:ax→ai→Goroutine→Prop}{f:FuncId}{args:Array Value}{d:Deferred}(hd:(d.target matches .nil)=false)(a:ah P (invoke d.target d.args) (.enter f args))(h:Own P B false K R H (aO (Frame.enter P f args .deferred) [lI P])):Own P B false K R H (p6 P d):=by
 refine (q6 P B false K).step rfl λ w hw=>⟨_,w,#[],R,H,?_,by simp,dg.refl hw,h⟩
 have g:(match d.target with | .collected _=>false | _=>true)=true:=by
  cases l:d.target with
  | collected b =>
   rw [l] at a
   have:=(a w).1
   simp [invoke] at this
  | _=>rfl
 have p:=a w
 obtain ⟨q,r⟩:=d
 simp only at g p hd
 unfold stepG p6
 simp only
 unfold Go.unwind
 cases q with
 | collected b=>cases g
 | _=>simp_all [callDeferred,Sem.runT_eq,GStep.after,seen_none,aO,lI]
theorem PT{f:FuncId}{captured args:Array Value}(he:aV P f):ah P (invoke (.fn (.func f) captured) args) (.enter f (args++captured)):=by
 obtain ⟨fn,h1,h2,h3⟩:=he.ex
 simp only [invoke]
 exact n9 h1 h2 h3
theorem Od{x:Operand}{a:Call}{f:FuncId}{cap:Array Value}{t:TypeId}(g:a.callee = .value x)(d:a.args=#[])(l:aU st x=some (.func (.func f) #[] cap))(b:Operand→Value)(p:Knows st b):ah P (resolve b a t) ⟨.fn (.func f) cap,#[]⟩:=by
 simp only [resolve,g,d,p x _ l,Deferred.ofValue]
 have e:(#[]:Array Value)++Array.map b #[]=#[]:=by simp
 rw [e]
 exact ah.a0 _
theorem G8{f:FuncId}{fn:Func}{body:Code}{args:List Value}{m:Nat}{kd:CallKind}{cs:List Frame}(b:P.funcs[f]? = some fn)(hb:fn.body=some body)(g:fn.ntmps=m)(a:Nat.ble args.length m=true) :
  ∃ tmps,bV m (ji 0 args) tmps∧Frame.enter P f args.toArray kd=aN ⟨f,kd,none,m,[],cs⟩ tmps [.code body]:=by
 subst g
 have a:args.length≤fn.ntmps:=by simpa [Nat.ble_eq] using a
 refine ⟨args.toArray++Array.replicate (fn.ntmps - args.length) undef,⟨by simp; omega,λ t v l=>?_⟩,by simp [Frame.enter,aN,b,hb]⟩
 obtain ⟨_,h2⟩:=pS args 0 t v l
 have d:t < args.length:=by
  have:=(dU.1 h2).1
  simpa using this
 rw [Array.getElem?_append_left (by simpa using d)]
 simpa using h2
theorem Jd.enter{ab:Jd P B main}{f:FuncId}{fn:Func}{body:Code}{args:List Value}{m:Nat}{kd:CallKind}{cs:List Frame}(a:P.funcs[f]? = some fn)(hb:fn.body=some body)(d:fn.ntmps=m)(b:Nat.ble args.length m=true)
  (h:U ab ⟨f,kd,none,m,[],cs⟩ R H (ji 0 args) [.code body]):ab.J R H (aO (Frame.enter P f args.toArray kd) cs):=by
 obtain ⟨tmps,g,e⟩:=G8 (kd:=kd) (cs:=cs) a hb d b
 rw [e]; exact h tmps g
theorem NO:QuitsD P 1 0 (aO (lI P) []):=by
 refine .inr ⟨rfl,{ aO (lI P) [] with status:=.finished },#[],by simp,λ w=>?_,rfl,rfl⟩
 have e:(default:Frame).todo=[]:=rfl
 simp [stepG,Go.unwind,aO,lI,goexitEntry,Frame.catches,e]
end
theorem KM.spawn{a:Call}{d:Deferred}{r:Nat}(ho:ops[i]? = some o)(hw:bQ ops st o=some true)(t:o.op = .go a)(u:∀ l,Knows st l→ah F.P (resolve l a o.type) d)(hd:(d.target matches .nil)=false)(q:bA o.dst c.n)
  (p:Own F.P F.B false (KW F n (F.N - (r+1)) 0 .ld) R [] (p6 F.P d)) (h:∀ g,bV c.n (bC o.dst undef st) g→Own F.P F.B true (KM F n (eZ r)) R H (aO (aN c g (.inRegion ops rest::kk)) c.cs)) :
  ∀ tmps,bV c.n st tmps→KM F (n+1) (.go r) R H (aO (aN c tmps (.inRegion ops (i::rest)::kk)) c.cs):=λ _ b =>
 ⟨rfl,rfl,λ _ _ _ _ _=>⟨_,_,Px ho hw t b u hd,p,h _ (b.put undef q)⟩⟩
end
def s0:Sh:=⟨.zero,0,0,0,0⟩
theorem eo.crowd{F:Fx}{Post:Value→World→Prop}{R:ax}{l:ai}{g:Goroutine}{r:Nat}(Z:F.mj=eo F.P F.B Post)(hN:F.N=r+1)(h:∀ n,Own F.P F.B true (KM F n (.ka r)) R l g) :
  eo F.P F.B Post R ((F.bo,F.cont λ _=>0)::(F.bw,g9 F.tw s0)::(F.bm,g3 F.tm s0)::l) g:=by
 intro gs w sl t q dd O u
 have Y:=ni O
 have d:=u.fits
 have A:=d.nd
 simp only [List.map_cons,List.nodup_cons,cJ,not_or,List.mem_map,not_exists] at A
 have L:(F.bo,F.cont λ _=>0)∈(F.bo,F.cont λ _=>0)::(F.bw,g9 F.tw s0)::(F.bm,g3 F.tm s0)::l:=by simp
 have M:(F.bw,g9 F.tw s0)∈(F.bo,F.cont λ _=>0)::(F.bw,g9 F.tw s0)::(F.bm,g3 F.tm s0)::l:=by simp
 have I:(F.bm,g3 F.tm s0)∈(F.bo,F.cont λ _=>0)::(F.bw,g9 F.tw s0)::(F.bm,g3 F.tm s0)::l:=by simp
 have out:∀ b,(b=F.bo∨b=F.bw∨b=F.bm)→R b=none∧∀ o',(b,o') ∉ l:=λ b hb=>by
  rcases hb with rfl | rfl | rfl
  ·exact ⟨d.dj _ _ L,λ o' C=>A.1.2.2 (F.bo,o') ⟨C,rfl⟩⟩
  ·exact ⟨d.dj _ _ M,λ o' C=>A.2.1.2 (F.bw,o') ⟨C,rfl⟩⟩
  ·exact ⟨d.dj _ _ I,λ o' C=>A.2.2.1 (F.bm,o') ⟨C,rfl⟩⟩
 have G:∀ n,cnt (bI (λ _=>.no) 0 (.mn (.ka r))) n = .zero:=λ n=>by
  have z:∀ f:Cn→Nat,f .zero=0→b4 n (λ i=>f (cA (bI (λ _=>.no) 0 (.mn (.ka r)) i)))=0:=λ f d=>by
   have e:∀ i,f (cA (bI (λ _=>.no) 0 (.mn (.ka r)) i))=0:=λ i=>by
    unfold bI; split <;> exact d
   have:=uh (b:=0) (f:=λ i=>f (cA (bI (λ _=>.no) 0 (.mn (.ka r)) i))) (λ i=>by rw [e]; exact b6 _) n
   omega
  unfold cnt
  simp only [z (·.ow) rfl,z (·.hl) rfl,z (·.pu) rfl,z (·.pc) rfl,z (·.al) rfl,z (·.z) rfl,z (·.a1) rfl,z (·.ak) rfl,z (·.ux) rfl,z (·.wk) rfl,z (·.lv) rfl,z (·.dw) rfl,z (·.d4) rfl]
  rfl
 have U:∀ i k j T,bI (λ _=>.no) 0 (.mn (.ka r)) i ≠ .wk k j T:=λ i k j T e=>by
  unfold bI at e; split at e <;> cases e
 have V:Bk F (31 * (gs.size+F.N)+1) (.ka r) (bI (λ _=>.no) 0 (.mn (.ka r))) (λ _=>0) s0 gs.size:=by
  refine ⟨eJ _ _ _,by simp,Y,λ i hi=>cZ (by omega),λ i T E=>?_,?_,?_,λ i k j T e=>absurd e (U i k j T),λ i i' k j j' T T' e=>absurd e (U i k j T),λ k S=>?_,λ k S=>rfl,by simp only [rem,hN]; omega⟩
  ·apply Classical.byContradiction
   intro aa
   rw [cZ aa] at E; cases E
  ·rw [G]; constructor <;> simp [Cn.zero,s0,Wd.zero]
  ·rw [G]; refine ⟨by simp [e6,Cn.zero,s0],by simp [Cn.zero,Cn.eI],by simp [Cn.zero,Cn.eI,rem,hN]⟩
  ·simp only [rem,hN] at S; omega
 have W:=u.d0
 obtain ⟨T,E⟩:=h (MM F (31 * (gs.size+F.N)+1) (bI (λ _=>.no) 0 (.mn (.ka r))) s0 gs.size)
 refine MI.runs (F:=F) (Q:=31 * (gs.size+F.N)+1) (T0:=.ka r) (D:=bI (λ _=>.no) 0 (.mn (.ka r))) (m:=λ i=>if i=0 then some T else some (ih (q i))) (js:=λ _=>0) (s:=s0) (th:=only ⟨R,l⟩) (mu:=λ _=>false) (dd:=dd) Z ⟨?_,?_,λ i x a=>?_,λ i hi=>⟨?_,rfl,u.dz i hi⟩,V⟩
 ·rw [G]
  have sub:∀ i x,only ⟨R,l⟩ i=some x→i=0∧x=⟨R,l⟩:=λ i x a=>by
   unfold only at a; split at a
   ·cases a; exact ⟨‹_›,rfl⟩
   ·cases a
  refine ⟨λ i x a=>?_,λ i j x y X a ac=>?_,λ c o p=>?_,λ c o p i x a=>?_⟩
  ·obtain ⟨rfl,rfl⟩:=sub i x a
   exact ⟨d.r,λ b o hb=>d.h b o (by simp [hb]),A.2.2.2,λ b o hb=>d.dj b o (by simp [hb]),d.os,d.tape,d.out⟩
  ·obtain ⟨rfl,_⟩:=sub i x a
   obtain ⟨rfl,_⟩:=sub j y ac
   exact absurd rfl X
  ·rcases nS p with ⟨rfl,rfl⟩ | ⟨rfl,rfl⟩ | ⟨rfl,rfl,_⟩
   ·exact d.h _ _ I
   ·exact d.h _ _ M
   ·exact d.h _ _ L
  ·obtain ⟨rfl,rfl⟩:=sub i x a
   rcases nS p with ⟨rfl,rfl⟩ | ⟨rfl,rfl⟩ | ⟨rfl,rfl,_⟩
   ·exact out _ (.inr (.inr rfl))
   ·exact out _ (.inr (.inl rfl))
   ·exact out _ (.inl rfl)
 ·rw [G]
  refine bX.share (bs:=[F.bm,F.bw]) (b:=F.bo) u.tr (λ c p=>?_) (λ x a=>by simp [a]) _ _
  simp only [cJ,List.not_mem_nil,or_false] at p
  rcases p with rfl | rfl | rfl
  ·exact ⟨_,L⟩
  ·exact ⟨_,I⟩
  ·exact ⟨_,M⟩
 ·by_cases hi:i=0
  ·subst hi
   rw [O] at a; cases a
   rw [eJ]
   exact ⟨rfl,W,rfl,⟨R,l⟩,_,rfl,b6 _,.inl ⟨T,by simp,E⟩⟩
  ·rw [cZ hi]
   refine ⟨by simp [only,hi],by omega,q i,by simp [hi],u.lv i x (by omega) a⟩
 ·have:i≠0:=by omega
  simp [only,this]
theorem Pr:∀ (l w s:Fin 2) (n:Fin 6),let v:Int:=(l.1:Int)+2 * w.1+4 * s.1+8 * n.1;
  cO .and .i32 v 1=some (l.1:Int)∧cO .and .i32 v 2=some (2 * w.1:Int)∧cO .and .i32 v 3=some ((l.1:Int)+2 * w.1)∧cO .and .i32 v 4=some (4 * s.1:Int)∧cO .and .i32 v 5=some ((l.1:Int)+4 * s.1) ∧
  cO .and .i32 v 7=some ((l.1:Int)+2 * w.1+4 * s.1)∧cO .or .i32 v 1=some (1+2 * w.1+4 * s.1+8 * n.1:Int)∧cO .or .i32 v 2=some ((l.1:Int)+2+4 * s.1+8 * n.1)∧cO .or .i32 v 4=some ((l.1:Int)+2 * w.1+4+8 * n.1) ∧
  cO .andNot .i32 v 2=some ((l.1:Int)+4 * s.1+8 * n.1)∧fa .i32 v 3=some (n.1:Int):=by decide +kernel
section
variable {m:Wd} (h:m.ok 5)
include h
theorem Wd.iU:cO .and .i32 m.val 1=some (m.l:Int)∧cO .and .i32 m.val 2=some (2 * m.w:Int)∧cO .and .i32 m.val 3=some ((m.l:Int)+2 * m.w)∧cO .and .i32 m.val 4=some (4 * m.s:Int)∧cO .and .i32 m.val 5=some ((m.l:Int)+4 * m.s) ∧
  cO .and .i32 m.val 7=some ((m.l:Int)+2 * m.w+4 * m.s)∧cO .or .i32 m.val 1=some (Wd.val { m with l:=1 })∧cO .or .i32 m.val 2=some (Wd.val { m with w:=1 })∧cO .or .i32 m.val 4=some (Wd.val { m with s:=1 }) ∧
  cO .andNot .i32 m.val 2=some (Wd.val { m with w:=0 })∧fa .i32 m.val 3=some (m.n:Int):=by
 obtain ⟨l,w,s,n⟩:=m
 obtain ⟨h1,h2,h3,h4⟩:=h
 have:=Pr ⟨l,by simp only at h1; omega⟩ ⟨w,by simp only at h2; omega⟩ ⟨s,by simp only at h3; omega⟩ ⟨n,by simp only at h4; omega⟩
 simpa [Wd.val] using this
theorem Wd.fit:0≤m.val∧m.val≤47:=by
 obtain ⟨h1,h2,h3,h4⟩:=h
 unfold Wd.val; omega
end
theorem wrap_i32{z:Int}(h1 : -2147483648≤z)(h2:z≤2147483647):IntKind.i32.wrap z=z:=by
 unfold IntKind.wrap
 simp [IntKind.signed,IntKind.bits]
 omega
theorem wrap_u32{z:Int}(h1:0≤z)(h2:z≤4294967295):IntKind.u32.wrap z=z:=by
 unfold IntKind.wrap
 simp [IntKind.signed,IntKind.bits]
 omega
theorem DR{z:Int}(h1:0≤z)(h2:z≤18446744073709551615):IntKind.u64.wrap z=z:=by
 unfold IntKind.wrap
 simp [IntKind.signed,IntKind.bits]
 omega
theorem Qb{z:Int}(h1:4294967296≤z)(h2:z≤18446744073709551615):IntKind.u64.wrap (z+18446744069414584320)=z - 4294967296:=by
 unfold IntKind.wrap
 simp [IntKind.signed,IntKind.bits]
 omega
theorem Pq:∀ (v:Fin 6) (w:Fin 2),let z:Int:=4294967296 * (v.1:Int)+w.1;
  cO .and .u64 z 2147483648=some 0∧cO .and .u64 z 2147483647=some (w.1:Int)∧fa .u64 z 32=some (v.1:Int):=by decide +kernel
theorem xZ{v w:Nat}(a:v≤5)(hw:w≤1):cO .and .u64 (4294967296 * (v:Int)+w) 2147483648=some 0∧cO .and .u64 (4294967296 * (v:Int)+w) 2147483647=some (w:Int)∧fa .u64 (4294967296 * (v:Int)+w) 32=some (v:Int):=by
 simpa using Pq ⟨v,by omega⟩ ⟨w,by omega⟩
class je (P:Program) where
 ki:Nat→Option IntKind
 ok:∀ t k,ki t=some k→P.underlying t=some (.int k)
def uT(bo:BinOp)(kd:IntKind)(a b:Int):Option Value :=
 match bo with
 | .eql=>some (.bool (a == b))
 | .neq=>some (.bool (a != b))
 | .lss=>some (.bool (decide (a < b)))
 | .leq=>some (.bool (decide (a≤b)))
 | .gtr=>some (.bool (decide (a > b)))
 | .geq=>some (.bool (decide (a ≥ b)))
 | .add=>some (.int kd (kd.wrap (a+b)))
 | .sub=>some (.int kd (kd.wrap (a - b)))
 | .and=>some (.int kd ((cO .and kd a b).getD 0))
 | .or=>some (.int kd ((cO .or kd a b).getD 0))
 | .andNot=>some (.int kd ((cO .andNot kd a b).getD 0))
 | _=>none
def s6(g:Nat→Nat→Option Nat)(ki:Nat→Option IntKind)(st:St)(o:Oper):Option Value :=
 match o.op with
 | .move x=>aU st x
 | .assign x=>aU st x
 | .nilCheck x=>match aU st x with
  | some (.pointer (some a))=>some (.pointer (some a))
  | _=>none
 | .pick x y z=>match aU st x with
  | some (.bool true)=>aU st y
  | some (.bool false)=>aU st z
  | _=>none
 | .unOp .not _ x=>match aU st x with
  | some (.bool a)=>some (.bool (!a))
  | _=>none
 | .binOp .shr _ x y _=>match aU st x,aU st y with
  | some (.int kd a),some (.int _ b)=>if b < 0 then none else some (.int kd (a.fdiv (2 ^ (min b.toNat kd.bits))))
  | _,_=>none
 | .binOp .shl _ x y _=>match aU st x,aU st y with
  | some (.int kd a),some (.int _ b)=>if b < 0 then none else some (.int kd (kd.wrap (a * 2 ^ (min b.toNat kd.bits))))
  | _,_=>none
 | .binOp bo _ x y _=>match aU st x,aU st y with
  | some (.int kd a),some (.int l b)=>if kd=l then uT bo kd a b else none
  | _,_=>none
 | .convert s d x=>match aU st x,ki s,ki d with
  | some (.int _ a),some _,some kd=>some (.int kd (kd.wrap a))
  | _,_,_=>none
 | .fieldAddr s x f=>match aU st x,g s f with
  | some (.pointer (some ⟨b,n,none⟩)),some off=>some (.pointer (some ⟨b,n+off,none⟩))
  | _,_=>none
 | _=>none
section
variable {P:Program} [fQ P] [je P] {B:Base} {main:Bool} {ab:Jd P B main} {J:QJ P} {c:Ctx} {R:ax} {H:ai} {st st':St} {o:Oper} {k:List Item}
omit [fQ P] [je P] in
theorem Dv{kd d:IntKind}{a b:Int}{t:TypeId}(hb:¬ b < 0):ah P (binOp .shr t (.int kd a) (.int d b)) (.int kd (a.fdiv (2 ^ (min b.toNat kd.bits))))∧ah P (binOp .shl t (.int kd a) (.int d b)) (.int kd (kd.wrap (a * 2 ^ (min b.toNat kd.bits)))):=by
 constructor <;> (simp only [binOp,Op.shift,if_false,hb]; exact ah.a0 _)
omit [fQ P] [je P] in
theorem PL{bo:BinOp}{kd:IntKind}{a b:Int}{t:TypeId}{v:Value}(h:uT bo kd a b=some v):ah P (binOp bo t (.int kd a) (.int kd b)) v:=by
 unfold uT at h
 cases bo <;> simp only [eh,reduceCtorEq] at h <;> subst h <;> simp only [binOp,ne_eq,eK,if_false,Op.intArith,Op.intBits,cO,gh] <;> exact ah.a0 _
theorem A0{v:Value}(h:s6 (fQ.off P) (je.ki P) st o=some v)(hd:bA o.dst c.n):jf P c o st v:=by
 unfold s6 at h
 split at h
 ·rename_i x g; exact OV.move g hd h
 ·rename_i x g; exact OV.assign g hd h
 ·rename_i x g
  split at h
  ·rename_i l; cases h; exact OV.nilCheck g hd l
  ·cases h
 ·rename_i x y z g
  split at h
  ·rename_i l; exact OV.ND g hd l h
  ·rename_i l; exact OV.NC g hd l h
  ·cases h
 ·rename_i t x g
  split at h
  ·rename_i l; cases h; exact OV.not g hd l
  ·cases h
 ·rename_i t x y u g
  split at h
  ·rename_i kd a q b l p
   split at h
   ·cases h
   ·rename_i hb; cases h; exact OV.bin g hd l p (Dv hb).1
  ·cases h
 ·rename_i t x y u g
  split at h
  ·rename_i kd a q b l p
   split at h
   ·cases h
   ·rename_i hb; cases h; exact OV.bin g hd l p (Dv hb).2
  ·cases h
 ·rename_i bo t x y u _ _ g
  split at h
  ·rename_i kd a q b l p
   split at h
   ·rename_i e; subst e; exact OV.bin g hd l p (PL h)
   ·cases h
  ·cases h
 ·rename_i s d x g
  split at h
  ·rename_i G a E kd l C A
   cases h
   refine ⟨by rw [g]; rfl,hd,λ I D=>?_⟩
   simp only [execOp,g,D x _ l]
   refine ah.ba ?_ (ah.a0 _)
   unfold convert
   exact ah.ba (ah.underlying (je.ok _ _ C)) (ah.ba (ah.underlying (je.ok _ _ A)) (ah.a0 _))
  ·cases h
 ·rename_i s x f g
  split at h
  ·rename_i l r; cases h; exact OV.fieldAddr g hd l (fQ.ok s f _ r)
  ·cases h
 ·cases h
def xI(a:Nat→Nat→Option Nat)(ki:Nat→Option IntKind)(ops:Array Oper)(n:Nat)(st:St)(i:Nat):Option St :=
 match ops[i]? with
 | none=>none
 | some o=>match bQ ops st o with
  | some true=>match s6 a ki st o,o.dst with
   | some v,some d=>if Nat.blt d n=true then some ((d,v)::st) else none
   | _,_=>none
  | some false=>match fU o.op,o.dst with
   | false,some d=>if Nat.blt d n=true then some ((d,undef)::st) else none
   | false,none=>some st
   | _,_=>none
  | none=>none
def iq(a:Nat→Nat→Option Nat)(ki:Nat→Option IntKind)(ops:Array Oper)(n:Nat):List Nat→St→Option St
 | [],st=>some st
 | i::is,st=>match xI a ki ops n st i with
  | some st'=>iq a ki ops n is st'
  | none=>none
theorem C8{ops:Array Oper}{n i:Nat}{b:Nat→Nat→Option Nat}{ki:Nat→Option IntKind}(h:xI b ki ops n st i=some st'):∃ o,ops[i]? = some o ∧
  ((bQ ops st o=some true∧∃ v d,s6 b ki st o=some v∧o.dst=some d∧bA (some d) n∧st'=(d,v)::st) ∨
   (bQ ops st o=some false∧fU o.op=false∧bA o.dst n∧st'=bC o.dst undef st)):=by
 unfold xI at h
 split at h
 ·cases h
 ·rename_i o ho
  refine ⟨o,ho,?_⟩
  split at h
  ·rename_i hw
   split at h
   ·rename_i v d g hd
    split at h
    ·rename_i hl; cases h; exact .inl ⟨hw,v,d,g,hd,hl,rfl⟩
    ·cases h
   ·cases h
  ·rename_i hw
   split at h
   ·rename_i d a hd
    split at h
    ·rename_i hl; cases h; exact .inr ⟨hw,a,by rw [hd]; exact hl,by rw [hd]; rfl⟩
    ·cases h
   ·rename_i a hd
    cases h; exact .inr ⟨hw,a,by rw [hd]; rfl,by rw [hd]; rfl⟩
   ·cases h
  ·cases h
theorem U.iq{ops:Array Oper}(b:(c.kind == CallKind.early)=false):∀ {is rest:List Nat} {st:St},Go.Lg.iq (fQ.off P) (je.ki P) ops c.n is st=some st'→U ab c R H st' (.inRegion ops rest::k)→U ab c R H st (.inRegion ops (is++rest)::k)
 | [],rest,st,h,a=>by cases h; exact a
 | i::is,rest,st,h,a=>by
  unfold Go.Lg.iq at h
  split at h
  ·rename_i q h1
   have g:=U.iq b h a
   obtain ⟨o,ho,⟨hw,v,d,l,hd,hl,rfl⟩ | ⟨hw,p,hl,rfl⟩⟩:=C8 h1
   ·exact U.val ho hw b (A0 l (by rw [hd]; exact hl)) (by rw [hd]; exact aA.refl _) g
   ·exact U.unwanted ho hw hl (aA.refl _) g
  ·cases h
theorem aB.iq{ops:Array Oper}(b:(c.kind == CallKind.early)=false):∀ {is rest:List Nat} {st:St},Go.Lg.iq (fQ.off P) (je.ki P) ops c.n is st=some st'→aB J c st' (.inRegion ops rest::k)→aB J c st (.inRegion ops (is++rest)::k)
 | [],rest,st,h,a=>by cases h; exact a
 | i::is,rest,st,h,a=>by
  unfold Go.Lg.iq at h
  split at h
  ·rename_i q h1
   have g:=aB.iq b h a
   obtain ⟨o,ho,⟨hw,v,d,l,hd,hl,rfl⟩ | ⟨hw,p,hl,rfl⟩⟩:=C8 h1
   ·exact aB.val ho hw b (A0 l (by rw [hd]; exact hl)) (by rw [hd]; exact aA.refl _) g
   ·exact aB.unwanted ho hw hl (aA.refl _) g
  ·cases h
theorem U.lv(m:Nat){ops:Array Oper}{is a:List Nat}(b:U ab c R H st' (.inRegion ops a::k))(h:Go.Lg.iq (fQ.off P) (je.ki P) ops c.n (is.take m) st=some st':=by rfl)(g:is.drop m=a:=by rfl)(d:(c.kind == CallKind.early)=false:=by rfl):U ab c R H st (.inRegion ops is::k):=by
 subst g
 have:=U.iq (rest:=is.drop m) d h b
 rwa [List.take_append_drop] at this
theorem aB.lv(m:Nat){ops:Array Oper}{is a:List Nat}(b:aB J c st' (.inRegion ops a::k))(h:Go.Lg.iq (fQ.off P) (je.ki P) ops c.n (is.take m) st=some st':=by rfl)(g:is.drop m=a:=by rfl)(d:(c.kind == CallKind.early)=false:=by rfl):aB J c st (.inRegion ops is::k):=by
 subst g
 have:=aB.iq (rest:=is.drop m) d h b
 rwa [List.take_append_drop] at this
end
section
variable {P:Program} {B:Base} {main:Bool} {ab:Jd P B main} {J:QJ P} {c:Ctx} {R:ax} {H:ai} {st st':St} {k:List Item}
theorem U.is(t:Nat){v v':Value}{todo:List Item}(b:st.lookup t=some v)(a:v=v')(h:U ab c R H ((t,v')::st) todo):U ab c R H st todo:=by
 subst a
 refine U.sub (λ u x hu=>?_) h
 rw [List.lookup_cons] at hu
 split at hu
 ·rename_i e; rw [beq_iff_eq] at e; subst e; rw [b]; exact hu
 ·exact hu
theorem aB.is(t:Nat){v v':Value}{todo:List Item}(b:st.lookup t=some v)(a:v=v')(h:aB J c ((t,v')::st) todo):aB J c st todo:=by
 subst a
 refine aB.sub (λ u x hu=>?_) h
 rw [List.lookup_cons] at hu
 split at hu
 ·rename_i e; rw [beq_iff_eq] at e; subst e; rw [b]; exact hu
 ·exact hu
theorem aB.rg(is:List Nat){id:Nat}{ops:Array Oper}(h:aB J c st (.inRegion ops is::k))(b:ops.size=is.length:=by rfl)(a:List.range is.length=is:=by rfl):aB J c st (.code (.region id ops false)::k):=aB.region b a h
def e5(P:Program)(J K:Goroutine→Prop)(f:FuncId)(vs:List Value):Prop :=
 ∀ fr cs,K (aO (Frame.finish fr (dZ [])) cs)→J (aO (Frame.enter P f vs.toArray .normal) (fr::cs))
variable {ops:Array Oper} {i:Nat} {rest:List Nat} {o:Oper} {f:FuncId} {as:Array Operand} {ee:Array TypeId} {vs:List Value} {K:Goroutine→Prop}
theorem U.jZ(ho:ops[i]? = some o)(hw:bQ ops st o=some true)(q:(c.kind == CallKind.early)=false)(b:o.op = .call ⟨.value (.func f),as,ee⟩)(l:ev st as.toList=some vs)(he:aV P f)(hd:bA o.dst c.n)
  (p:e5 P (ab.J R H) K f vs) (h:∀ g,bV c.n (bC o.dst (dZ []) st) g→K (aO (aN c g (.inRegion ops rest::k)) c.cs)):U ab c R H st (.inRegion ops (i::rest)::k):=λ tmps a=>by
 obtain ⟨fn,h1,h2,h3⟩:=he.ex
 have d:ah P (execOp (aN c tmps (.inRegion ops (i::rest)::k)).eval o) (.enter f vs.toArray):=by
  rw [oB b a l]
  exact n9 h1 h2 h3
 refine Jd.ctl rfl (λ w=>?_) (p (aN c tmps (.inRegion ops (i::rest)::k)) c.cs ?_)
 ·rw [g7 ho (e2 a hw) (by rw [b]; rfl),pR rfl (by simpa [aN] using q) (d w).1,(d w).2]
  rfl
 ·rw [hx ho]
  exact h _ (a.put _ hd)
theorem e5.gu{fn:Func}{body:Code}{n:Nat}(a:P.funcs[f]? = some fn)(hb:fn.body=some body)(g:fn.ntmps=n)(d:Nat.ble vs.length n=true)
  (h:∀ fr cs,K (aO (Frame.finish fr (dZ [])) cs)→U ab ⟨f,.normal,none,n,[],fr::cs⟩ R H (ji 0 vs) [.code body]):e5 P (ab.J R H) K f vs:=λ fr cs b=>Jd.enter a hb g d (h fr cs b)
theorem U.hq{m:Nat}{fn:Func}{fr:Frame}{cs:List Frame}{todo:List Item}(b:P.funcs[f]? = some fn)(g:fn.results.toList=[])(d:ab.J R H (aO (fr.finish (dZ [])) cs))(hm:todo=[]∨∃ k,todo = .code .ret::k):U ab ⟨f,.normal,none,m,[],fr::cs⟩ R H st todo:=by
 have key:∀ tmps todo,bV m st tmps→ab.J R H (aO (ew ⟨f,.normal,none,m,[],fr::cs⟩ tmps todo) (fr::cs)):=λ tmps todo a=>Jd.back b a (by rw [g]; rfl) d
 rcases hm with rfl | ⟨k,rfl⟩
 ·exact U.toEnd rfl λ tmps a=>key tmps _ a
 ·exact U.xN rfl λ tmps a=>key tmps _ a
end
section
variable {P:Program} {main:Bool} {c:Ctx} {st:St} {k:List Item} {ops:Array Oper} {i:Nat} {rest:List Nat} {o:Oper} {f:FuncId} {as:Array Operand} {ee:Array TypeId} {vs:List Value}
theorem Pm{tmps:Array Value}{w:World}(ho:ops[i]? = some o)(hw:bQ ops st o=some true)(p:(c.kind == CallKind.early)=false)(a:o.op = .call ⟨.value (.func f),as,ee⟩)(l:dA P f Extern.OsHooks.nano)(q:(P.funcs[f]?).any (·.norace)=true)(b:bV c.n st tmps)(d:ev st as.toList=some vs) :
  stepG P main (aO (aN c tmps (.inRegion ops (i::rest)::k)) c.cs) w = .go (aO (aN c (c7 o.dst (.int .i64 ((w.os.mono+w.tick:Nat):Int)) tmps) (.inRegion ops rest::k)) c.cs) w.later #[]:=by
 obtain ⟨fn,h1,h2,h3,h4,h5⟩:=l.ex
 have t:(Extern.OsHooks.nano vs.toArray).run P w = .ok (.int .i64 ((w.os.mono+w.tick:Nat):Int)) w.later:=rfl
 rw [g7 ho (e2 b hw) (by rw [a]; rfl),← hx (rest:=rest) (k:=k) (c:=c) (tmps:=tmps) (v:=.int .i64 ((w.os.mono+w.tick:Nat):Int)) ho,oB a b d]
 have r:(callFunc f vs.toArray).run P w = .ok (.value (.int .i64 ((w.os.mono+w.tick:Nat):Int))) w.later:=by rw [run_callFunc_extern h1 h2 h3 h4 h5,t]; rfl
 rw [m0 (by simpa [aN] using p) r]
 congr 1
 rw [events_callFunc_extern h1 h2 h3 h4 h5]
 simp only [List.push_toArray,List.nil_append]
 have g:(Extern.OsHooks.nano vs.toArray).events P w #[⟨.mark (.extern f),false,true⟩]=#[⟨.mark (.extern f),false,true⟩]++#[⟨.output,true,false⟩]:=rfl
 rw [g,seen_entry_out _ _ q]
end
section
variable {F:Fx} {c:Ctx} {R:ax} {H:ai} {st:St} {kk:List Item} {ops:Array Oper} {i:Nat} {rest:List Nat} {o:Oper} {f:FuncId} {as:Array Operand} {ee:Array TypeId} {vs:List Value} {n k j:Nat} {T:Lp}
theorem KW.nano(g:∀ w:World,F.B.os w.os→F.B.os w.later.os)(ho:ops[i]? = some o)(hw:bQ ops st o=some true)(r:(c.kind == CallKind.early)=false)(t:o.op = .call ⟨.value (.func f),as,ee⟩)(q:dA F.P f Extern.OsHooks.nano)(u:(F.P.funcs[f]?).any (·.norace)=true)(l:ev st as.toList=some vs)(hd:bA o.dst c.n)
  (a:T ≠ .us∧T ≠ .d4) (p:oA F T #[])
  (h:hL F.N T→∀ z:Int,∃ T',(∀ s,ca T s T' s)∧lF F j T T'∧∀ d,bV c.n (bC o.dst (.int .i64 z) st) d→kx F (KW F n k) k j T T' R H (aO (aN c d (.inRegion ops rest::kk)) c.cs)) :
  ∀ tmps,bV c.n st tmps→KW F (n+1) k j T R H (aO (aN c tmps (.inRegion ops (i::rest)::kk)) c.cs):=by
 intro tmps b C
 refine ⟨rfl,rfl,λ e=>by rcases e with e | e; exact absurd e a.1; exact absurd e a.2,λ w s D A E G=>.inr ?_⟩
 obtain ⟨T',h1,h2,h3⟩:=h C ((w.os.mono+w.tick:Nat):Int)
 exact ⟨_,w.later,#[],T',s,h1 s,h2,p,Pm ho hw r t q u b l,bG.later A (g w),h3 _ (b.put _ hd)⟩
end
section
variable {F:Fx} {c:Ctx} {R:ax} {H:ai} {st:St} {todo:List Item} {n k j:Nat} {T T':Lp} {T0:Mp}
theorem U.Po(h:∀ m,m < n→∀ tmps,bV c.n st tmps→KW F (m+1) k j T R H (aO (aN c tmps todo) c.cs)):U (q6 F.P F.B false (KW F n k j T)) c R H st todo:=λ tmps a=>by
 cases n with
 | zero=>exact Own.stop _ _ _ _ trivial
 | succ n=>exact Own.stop _ _ _ _ (h n (Nat.lt_succ_self n) tmps a)
theorem U.Pn(h:∀ m,m < n→∀ tmps,bV c.n st tmps→KM F (m+1) T0 R H (aO (aN c tmps todo) c.cs)):U (q6 F.P F.B true (KM F n T0)) c R H st todo:=λ tmps a=>by
 cases n with
 | zero=>exact Own.stop _ _ _ _ trivial
 | succ n=>exact Own.stop _ _ _ _ (h n (Nat.lt_succ_self n) tmps a)
theorem gO(h:T ≠ .ue):lF F j T T':=by unfold lF; split <;> first | trivial | exact absurd rfl h
theorem It(c:Lc):hd c = .sq c∨hd c = .c2 c:=by unfold hd; split; exact .inl rfl; exact .inr rfl
theorem Pd(c:Lc):ey c = .c1 c∨ey c = .r1 c:=by unfold ey; split; exact .inl rfl; exact .inr rfl
theorem Iw(m:Wd):hu m = .ue∨hu m = .uc m:=by unfold hu; split; exact .inl rfl; exact .inr rfl
theorem tG{K:Nat→Lp→ax→ai→Goroutine→Prop}{c:Lc}{g:Goroutine}(h:Own F.P F.B false (K j (hd c)) R H g):kx F K k j T (hd c) R H g:=by rcases It c with e | e <;> rw [e] at h ⊢ <;> exact h
theorem M6{K:Nat→Lp→ax→ai→Goroutine→Prop}{c:Lc}{g:Goroutine}(h:Own F.P F.B false (K j (ey c)) R H g):kx F K k j T (ey c) R H g:=by rcases Pd c with e | e <;> rw [e] at h ⊢ <;> exact h
theorem Ci{K:Nat→Lp→ax→ai→Goroutine→Prop}{m:Wd}{g:Goroutine}(h:Own F.P F.B false (K j (hu m)) R H g):kx F K k j T (hu m) R H g:=by rcases Iw m with e | e <;> rw [e] at h ⊢ <;> exact h
end
section
variable {P:Program} {B:Base} {main:Bool} {ab:Jd P B main} {c:Ctx} {R:ax} {H:ai} {st st':St} {k:List Item} {ops:Array Oper} {i:Nat} {rest:List Nat} {o:Oper} {f:FuncId} {as:Array Operand} {ee:Array TypeId} {e:Array Value→Sem Value} {vs:List Value} {v:Value}
theorem U.ext(ho:ops[i]? = some o)(hw:bQ ops st o=some true)(l:(c.kind == CallKind.early)=false)(p:o.op = .call ⟨.value (.func f),as,ee⟩)(hd:bA o.dst c.n)(g:dA P f e)(d:ev st as.toList=some vs)
  (b:∀ w,gb P (e vs.toArray) f w v w #[]) (q:aA (bC o.dst v st) st') (h:U ab c R H st' (.inRegion ops rest::k)):U ab c R H st (.inRegion ops (i::rest)::k):=λ _ a =>
 Jd.ctl rfl (λ w=>rk ho hw l p g a d (b w)) (h _ ((a.put v hd).sub q))
theorem vO{w:World}:gb P (pure v) f w v w #[]:=⟨rfl,rfl,by simp⟩
theorem U.join{x:Operand}{th el:Code}{b:Bool}(a:aU st x=some (.bool b))(h1:b=true→U ab c R H st' k→U ab c R H st (.code th::k))(h2:b=false→U ab c R H st' k→U ab c R H st (.code el::k))(h:U ab c R H st' k):U ab c R H st (.code (.cond x th el)::k):=by
 cases b
 ·exact U.cw a rfl (h2 rfl h)
 ·exact U.c5 a rfl (h1 rfl h)
theorem U.head{X:Type}{Jn:Nat→X→Jd P B main}{S:X→St}{ok:X→Prop}{todo:List Item}(step:∀ n,(∀ m,m < n→∀ x,ok x→U (Jn m x) c R H (S x) todo)→∀ x,ok x→U (Jn n x) c R H (S x) todo)(n:Nat)(x:X)(a:ok x):U (Jn n x) c R H (S x) todo:=by
 induction n using Nat.strongRecOn generalizing x with
 | _ n b=>exact step n (λ m hm x a=>b m hm x a) x a
end
open Go.ChangeShapes Go.RowKit
open Go.ConcM (OsLater)
section
variable {P:Program} {B:Base} {PW:Value→World→Prop} {R:ax} {H:ai} {st:St} {k:List Item}
theorem eo.Fp{g:Goroutine}(C:g.status = .running)(h:∀ w,Fits B R H w→∃ v w' es R' H',stepG P true g w = .ended (.done v) w' es∧(∀ e∈es,dW R H w.heap.size w'.heap.size e)∧dg B R H w R' H' w'∧PW v w'):eo P B PW R H g:=by
 refine eo.pick C λ gs w sl E d t q dd r a D=>?_
 obtain ⟨v,w',es,R',H',h1,h2,hu,h3⟩:=h _ a.fits
 have A:=runT_many_ended (P:=P) (sl:=E) (i:=0) r (show stepG P (0 == 0) g (w.at d)=_ from h1)
 have b:=q7 a.mem xe xd a.tr (i:=0) rfl (.inl rfl) h2 (.inl rfl) hu g.frame.fn g.frame.place
 rw [tO] at b
 refine fl.end (D.trans A) ⟨v,rfl,h3,b.2.clean,b.2.handed,⟨λ x p=>?_,rfl⟩,λ j x p l=>?_⟩
 ·obtain ⟨j,l⟩:=List.mem_iff_getElem?.1 p
  rw [List.getElem?_drop] at l
  exact ⟨_,(a.lv (1+j) x (by omega) (by simpa [Go.Conc.crowd] using l)).leaves⟩
 ·have u:=a.lv j x (by omega) p
  refine ⟨q j,?_⟩
  have e:Trace.deaf _ j _=dd j:=b.2.deaf j
  rw [e]
  exact u.hears _
def rB(P:Program)(B:Base)(PW:Value→World→Prop)(f:FuncId)(args:Array Value)(R:ax)(H:ai)(Post:Value→ax→ai→Prop):Prop :=
 (∀ v R' H' w,Post v R' H'→Fits B R' H' w→PW v w)→eo P B PW R H (aO (Frame.enter P f args .normal) [])
theorem rB.gu{f:FuncId}{fn:Func}{body:Code}{args:List Value}{n:Nat}{Post:Value→ax→ai→Prop}(b:P.funcs[f]? = some fn)(hb:fn.body=some body)(l:fn.ntmps=n)(a:Nat.ble args.length n=true)
  (h:(∀ v R' H' w,Post v R' H'→Fits B R' H' w→PW v w)→U (nV P B PW) ⟨f,.normal,none,n,[],[]⟩ R H (ji 0 args) [.code body]):rB P B PW f args.toArray R H Post:=by
 subst l
 intro d
 have a:args.length≤fn.ntmps:=by simpa [Nat.ble_eq] using a
 have:=h d (args.toArray++Array.replicate (fn.ntmps - args.length) undef) ⟨by simp; omega,λ t v p=>?_⟩
 ·have e:Frame.enter P f args.toArray .normal=aN ⟨f,.normal,none,fn.ntmps,[],[]⟩ (args.toArray++Array.replicate (fn.ntmps - args.length) undef) [.code body]:=by
   simp [Frame.enter,aN,b,hb]
  rw [e]
  exact this
 ·obtain ⟨_,h2⟩:=pS args 0 t v p
  have g:t < args.length:=by
   have:=(dU.1 h2).1
   simpa using this
  rw [Array.getElem?_append_left (by simpa using g)]
  simpa using h2
theorem U.n3{H':ai}{f:FuncId}{n:Nat}{fn:Func}{vs:List Value}{Post:Value→ax→ai→Prop}(a:P.funcs[f]? = some fn)(hi:P.inits.idxOf? f=none)(g:gT P R H st fn.results.toList vs)(l:List.Sublist H' H)
  (b:∀ v R' H' w,Post v R' H'→Fits B R' H' w→PW v w) (d:Post (dZ vs) R H'):U (nV P B PW) ⟨f,.normal,none,n,[],[]⟩ R H st (.code .ret::k):=λ tmps p=>by
 refine Jd.ctl (g':=aO { (aN ⟨f,.normal,none,n,[],[]⟩ tmps (.code .ret::k)) with mode:=.returning } []) rfl (λ w=>by simp [stepG,stepG.exec,aO,aN])
  (eo.Fp rfl λ w hw=>?_)
 obtain ⟨v,w',R',H2,h1,h2,h3,rfl,rfl,rfl⟩:=tV (P:=P) p g w hw
 refine ⟨dZ vs,w',seen P f ((results fn tmps).events P w #[]),_,_,?_,λ e he=>h2 e (mem_seen he),h3,b _ _ _ _ d (uo l h3.fits).fits⟩
 simp [stepG,unwind,doReturn,aO,aN,a,h1,GStep.after,hi]
end
def hB(W:World):ax:=λ b=>W.heap[b]?
def om(W:World):Base:=⟨OsLater W.os,W.tape,W.output⟩
theorem Iu(W:World):Fits (om W) (hB W) [] W:=⟨λ _ _ h=>h,by simp,by simp,by simp,OsLater.refl _,rfl,rfl⟩
theorem EE{W w:World}(h:(om W).os w.os):(om W).os w.later.os:=OsLater.trans h ⟨w.tick,rfl⟩
theorem MZ{P:Program}{PW:Value→World→Prop}{W:World}{g:Goroutine}(h:eo P (om W) PW (hB W) [] g) :
  ∃ M last o w' t',runNT P (M+1) (solo g W) #[]=(.ended o w',t')∧runN P M (solo g W) = .next last∧step P last = .ended o w'∧Conc.Good P PW last o w' t':=by
 have p:∀ k a,touchAt (#[]:Trace) k=some a→False:=λ k a l=>by simp [touchAt,Trace.act?] at l
 refine h #[g] W none #[] (λ _=>0) (λ _=>0) rfl ⟨⟨λ i x d=>?_,λ i j x y t d q=>?_,by simp,by simp⟩,⟨λ i x d b o hb k a l=>(p k a l).elim,λ i x d b o hb k a l=>(p k a l).elim,λ b hb=>(by cases hb),λ b hb=>(by cases hb),by simp,λ k a l=>(p k a l).elim,λ i=>rfl,λ a i hi=>(by simp [Trace.act?] at hi),λ said=>?_,λ k a l=>(p k a l).elim⟩,rfl,λ _ _=>rfl,λ i g' hi r=>?_⟩
 ·unfold only at d
  split at d
  ·cases d; exact Iu W
  ·cases d
 ·unfold only at d q
  split at d
  ·split at q
   ·omega
   ·cases q
  ·cases d
 ·rintro ⟨i,j,_,⟨a,b,h1,_⟩,_⟩
  exact p i a h1
 ·have:i < 1:=(Array.getElem?_eq_some_iff.1 r).1
  omega
theorem EF{W w:World}{R:ax}{H:ai}(h:Fits (om W) R H w)(a:aJ (hB W) R):Below W.heap.size W { w with os:=W.os }:=by
 have hb:∀ k,k < W.heap.size→w.heap[k]? = W.heap[k]? := λ k b=>by
  have e:W.heap[k]? = some W.heap[k]:=hc b
  rw [e]
  exact h.r k _ (a k _ e)
 refine ⟨rfl,h.tape,h.out,?_,hb⟩
 by_cases d:W.heap.size=0
 ·omega
 ·have h1:=hb (W.heap.size - 1) (by omega)
  rw [hc (xs:=W.heap) (by omega)] at h1
  have:=(Array.getElem?_eq_some_iff.1 h1).1
  show W.heap.size≤w.heap.size
  omega
structure df (P:Program) (t:TypeId) {α:Type} (C:bH α) (k:Nat):Prop where
 size:P.cellsOf t=k
 rd:∀ (W:World) (T:Type) (enc:TypeId × Value→T) (sp:Nat→Bool) (held:Bool) (fuel:Nat) (cs:List Value) (x:DataW T × List MemPlace),DataW.trod enc P W 0 sp held fuel t cs=some x→cs.length=k∧∃ a,C (hB W) a cs
theorem df.int{P:Program}{t:TypeId}{kd:IntKind}(a:P.cellsOf t=1)(b:P.underlying t=some (.int kd)):df P t (CI kd) 1:=⟨a,λ W T enc sp held fuel cs x h=>by
 obtain ⟨n,rfl,_,_⟩:=DataW.trod_int b h
 exact ⟨rfl,n,rfl⟩⟩
theorem df.str{P:Program}{t:TypeId}(a:P.cellsOf t=1)(b:P.underlying t=some .string):df P t CS 1:=⟨a,λ W T enc sp held fuel cs x h=>by
 obtain ⟨s,rfl,_,_⟩:=DataW.trod_string b h
 exact ⟨rfl,s,rfl⟩⟩
def CW(kd:IntKind):bH Int:=λ _ x es=>es=[.int kd x]∧kd.min≤x∧x≤kd.max
theorem df.ID{P:Program}{t:TypeId}{kd:IntKind}(a:P.cellsOf t=1)(b:P.underlying t=some (.int kd)):df P t (CW kd) 1:=⟨a,λ W T enc sp held fuel cs x h=>by
 obtain ⟨n,rfl,_,hw⟩:=DataW.trod_int b h
 simp only [Lit.wf,cM,decide_eq_true_eq] at hw
 exact ⟨rfl,n,rfl,hw⟩⟩
theorem aa.P5{α:Type}{C a:bH α}{k:Nat}{R:ax}{v:Value}{xs:List α}(h:aa C k R v xs)(l:∀ x es,C R x es→a R x es):aa a k R v xs:=by
 obtain ⟨A,cap,es,h1,h2,h3,h4⟩:=h
 exact ⟨A,cap,es,h1,⟨h2.len,λ i x p=>by obtain ⟨e,b,d,g⟩:=h2.at_ i x p; exact ⟨e,l _ _ b,d,g⟩⟩,h3,h4⟩
theorem aa.each{α:Type}{C:bH α}{k:Nat}{R:ax}{v:Value}{xs:List α}(h:aa C k R v xs):∀ x∈xs,∃ es,C R x es:=by
 obtain ⟨A,cap,es,_,h2,_⟩:=h
 intro x b
 obtain ⟨i,hi⟩:=List.getElem?_of_mem b
 obtain ⟨e,a,_⟩:=h2.at_ i x hi
 exact ⟨e,a⟩
theorem D8(a:Addr)(i j:Nat)(h:a.spot=none):(a.add i).add j=⟨a.block,a.off+(i+j),none⟩:=by
 obtain ⟨b,o,s⟩:=a
 cases h
 rw [hT,hT,Nat.add_assoc]
theorem df.slice{P:Program}{t e:TypeId}{α:Type}{C:bH α}{k:Nat}(Q:P.cellsOf t=1)(S:P.underlying t=some (.slice e))(G:0 < k)(he:df P e C k):df P t (ej C k) 1:=⟨Q,λ W T enc sp held fuel cs x h=>by
 rcases DataW.trod_slice S h with ⟨rfl,_⟩ | ⟨a,len,cap,elems,rest,n,_,rfl,_,_,hl,_,hlen,D,_⟩
 ·exact ⟨rfl,[],_,rfl,aa.nil⟩
 refine ⟨rfl,?_⟩
 rw [he.size] at D
 have each:∀ i:Fin len,∃ (p:α × List Value),C (hB W) p.1 p.2∧p.2.length=k∧∀ j w,p.2[j]? = some w→W.cell? ((a.add (i * k)).add j)=some w:=λ i=>by
  have h1:=D i i.2
  rw [ez (by omega),Option.bind_eq_some_iff] at h1
  obtain ⟨ch,h2,h3⟩:=h1
  obtain ⟨h4,y,V⟩:=he.rd _ _ _ _ _ _ _ _ h3
  refine ⟨(y,ch),V,h4,λ j w d=>?_⟩
  have h5:=(World.cells?_some h2).2.2 j (by have:=(dU.1 d).1; simp only at this; omega)
  rw [h5]
  exact d
 have I:0 < len→a.spot=none:=λ q=>by
  obtain ⟨p,_,h2,h3⟩:=each ⟨0,q⟩
  have h4:=h3 0 p.2[0] (ez (by omega))
  simpa [Addr.add] using World.cell?_spot h4
 let f:Fin len→α × List Value:=λ i=>(each i).choose
 have l:∀ i,_:=λ i=>(each i).choose_spec
 let xs:List α:=List.ofFn λ i=>(f i).1
 let es:List Value:=(List.range (len * k)).map λ m=>(W.cell? ⟨a.block,a.off+m,none⟩).getD undef
 have r:xs.length=len:=by simp [xs]
 have cell:∀ i j w (hi:i < len),(f ⟨i,hi⟩).2[j]? = some w→W.cell? ⟨a.block,a.off+(i * k+j),none⟩=some w:=λ i j w hi d=>by
  have:=(l ⟨i,hi⟩).2.2 j w d
  rwa [D8 _ _ _ (I (by omega))] at this
 have idx:∀ i j,i < len→j < k→i * k+j < len * k:=λ i j hi d=>by
  have:(i+1) * k≤len * k:=Nat.mul_le_mul_right k hi
  rw [Nat.add_mul] at this
  omega
 refine ⟨xs,_,rfl,some a,cap,es,by rw [r],⟨by simp [es,r],λ i x A=>?_⟩,by omega,λ O=>?_⟩
 ·have hi:i < len:=by rw [← r]; exact (dU.1 A).1
  have U:x=(f ⟨i,hi⟩).1:=by
   simp only [xs,List.getElem?_ofFn,hi,dif_pos,eh] at A
   exact A.symm
  subst U
  refine ⟨(f ⟨i,hi⟩).2,(l ⟨i,hi⟩).1,(l ⟨i,hi⟩).2.1,λ j w d=>?_⟩
  have N:j < k:=by have:=(dU.1 d).1; rw [(l ⟨i,hi⟩).2.1] at this; exact this
  simp only [es,List.getElem?_map,List.getElem?_range (idx i j hi N),Option.map_some,cell i j w hi d,gh]
 ·have q:0 < len:=by rw [← r]; exact List.length_pos_iff.2 O
  obtain ⟨b,o,s⟩:=a
  obtain rfl:s=none:=I q
  have all:∀ m,m < len * k→∃ w,W.cell? ⟨b,o+m,none⟩=some w:=λ m hm=>by
   have hi:m / k < len:=Nat.div_lt_of_lt_mul (by rw [Nat.mul_comm]; exact hm)
   have d:m % k < (f ⟨m / k,hi⟩).2.length:=by rw [(l ⟨m / k,hi⟩).2.1]; exact Nat.mod_lt _ G
   have:=cell (m / k) (m % k) _ hi (ez d)
   rw [show m / k * k+m % k=m by rw [Nat.mul_comm]; exact Nat.div_add_mod m k] at this
   exact ⟨_,this⟩
  have M:∃ arr e g,W.heap[b]? = some (.cells arr e g):=by
   obtain ⟨w,hw⟩:=all 0 (Nat.mul_pos q G)
   unfold World.cell? at hw
   simp only at hw
   split at hw
   ·rename_i c u g hb
    exact ⟨c,u,g,hb⟩
   ·cases hw
  obtain ⟨arr,u,g,hb⟩:=M
  refine ⟨b,o,arr,u,g,rfl,hb,λ j w d=>?_⟩
  have E:j < len * k:=by have:=(dU.1 d).1; simpa [es] using this
  obtain ⟨w',L⟩:=all j E
  simp only [es,List.getElem?_map,List.getElem?_range E,Option.map_some,L,gh,eh] at d
  subst d
  simpa [World.cell?,hb] using L⟩
theorem df.field{P:Program}{t:TypeId}{α:Type}{C:bH α}{k:Nat}(hC:df P t C k){W:World}{T:Type}{enc:TypeId × Value→T}{sp:Nat→Bool}{held:Bool}{n:Nat}{cs:List Value}{xs:List (DataW T × List MemPlace)}{i m:Nat}{f:Field}(es:List Value)(d:xs.length=m)
  (h:DataW.trod enc P W 0 sp held n f.type ((cs.drop f.offset).take (P.cellsOf f.type))=xs[i]?) (hi:Nat.blt i m=true:=by rfl) (b:f.type=t:=by rfl) (he:(cs.drop f.offset).take k=es:=by rfl):∃ a,C (hB W) a es:=by
 rw [b,hC.size,he,ez (by rw [d]; simpa [Nat.blt_eq] using hi)] at h
 exact (hC.rd _ _ _ _ _ _ _ _ h).2
theorem Dj{T:Type}{enc:TypeId × Value→T}{P:Program}(hl:laidOutB P=true){W r:World}(hb:Below W.heap.size W r) :
  ∀ {ts:List TypeId} {vs:List Value} {ds:List (DataW T)} {l:List MemPlace},(ts.all λ t=>P.readableRec t && decide (t < P.types.size))=true→DataW.TrodAll enc P W 0 (λ _=>true) true ts vs ds l→(∀ x∈l,x.block < W.heap.size) →
   DataW.TrodAll enc P r 0 (λ b=>decide (b < W.heap.size)) true ts vs ds l
 | [],[],[],_,_,h,_=>h
 | t::ts,v::vs,d::ds,_,a,⟨p,q,h1,h2,e⟩,u=>by
  subst e
  simp only [List.all_cons,cM,decide_eq_true_eq] at a
  exact ⟨p,q,Below.trod hl a.1.1 a.1.2 h1 hb (λ x g=>u x (by simp [g])),Dj hl hb a.2 h2 (λ x g=>u x (by simp [g])),rfl⟩
 | [],[],_::_,_,_,h,_=>h.elim
 | [],_::_,_,_,_,h,_=>h.elim
 | _::_,[],_,_,_,h,_=>h.elim
 | _::_,_::_,[],_,_,h,_=>h.elim
theorem P8{T:Type}{enc:TypeId × Value→T}{C:Checked}{os:Os}{f:FuncId}{fn:Func}{s:ChangeSpec}{conds:List PathCond}{apart:Bool}{X:World→Array Value→Prop}(a:World)(args:Array Value)(fuel:Nat)(d:a.os=os)
  (l:(a.forCall (λ _ _=>0) ⟨#[],args,[]⟩).Shaped C.prog)
  (b:Input.okWideB C.prog (a.forCall (λ _ _=>0) ⟨#[],args,[]⟩) f ⟨#[],args,[]⟩=true)
  (g:s.preB enc C.prog fn conds apart (a.forCall (λ _ _=>0) ⟨#[],args,[]⟩).memory args fuel=true)
  (p:s.sizedB enc C.prog fn apart (a.forCall (λ _ _=>0) ⟨#[],args,[]⟩).memory args fuel=true)
  (q:X (a.forCall (λ _ _=>0) ⟨#[],args,[]⟩).memory args) :
  ∃ (w:World) (tape:Tape) (i:Input),w.os=os∧(w.forCall tape i).Shaped C.prog∧i.vars=[]∧Input.okWide C.prog (w.forCall tape i) .any w.heap.size f i ∧
   ((s.pre enc C.prog fn conds apart (w.forCall tape i).memory i.args∧X (w.forCall tape i).memory i.args)∧sizedMet enc C.prog fn (OpenSpec.ofChange s) apart (w.forCall tape i).memory i.args)∧({ calm:=true }:Assume).holds C.prog (lone (Frame.enter C.prog f i.args .normal) [] (w.forCall tape i)) :=
 ⟨a,λ _ _=>0,⟨#[],args,[]⟩,d,l,(Input.okWide_of_okWideB (base:=0) b).1,(Input.okWide_of_okWideB b).2,⟨⟨ChangeSpec.pre_of_preB g,q⟩,sizedMet_of_sizedB p⟩,by
  simp only [Assume.holds]
  exact ⟨by simp,λ _ _ _ _=>rfl,by simp,by simp,by simp⟩⟩
theorem JN{T:Type}{enc:TypeId × Value→T}{a:Assume}{C:Checked}{os:Os}{f:FuncId}{fn:Func}{s:ChangeSpec}{F:Stop.Interp}{conds:List PathCond}{apart fresh handsOn:Bool}{X:World→Array Value→Prop}
  (l:∀ (w w':World) (args:Array Value),w.heap=w'.heap→X w args→X w' args)
  (own:ownKnob C.prog.godebug=none) (started:os.Started) (p:C.prog.funcs[f]? = some fn)
  (witness:∃ (w:World) (tape:Tape) (i:Input),w.os=os∧(w.forCall tape i).Shaped C.prog∧i.vars=[]∧Input.okWide C.prog (w.forCall tape i) .any w.heap.size f i ∧
   ((s.pre enc C.prog fn conds apart (w.forCall tape i).memory i.args∧X (w.forCall tape i).memory i.args)∧sizedMet enc C.prog fn (OpenSpec.ofChange s) apart (w.forCall tape i).memory i.args)∧a.holds C.prog (lone (Frame.enter C.prog f i.args .normal) [] (w.forCall tape i)))
  (runs:∀ (W:World) (base:Nat) (args:Array Value) (ds gs:List (DataW T)) (before:List MemPlace),
   (∀ (j:Nat) t v,fn.params[j]? = some t→args[j]? = some v→Value.okWide C.prog W .any base t v) →
   DataW.Whole enc C.prog fn.params.toList s.vars apart W args.toList ds gs before→X W args →
   ∃ M last o w' t',runNT C.prog (M+1) (solo (aO (Frame.enter C.prog f args .normal) []) W) #[]=(.ended o w',t')∧runN C.prog M (solo (aO (Frame.enter C.prog f args .normal) []) W) = .next last ∧
    Go.step C.prog last = .ended o w'∧Conc.Good C.prog (λ v b=>s.post enc C.prog fn apart fresh handsOn false W args v { b with os:=W.os }∧OsLater W.os b.os) last o w' t') :
  ReturnsInLeavingWide a C os f .any (λ w args=>(s.pre enc C.prog fn conds apart w args∧X w args)∧sizedMet enc C.prog fn (OpenSpec.ofChange s) apart w args) ((OpenSpec.ofChange s).postWith enc C.prog fn F (outsideKept [.timePasses]) apart fresh handsOn):=by
 refine returnsInLeavingWide_of_good own started witness ?_
 intro w tape i _ _ _ r u _
 obtain ⟨_,_,_,g,q,_,_,_,_,A⟩:=r
 have e:g=fn:=ed (q.symm.trans p)
 subst e
 obtain ⟨⟨⟨ds,gs,before,hw,G⟩,E⟩,_⟩:=u
 have D:=DataW.Whole.of_heap (w':=w.forCall tape i) (by rfl) hw
 obtain ⟨M,last,o,w',t',h1,h2,h3,h4⟩:=runs (w.forCall tape i) w.heap.size i.args ds gs before A D (l _ _ _ (by rfl) E)
 exact ⟨M,last,o,w',t',h1,h2,h3,h4.mono λ v d=>postWith_blind (postWith_of_post d.1 d.2)⟩
theorem NI{T:Type}{enc:TypeId × Value→T}{P:Program}{fn:Func}{s:ChangeSpec}{apart fresh handsOn again:Bool}{W w:World}{args:Array Value}{ds gs:List (DataW T)}{before:List MemPlace}{l:TypeId}
  (hl:laidOutB P=true) (D:(fn.params.toList.all λ t=>P.readableRec t && decide (t < P.types.size))=true) (g:s.vars=[]) (E:fn.resultTypes=#[l]) (G:P.underlying l=some .bool)
  (hW:DataW.Whole enc P fn.params.toList s.vars apart W args.toList ds gs before) (A:again=false) (hb:Below W.heap.size W w)
  (h1:(s.fn T (ds++[])).results=[.lit (.bool true)]) (h2:(s.fn T (ds++[])).args=ds) (h3:(s.fn T (ds++[])).vars=[]):s.post enc P fn apart fresh handsOn again W args (.bool true) w:=by
 have d:=hW
 have C:∀ x∈before,x.block < W.heap.size:=λ x a=>by simpa using d.lt x a
 obtain ⟨p,q,u,b,e,_,_⟩:=hW
 rw [g] at b
 obtain ⟨e1,r⟩:=trodVars_none b
 subst e1 r e
 refine ⟨ds,[],p++[],[],p,[],d,?_,?_,by rw [g,h3]; rfl,hb.frame _,λ h=>by rw [A] at h; cases h⟩
 ·rw [h1,E]
  exact trodAll_mk1 (shut_bool G true)
 ·rw [h2]
  exact Dj hl hb D u (λ x a=>C x (by simp [a]))
theorem EO{W:World}{b o:Nat}{v:Value}(h:W.cell? ⟨b,o,none⟩=some v):Cell (hB W) [] ⟨b,o,none⟩ v:=by
 unfold World.cell? at h
 simp only at h
 split at h
 ·rename_i c e a hb
  exact ⟨rfl,c,e,a,.inl hb,by simpa using h⟩
 ·cases h
end Go.Lg
