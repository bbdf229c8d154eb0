/- What enters and leaves the machine; the run of a row. Conditions: none. -/
import Derived.Test.YtihapemckcdicaaGreatDoorQELgC
import Derived.Test.YtihapemckcdicaaGreatDoorQELgB
import Derived.Test.YtihapemckcdicaaGreatDoorQELgD
import Derived.Conc.AtomicLaws2
import Derived.Conc.ClockLaws
import Derived.Conc.EventLaws
import Derived.Laws.LoneSync
import Derived.Conc.SmallLaws
import Derived.Conc.LeavingOf
import Derived.Conc.HoldsTime
import Derived.Handed
import Derived.LaidMore
import Derived.Below
import Derived.Carry
import Derived.SizedLaws
namespace Go.Lg
open Go.Conc Go.ConcN
structure gx (P:Program) (f:FuncId) (e:Array Value→Sem Value):Prop where
 ex:∃ fn,P.funcs[f]? = some fn∧(fn.name == "runtime.NumGoroutine")=false∧fn.body.isNone=true∧Extern.findNext fn=none∧Extern.find fn=some e
def nB(P:Program)(s:Sem Value)(f:FuncId)(w:World)(v:Value)(w':World)(mV:Array Event):Prop :=
 s.run P w = .ok v w'∧s.events P w #[⟨.mark (.extern f),false,true⟩]=#[⟨.mark (.extern f),false,true⟩]++mV∧∀ x∈mV,x.sync=true∧∀ g,x.loc ≠ .mark (.extern g)
section
variable {P:Program} {main:Bool} {c:Ctx} {st:St} {k:List Item} {ops:Array Oper} {i:Nat} {rest:List Nat} {o:Oper} {f:FuncId} {as:Array Operand} {iQ:Array TypeId} {e:Array Value→Sem Value} {vs:List Value} {tmps:Array Value} {w w':World} {v:Value} {mV:Array Event}
theorem E5{tmps:Array Value}(au:o.op = .call ⟨.value (.func f),as,iQ⟩)(ht:cM c.n st tmps)(ha:ji st as.toList=some vs):execOp (aV c tmps (.inRegion ops (i::rest)::k)).eval o=callFunc f vs.toArray:=by
 have hk:=ht.knows c (.inRegion ops (i::rest)::k)
 have ef:(aV c tmps (.inRegion ops (i::rest)::k)).eval (.func f) = .func (.func f) #[] #[]:=rfl
 have e2:as.map (aV c tmps (.inRegion ops (i::rest)::k)).eval=vs.toArray:=by apply Array.ext'; simpa using BK hk _ _ ha
 unfold execOp
 simp [au,resolve,Deferred.ofValue,invoke,ef,e2]
theorem K5(ho:ops[i]? = some o)(hw:cE ops st o=some true)(fR:(c.kind == CallKind.early)=false)(au:o.op = .call ⟨.value (.func f),as,iQ⟩)(hf:gx P f e)(ht:cM c.n st tmps)(ha:ji st as.toList=some vs)(hE:nB P (e vs.toArray) f w v w' mV) :
  stepG P main (aX (aV c tmps (.inRegion ops (i::rest)::k)) c.cs) w = .go (aX (aV c (fG o.dst v tmps) (.inRegion ops rest::k)) c.cs) w' mV:=by
 obtain ⟨fn,h1,h2,h3,h4,h5⟩:=hf.ex
 obtain ⟨kJ,j5,hs⟩:=hE
 rw [qc ho (kO ht hw) (by rw [au]; rfl),← qz (rest:=rest) (k:=k) (c:=c) (tmps:=tmps) (v:=v) ho,E5 au ht ha]
 have hr:(callFunc f vs.toArray).run P w = .ok (.value v) w':=by rw [run_callFunc_extern h1 h2 h3 h4 h5,kJ]; rfl
 rw [BJ (by simpa [aV] using fR) hr]
 congr 1
 rw [events_callFunc_extern h1 h2 h3 h4 h5]
 simp only [List.push_toArray,List.nil_append]
 rw [j5,seen_entry _ _ _ hs]
theorem afs(ho:ops[i]? = some o)(hw:cE ops st o=some true)(au:o.op = .call ⟨.value (.func f),as,iQ⟩)(hf:gx P f e)(ht:cM c.n st tmps)(ha:ji st as.toList=some vs)(kJ:(e vs.toArray).run P w = .halt .blocked w) :
  stepG P main (aX (aV c tmps (.inRegion ops (i::rest)::k)) c.cs) w = .go { aX (aV c tmps (.inRegion ops (i::rest)::k)) c.cs with status:=.blocked } w #[]:=by
 obtain ⟨fn,h1,h2,h3,h4,h5⟩:=hf.ex
 rw [qc ho (kO ht hw) (by rw [au]; rfl),E5 au ht ha]
 have hr:(callFunc f vs.toArray).run P w = .halt .blocked w:=by rw [run_callFunc_extern h1 h2 h3 h4 h5,kJ]; rfl
 simp [stepG.apply,hr,aX,GStep.after,seen_none]
theorem aE3(ho:ops[i]? = some o)(au:o.op = .call ⟨.value (.func f),as,iQ⟩)(hf:gx P f e):mayWake P (aX (aV c tmps (.inRegion ops (i::rest)::k)) c.cs)=true:=by
 obtain ⟨fn,h1,_,h3,_⟩:=hf.ex
 have h3':fn.body.isSome=false:=by cases hb:fn.body <;> simp_all
 simp [mayWake,aX,aV,ho,au,Frame.eval,h1,h3']
end
section
variable {P:Program} {f:FuncId} {w:World} {ad:Addr} {k:IntKind}
theorem rp{m:Mark}(hm:∀ g,m ≠ .extern g):nB P (do mark m; pure Extern.Race.none_) f w (.tuple #[]) w (said m) :=
 ⟨by simp [Extern.Race.none_],by simp [said],λ x hx=>by
  simp [said] at hx; subst hx; exact ⟨rfl,λ g h=>hm g (by cases h; rfl)⟩⟩
theorem BS{mk:Addr→Mark}(hm:∀ ad g,mk ad ≠ .extern g){vs:List Value}(hv:vs[0]? = some (.pointer (some ad))):nB P (Extern.Race.marked mk vs.toArray) f w (.tuple #[]) w (said (mk ad)) :=
 ⟨by simp [Extern.Race.marked,Extern.Race.at_,hv,Extern.Race.none_],by simp [Extern.Race.marked,Extern.Race.at_,hv,said],λ x hx=>by
  simp [said] at hx; subst hx; exact ⟨rfl,λ g h=>hm ad g (Loc.mark.inj h)⟩⟩
def atR(ad:Addr):Array Event:=#[⟨.cell ad,false,true⟩]
def Ip(ad:Addr):Array Event:=#[⟨.cell ad,true,true⟩]
def Mr(ad:Addr):Array Event:=#[⟨.cell ad,false,true⟩,⟨.cell ad,true,true⟩]
theorem E1{v n:Int}(hc:w.cell? ad=some (.int k v))(hz:w.frozen? ad=false):nB P (Extern.Atomic.casT (.int k) #[.pointer (some ad),.int k v,.int k n]) f w (.bool true) (w.setCell ad (.int k n)) (Mr ad) :=
 ⟨by rw [casT_eq]; exact run_cas_hit_entry hc hz,by rw [casT_eq,events_cas_hit_entry hc hz]; rfl,sync_rw ad⟩
theorem IF{v old n:Int}(hc:w.cell? ad=some (.int k v))(hz:w.frozen? ad=false)(dU:¬ v=old):nB P (Extern.Atomic.casT (.int k) #[.pointer (some ad),.int k old,.int k n]) f w (.bool false) w (atR ad) :=
 ⟨by rw [casT_eq]; exact run_cas_miss_entry hc hz dU,by rw [casT_eq,events_cas_miss_entry hc hz dU]; rfl,sync_r ad⟩
theorem zW{v d:Int}(hc:w.cell? ad=some (.int k v))(hz:w.frozen? ad=false):nB P (Extern.Atomic.update (Op.intArith .add) k true #[.pointer (some ad),.int k d]) f w (.int k (k.wrap (v+d))) (w.setCell ad (.int k (k.wrap (v+d)))) (Mr ad) :=
 ⟨run_add_entry hc hz,by rw [events_add_entry hc hz]; rfl,sync_rw ad⟩
theorem M6{v:Int}(hc:w.cell? ad=some (.int k v)):nB P (Extern.Atomic.loadT (.int k) #[.pointer (some ad)]) f w (.int k v) w (atR ad):=by
 have e:Extern.Atomic.loadT (.int k) #[.pointer (some ad)]=(do Extern.Atomic.read (.int k) (← asAddr (.pointer (some ad)))):=rfl
 refine ⟨?_,?_,sync_r ad⟩
 ·rw [e]; simp [Extern.Atomic.read,asAddr,hc]
 ·rw [e]; simp [Extern.Atomic.read,asAddr,hc,events_load,atR]
theorem aof{v:Int}{u:Value}(hc:w.cell? ad=some u)(hz:w.frozen? ad=false):nB P (Extern.Atomic.storeT #[.pointer (some ad),.int k v]) f w (.tuple #[]) (w.setCell ad (.int k v)) (Ip ad):=by
 have e:Extern.Atomic.storeT #[.pointer (some ad),.int k v]=(do store (← asAddr (.pointer (some ad))) (.int k v) .atomic; pure Extern.Atomic.none_):=rfl
 refine ⟨?_,?_,λ x hx=>by simp [Ip] at hx; subst hx; exact ⟨rfl,λ g h=>by cases h⟩⟩
 ·rw [e]; simp [asAddr,hc,hz,run_store P w ad (.int k v) .atomic rfl,Extern.Atomic.none_]
 ·rw [e]; simp [asAddr,hc,hz,events_store P w _ ad (.int k v) .atomic rfl,Ip]
theorem ack{n:Int}{vs:List Value}(hv:vs[0]? = some (.pointer (some ad)))(hc:w.cell? ad=some (.int .u32 n))(Eb:n≠0)(hz:w.frozen? ad=false):nB P (Extern.Sync.semacquire vs.toArray) f w (.tuple #[]) (w.setCell ad (.int .u32 (n - 1))) (semEvents ad) :=
 ⟨by simp [Extern.Sync.semacquire,Extern.Sync.count,hv,hc,Eb,hz,Extern.Sync.none_,run_store P w ad (.int .u32 (n - 1)) .atomic rfl,Result.andThen],
  by simp [Extern.Sync.semacquire,Extern.Sync.count,hv,hc,Eb,hz,semEvents,events_load,events_store P w _ ad (.int .u32 (n - 1)) .atomic rfl,run_store P w ad (.int .u32 (n - 1)) .atomic rfl,Result.evThen],semEvents_sync ad⟩
theorem aaJ{vs:List Value}(hv:vs[0]? = some (.pointer (some ad)))(hc:w.cell? ad=some (.int .u32 0)):(Extern.Sync.semacquire vs.toArray).run P w = .halt .blocked w:=by
 simp [Extern.Sync.semacquire,Extern.Sync.count,hv,hc]
theorem S5{n:Int}{vs:List Value}(hv:vs[0]? = some (.pointer (some ad)))(hc:w.cell? ad=some (.int .u32 n))(hz:w.frozen? ad=false):nB P (Extern.Sync.semrelease vs.toArray) f w (.tuple #[]) (w.setCell ad (.int .u32 (IntKind.u32.wrap (n+1)))) (semEvents ad) :=
 ⟨by simp [Extern.Sync.semrelease,Extern.Sync.count,hv,hc,hz,Extern.Sync.none_,Op.intArith,run_store P w ad (.int .u32 (IntKind.u32.wrap (n+1))) .atomic rfl,Result.andThen],
  by simp [Extern.Sync.semrelease,Extern.Sync.count,hv,hc,hz,semEvents,Op.intArith,events_load,events_store P w _ ad (.int .u32 (IntKind.u32.wrap (n+1))) .atomic rfl,run_store P w ad (.int .u32 (IntKind.u32.wrap (n+1))) .atomic rfl,Result.evThen],semEvents_sync ad⟩
theorem aoe{n:Int}(h4:4≤n):nB P (Extern.Sync.canSpin #[.int k n]) f w (.bool false) w #[] :=
 ⟨by rw [canSpin_eq,if_pos h4]; rfl,by rw [canSpin_eq,if_pos h4]; rfl,by simp⟩
theorem acm{n:Int}(h4:n < 4):nB P (Extern.Sync.canSpin #[.int k n]) f w (.bool w.spins) w.asked #[]:=by
 have h4':¬ (n ≥ 4):=by omega
 exact ⟨by rw [canSpin_eq,if_neg h4']; rfl,by rw [canSpin_eq,if_neg h4']; rfl,by simp⟩
end
section
variable {F:Fx} {s s':Sh} {w:World}
theorem fA.cm(h:fA F s w):w.cell? (am F)=some (.int .i32 s.mu.val):=by simp [World.cell?,am,h.m,p7]
theorem fA.MP(h:fA F s w):w.cell? ⟨F.bm,1,none⟩=some (.int .u32 (s.ms:Int)):=by simp [World.cell?,h.m,p7]
theorem fA.cg(h:fA F s w):w.cell? (aw F)=some (.int .u64 (y5 s)):=by simp [World.cell?,aw,h.g,qd]
theorem fA.MN(h:fA F s w):w.cell? (rh F)=some (.int .u32 (s.ws:Int)):=by simp [World.cell?,rh,h.g,qd]
theorem fA.zm(h:fA F s w)(i:Nat):w.frozen? ⟨F.bm,i,none⟩=false:=by simp [World.frozen?,h.m,p7]
theorem fA.zg(h:fA F s w)(i:Nat):w.frozen? ⟨F.bw,i,none⟩=false:=by simp [World.frozen?,h.g,qd]
theorem b9.refl(h:fA F s w):b9 F s w w:=⟨rfl,λ _ _ _=>rfl,h,id,rfl,rfl⟩
theorem b9.asked(h:fA F s w):b9 F s w w.asked:=⟨rfl,λ _ _ _=>rfl,⟨h.m,h.g⟩,id,rfl,rfl⟩
theorem b9.later(h:fA F s w)(xZ:F.B.os w.os→F.B.os w.later.os):b9 F s w w.later:=⟨rfl,λ _ _ _=>rfl,⟨h.m,h.g⟩,xZ,rfl,rfl⟩
theorem afb{w:World}{a:Addr}{cs:Array Value}{t:TypeId}{v:Value}(h:w.heap[a.block]? = some (.cells cs t (0,0)))(ha:a.spot=none):w.setCell a v={ w with heap:=w.heap.setIfInBounds a.block (.cells (cs.setIfInBounds a.off v) t (0,0)) }:=by
 simp only [World.setCell]
 congr 1
 apply Array.ext_getElem?
 intro i
 rw [Array.getElem?_modify]
 by_cases hi:a.block=i
 ·subst hi
  rw [Array.getElem?_setIfInBounds_self_of_lt (lE h),h]
  simp [ha]
 ·simp [hi,Array.getElem?_setIfInBounds_ne hi]
theorem b9.bm{v:Value}{i:Nat}(h:fA F s w)(ho:p7 F.tm s' = .cells (#[.int .i32 s.mu.val,.int .u32 (s.ms:Int)].setIfInBounds i v) F.tm (0,0))(hg:qd F.tw s'=qd F.tw s):b9 F s' w (w.setCell ⟨F.bm,i,none⟩ v):=by
 rw [afb (a:=⟨F.bm,i,none⟩) h.m rfl]
 refine ⟨by simp,λ b h1 h2=>Array.getElem?_setIfInBounds_ne (Ne.symm h1),⟨?_,?_⟩,id,rfl,rfl⟩
 ·rw [ho]; exact Array.getElem?_setIfInBounds_self_of_lt (lE h.m)
 ·rw [hg]
  show (w.heap.setIfInBounds _ _)[F.bw]? = _
  rw [Array.getElem?_setIfInBounds_ne F.ho.1]; exact h.g
theorem b9.bw{v:Value}{i:Nat}(h:fA F s w)(ho:qd F.tw s' = .cells (#[.int .u64 (y5 s),.int .u32 (s.ws:Int)].setIfInBounds i v) F.tw (0,0))(hg:p7 F.tm s'=p7 F.tm s):b9 F s' w (w.setCell ⟨F.bw,i,none⟩ v):=by
 rw [afb (a:=⟨F.bw,i,none⟩) h.g rfl]
 refine ⟨by simp,λ b h1 h2=>Array.getElem?_setIfInBounds_ne (Ne.symm h2),⟨?_,?_⟩,id,rfl,rfl⟩
 ·rw [hg]
  show (w.heap.setIfInBounds _ _)[F.bm]? = _
  rw [Array.getElem?_setIfInBounds_ne (Ne.symm F.ho.1)]; exact h.m
 ·rw [ho]; exact Array.getElem?_setIfInBounds_self_of_lt (lE h.g)
theorem b9.mu{m:Wd}(h:fA F s w):b9 F { s with mu:=m } w (w.setCell (am F) (.int .i32 m.val)):=b9.bm h rfl rfl
theorem b9.ms{n:Nat}(h:fA F s w):b9 F { s with ms:=n } w (w.setCell ⟨F.bm,1,none⟩ (.int .u32 (n:Int))):=b9.bm h rfl rfl
theorem b9.wg{v u:Nat}(h:fA F s w):b9 F { s with v:=v,w:=u } w (w.setCell (aw F) (.int .u64 (4294967296 * v+u))):=b9.bw h rfl rfl
theorem b9.ws{n:Nat}(h:fA F s w):b9 F { s with ws:=n } w (w.setCell (rh F) (.int .u32 (n:Int))):=b9.bw h rfl rfl
theorem xC{a:Addr}(h:a.block=F.bm∨a.block=F.bw):qn F (atR a):=.inl λ e he=>by simp [atR] at he; subst he; exact ⟨a,false,rfl,h⟩
theorem al3{a:Addr}(h:a.block=F.bm∨a.block=F.bw):qn F (Ip a):=.inl λ e he=>by simp [Ip] at he; subst he; exact ⟨a,true,rfl,h⟩
theorem qu{a:Addr}(h:a.block=F.bm∨a.block=F.bw):qn F (Mr a):=.inl λ e he=>by simp [Mr] at he; rcases he with rfl | rfl <;> exact ⟨a,_,rfl,h⟩
theorem qt:qn F #[]:=.inl λ e he=>by simp at he
theorem Io{a:Addr}(h:a.block=F.bm∨a.block=F.bw):qn F (semEvents a):=.inr ⟨a,h,rfl⟩
end
section
variable {F:Fx} {c:Ctx} {R:az} {H:an} {st:St} {kk:List Item} {ops:Array Oper} {i:Nat} {rest:List Nat} {o:Oper} {f:FuncId} {as:Array Operand} {iQ:Array TypeId} {e:Array Value→Sem Value} {vs:List Value} {n k j:Nat} {T:Lp} {T0:Mp}
theorem KW.ext(ho:ops[i]? = some o)(hw:cE ops st o=some true)(fR:(c.kind == CallKind.early)=false)(au:o.op = .call ⟨.value (.func f),as,iQ⟩)(hf:gx F.P f e)(ha:ji st as.toList=some vs)(hd:bT o.dst c.n)
  (h:qK F.N T→∀ w s,Fits F.B R H w→fA F s w→Dd F.N T s→okW F.N T s →
   ((∃ c,T = .s1 c)∧s.ms=0∧(e vs.toArray).run F.P w = .halt .blocked w) ∨
   ∃ v w' mV T' s',nB F.P (e vs.toArray) f w v w' mV∧di T s T' s'∧yN F j T T'∧E2 F T mV∧b9 F s' w w'∧∀ aZ,cM c.n (bU o.dst v st) aZ→xB F (KW F n k) k j T T' R H (aX (aV c aZ (.inRegion ops rest::kk)) c.cs)) :
  ∀ tmps,cM c.n st tmps→KW F (n+1) k j T R H (aX (aV c tmps (.inRegion ops (i::rest)::kk)) c.cs):=by
 intro tmps ht ot
 refine ⟨rfl,rfl,λ _=>aE3 ho au hf,λ w s xV bf xZ mG=>?_⟩
 rcases h ot w s xV bf xZ mG with ⟨h1,h2,h3⟩ | ⟨v,w',mV,T',s',hE,h2,h3,h4,h5,h6⟩
 ·exact .inl ⟨h1,h2,afs ho hw au hf ht ha h3⟩
 ·exact .inr ⟨_,w',mV,T',s',h2,h3,h4,K5 ho hw fR au hf ht ha hE,h5,h6 _ (ht.put v hd)⟩
theorem KM.ext(ho:ops[i]? = some o)(hw:cE ops st o=some true)(fR:(c.kind == CallKind.early)=false)(au:o.op = .call ⟨.value (.func f),as,iQ⟩)(hf:gx F.P f e)(ha:ji st as.toList=some vs)(hd:bT o.dst c.n)(h1:∀ r,T0 ≠ .go r)(h2:T0 ≠ .wq)
  (h:∀ w s,Fits F.B R H w→fA F s w→qg F.N T0 s→(T0 = .w3∧s.ws=0∧(e vs.toArray).run F.P w = .halt .blocked w) ∨
   ∃ v w' mV T' s',nB F.P (e vs.toArray) f w v w' mV∧gz T0 s T' s'∧BU F T0 mV∧b9 F s' w w'∧∀ aZ,cM c.n (bU o.dst v st) aZ→Own F.P F.B true (KM F n T') R H (aX (aV c aZ (.inRegion ops rest::kk)) c.cs)) :
  ∀ tmps,cM c.n st tmps→KM F (n+1) T0 R H (aX (aV c tmps (.inRegion ops (i::rest)::kk)) c.cs):=by
 intro tmps ht
 have key:∀ w s,Fits F.B R H w→fA F s w→qg F.N T0 s→(T0 = .w3∧s.ws=0∧stepG F.P true (aX (aV c tmps (.inRegion ops (i::rest)::kk)) c.cs) w = .go { aX (aV c tmps (.inRegion ops (i::rest)::kk)) c.cs with status:=.blocked } w #[]) ∨
   ∃ g' w' es T' s',gz T0 s T' s'∧BU F T0 es∧stepG F.P true (aX (aV c tmps (.inRegion ops (i::rest)::kk)) c.cs) w = .go g' w' es∧b9 F s' w w'∧Own F.P F.B true (KM F n T') R H g':=λ w s xV bf gJ=>by
  rcases h w s xV bf gJ with ⟨h1,h2,h3⟩ | ⟨v,w',mV,T',s',hE,h3,h4,h5,h6⟩
  ·exact .inl ⟨h1,h2,afs ho hw au hf ht ha h3⟩
  ·exact .inr ⟨_,w',mV,T',s',h3,h4,K5 ho hw fR au hf ht ha hE,h5,h6 _ (ht.put v hd)⟩
 refine ⟨rfl,rfl,?_⟩
 cases T0 <;> first | exact absurd rfl (h1 _) | exact absurd rfl h2 | exact key
theorem KM.acq(ho:ops[i]? = some o)(hw:cE ops st o=some true)(fR:(c.kind == CallKind.early)=false)(au:o.op = .call ⟨.value (.func f),as,iQ⟩)(hf:gx F.P f (Extern.Race.marked .acquire))(ha:ji st as.toList=some vs)(hv:vs[0]? = some (.pointer (some (aw F))))(hd:bT o.dst c.n)
  (h:∀ js,(∀ k,k < F.N→js k=F.J)→∀ aZ,cM c.n (bU o.dst (.tuple #[]) st) aZ→F.mj R ((F.bo,F.cont js)::H) (aX (aV c aZ (.inRegion ops rest::kk)) c.cs)) :
  ∀ tmps,cM c.n st tmps→KM F (n+1) .wq R H (aX (aV c tmps (.inRegion ops (i::rest)::kk)) c.cs):=λ tmps ht =>
 ⟨rfl,rfl,λ w s _ bf _=>⟨_,w,K5 ho hw fR au hf ht ha (BS (λ _ _=>by simp) hv),b9.refl bf,λ js iC=>h js iC _ (ht.put _ hd)⟩⟩
end
end Go.Lg
namespace Go.Lg
open Go.Conc Go.ConcN
def tU(P:Program)(c:Ctx)(o:Oper)(st:St)(v:Value):Prop:=m5 o.op=false∧bT o.dst c.n∧∀ ρ,Knows st ρ→ai P (execOp ρ o) (.value v)
section
variable {P:Program} {B:Base} {main:Bool} {af:Jd P B main} {c:Ctx} {R:az} {H:an} {st st':St} {k:List Item} {ops:Array Oper} {i:Nat} {rest:List Nat} {o:Oper} {v:Value} {x y z:Operand}
theorem U.val(ho:ops[i]? = some o)(hw:cE ops st o=some true)(hk:(c.kind == CallKind.early)=false)(hv:tU P c o st v)(hs:aI (bU o.dst v st) st')(h:U af c R H st' (.inRegion ops rest::k)):U af c R H st (.inRegion ops (i::rest)::k) :=
 U.iX ho hw hk (Ox.val hv.1 hv.2.1 hv.2.2 hs h)
theorem OV.move(au:o.op = .move x)(hd:bT o.dst c.n)(hx:bg st x=some v):tU P c o st v:=⟨by rw [au]; rfl,hd,λ ρ bd=>by simp only [execOp,au,bd x v hx]; exact ai.pure _⟩
theorem OV.assign(au:o.op = .assign x)(hd:bT o.dst c.n)(hx:bg st x=some v):tU P c o st v:=⟨by rw [au]; rfl,hd,λ ρ bd=>by simp only [execOp,au,bd x v hx]; exact ai.pure _⟩
theorem OV.aCv(au:o.op = .pick x y z)(hd:bT o.dst c.n)(hx:bg st x=some (.bool true))(hy:bg st y=some v):tU P c o st v:=⟨by rw [au]; rfl,hd,λ ρ bd=>by
 simp only [execOp,au,bd x _ hx,bd y v hy,asBool]; exact ai.bind (ai.pure true) (ai.pure _)⟩
theorem OV.aCu(au:o.op = .pick x y z)(hd:bT o.dst c.n)(hx:bg st x=some (.bool false))(hz:bg st z=some v):tU P c o st v:=⟨by rw [au]; rfl,hd,λ ρ bd=>by
 simp only [execOp,au,bd x _ hx,bd z v hz,asBool]; exact ai.bind (ai.pure false) (ai.pure _)⟩
theorem OV.nilCheck{a:Addr}(au:o.op = .nilCheck x)(hd:bT o.dst c.n)(hx:bg st x=some (.pointer (some a))):tU P c o st (.pointer (some a)):=⟨by rw [au]; rfl,hd,λ ρ bd=>by
 simp only [execOp,au,bd x _ hx]; exact ai.bind (ai.pure _) (ai.pure _)⟩
theorem OV.fieldAddr{s f off b n:Nat}(au:o.op = .fieldAddr s x f)(hd:bT o.dst c.n)(hx:bg st x=some (.pointer (some ⟨b,n,none⟩)))(hf:gy P s f off):tU P c o st (.pointer (some ⟨b,n+off,none⟩)):=⟨by rw [au]; rfl,hd,λ ρ bd=>by
 simp only [execOp,au,bd x _ hx]; exact ai.bind (hf b n) (ai.pure _)⟩
theorem OV.bin{bo:BinOp}{t u:TypeId}{ka kb:IntKind}{a b:Int}(au:o.op = .binOp bo t x y u)(hd:bT o.dst c.n)(hx:bg st x=some (.int ka a))(hy:bg st y=some (.int kb b))(hv:ai P (binOp bo t (.int ka a) (.int kb b)) v):tU P c o st v:=⟨by rw [au]; rfl,hd,λ ρ bd=>by
 simp only [execOp,au,bd x _ hx,bd y _ hy]; exact ai.bind (ai.bind (DD _ _ _ _ _ _ _ _) hv) (ai.pure _)⟩
theorem OV.not{t:TypeId}{a:Bool}(au:o.op = .unOp .not t x)(hd:bT o.dst c.n)(hx:bg st x=some (.bool a)):tU P c o st (.bool (!a)):=⟨by rw [au]; rfl,hd,λ ρ bd=>by
 simp only [execOp,au,bd x _ hx]; exact ai.bind (ai.pure _) (ai.pure _)⟩
end
structure QJ (P:Program) where
 Q:Goroutine→Prop
 step:∀ {g g':Goroutine},g.status = .running→(∀ w,stepG P false g w = .go g' w #[])→Q g'→Q g
def toJ(P:Program)(K:Goroutine→Prop):QJ P:=⟨λ g=>∃ q,BD P K q g,λ hs h ⟨q,hq⟩=>⟨q+1,.inr ⟨hs,_,h,hq⟩⟩⟩
def yB(P:Program)(d:Nat):QJ P:=⟨λ g=>∃ q,QuitsD P q d g,λ hs h ⟨q,hq⟩=>⟨q+1,QuitsD.ctl hs h hq⟩⟩
section
variable {P:Program} (J:QJ P)
def aH(c:Ctx)(st:St)(todo:List Item):Prop:=∀ tmps,cM c.n st tmps→J.Q (aX (aV c tmps todo) c.cs)
variable {J} {c:Ctx} {st st':St} {k:List Item} {ops:Array Oper} {i:Nat} {rest:List Nat} {o:Oper} {v:Value}
theorem aH.sub{todo:List Item}(hs:aI st st')(h:aH J c st' todo):aH J c st todo:=λ tmps ht=>h tmps (ht.sub hs)
theorem aH.skip(h:aH J c st k):aH J c st (.code .skip::k):=λ tmps ht=>J.step rfl (λ w=>by simp [stepG,stepG.exec,aX,aV]) (h tmps ht)
theorem aH.inBlock{id:Nat}(h:aH J c st k):aH J c st (.inBlock id::k):=λ tmps ht=>J.step rfl (λ w=>by simp [stepG,stepG.exec,aX,aV]) (h tmps ht)
theorem aH.seq{x y:Code}(h:aH J c st (.code x :: .code y::k)):aH J c st (.code (.seq x y)::k):=λ tmps ht=>J.step rfl (λ w=>by simp [stepG,stepG.exec,aX,aV]) (h tmps ht)
theorem aH.block{id:Nat}{x:Code}(h:aH J c st (.code x :: .inBlock id::k)):aH J c st (.code (.block id x)::k):=λ tmps ht=>J.step rfl (λ w=>by simp [stepG,stepG.exec,aX,aV]) (h tmps ht)
theorem aH.enterLoop{x:Code}(h:aH J c st (.code x :: .inLoop x::k)):aH J c st (.code (.loop x)::k):=λ tmps ht=>J.step rfl (λ w=>by simp [stepG,stepG.exec,aX,aV]) (h tmps ht)
theorem aH.inLoop{x:Code}(h:aH J c st (.code x :: .inLoop x::k)):aH J c st (.inLoop x::k):=λ tmps ht=>J.step rfl (λ w=>by simp [stepG,stepG.exec,aX,aV]) (h tmps ht)
theorem aH.exit{id:Nat}{k':List Item}(he:exitTo id k=some k')(h:aH J c st k'):aH J c st (.code (.exit id)::k):=λ tmps ht=>J.step rfl (λ w=>by simp [stepG,stepG.exec,aX,aV,he]) (h tmps ht)
theorem aH.region{id n:Nat}{is:List Nat}(hn:ops.size=n)(mF:List.range n=is)(h:aH J c st (.inRegion ops is::k)):aH J c st (.code (.region id ops false)::k):=by
 subst hn; subst mF
 exact λ tmps ht=>J.step rfl (λ w=>by simp [stepG,stepG.exec,aX,aV]) (h tmps ht)
theorem aH.aU(h:aH J c st k):aH J c st (.inRegion ops []::k):=λ tmps ht=>J.step rfl (λ w=>by simp [stepG,stepG.exec,aX,aV]) (h tmps ht)
theorem aH.fE{x:Operand}{th el:Code}(hx:bg st x=some (.bool true))(h:aH J c st (.code th::k)):aH J c st (.code (.cond x th el)::k):=λ tmps ht=>by
 have he:=ht.knows c (.code (.cond x th el)::k) x _ hx
 exact J.step rfl (λ w=>by simp only [aV] at he; simp [stepG,stepG.exec,aX,aV,he]) (h tmps ht)
theorem aH.eF{x:Operand}{th el:Code}(hx:bg st x=some (.bool false))(h:aH J c st (.code el::k)):aH J c st (.code (.cond x th el)::k):=λ tmps ht=>by
 have he:=ht.knows c (.code (.cond x th el)::k) x _ hx
 exact J.step rfl (λ w=>by simp only [aV] at he; simp [stepG,stepG.exec,aX,aV,he]) (h tmps ht)
theorem aH.unwanted(ho:ops[i]? = some o)(hw:cE ops st o=some false)(lT:bT o.dst c.n)(hs:aI (bU o.dst undef st) st')(h:aH J c st' (.inRegion ops rest::k)):aH J c st (.inRegion ops (i::rest)::k) :=
 λ _ ht=>J.step rfl (λ _=>XS ho (kO ht hw)) (h _ ((ht.put undef lT).sub hs))
theorem aH.val(ho:ops[i]? = some o)(hw:cE ops st o=some true)(hk:(c.kind == CallKind.early)=false)(hv:tU P c o st v)(hs:aI (bU o.dst v st) st')(h:aH J c st' (.inRegion ops rest::k)):aH J c st (.inRegion ops (i::rest)::k):=λ tmps ht=>by
 refine J.step rfl (λ w=>?_) (h _ ((ht.put v hv.2.1).sub hs))
 have hr:=hv.2.2 _ (ht.knows c (.inRegion ops (i::rest)::k)) w
 rw [qc ho (kO ht hw) hv.1,← qz (rest:=rest) (k:=k) (c:=c) (tmps:=tmps) (v:=v) ho,BJ (by simpa [aV] using hk) hr.1,hr.2]
 rfl
theorem aH.ext{f:FuncId}{as:Array Operand}{iQ:Array TypeId}{e:Array Value→Sem Value}{vs:List Value}(ho:ops[i]? = some o)(hw:cE ops st o=some true)(hk:(c.kind == CallKind.early)=false)(au:o.op = .call ⟨.value (.func f),as,iQ⟩)(hd:bT o.dst c.n)(hf:gx P f e)(ha:ji st as.toList=some vs)
  (hE:∀ w,nB P (e vs.toArray) f w v w #[]) (hs:aI (bU o.dst v st) st') (h:aH J c st' (.inRegion ops rest::k)):aH J c st (.inRegion ops (i::rest)::k):=λ _ ht =>
 J.step rfl (λ w=>K5 ho hw hk au hf ht ha (hE w)) (h _ ((ht.put v hd).sub hs))
theorem aH.enter{f:FuncId}{fn:Func}{body:Code}{as:Array Operand}{iQ:Array TypeId}{vs:List Value}{n:Nat}(ho:ops[i]? = some o)(hw:cE ops st o=some true)(hk:(c.kind == CallKind.early)=false)(au:o.op = .call ⟨.value (.func f),as,iQ⟩)(ha:ji st as.toList=some vs)
  (hf:P.funcs[f]? = some fn) (Jq:(fn.name == "runtime.NumGoroutine")=false) (hb:fn.body=some body) (rA:fn.ntmps=n) (hn:Nat.ble vs.length n=true)
  (h:∀ tmps,cM c.n st tmps→aH J ⟨f,.normal,none,n,[],aV c tmps (.inRegion ops (i::rest)::k)::c.cs⟩ (vR 0 vs) [.code body]):aH J c st (.inRegion ops (i::rest)::k):=λ tmps ht=>by
 have hv:ai P (execOp (aV c tmps (.inRegion ops (i::rest)::k)).eval o) (.enter f vs.toArray):=by
  rw [E5 au ht ha]
  exact DC hf Jq (by rw [hb]; rfl)
 subst rA
 have xY:vs.length≤fn.ntmps:=by simpa [Nat.ble_eq] using hn
 have e:Frame.enter P f vs.toArray .normal=aV ⟨f,.normal,none,fn.ntmps,[],aV c tmps (.inRegion ops (i::rest)::k)::c.cs⟩ (vs.toArray++Array.replicate (fn.ntmps - vs.length) undef) [.code body]:=by
  simp [Frame.enter,aV,hf,hb]
 refine J.step rfl (λ w=>?_) (h tmps ht (vs.toArray++Array.replicate (fn.ntmps - vs.length) undef) ⟨by simp; omega,λ t v bc=>?_⟩)
 ·rw [qc ho (kO ht hw) (by rw [au]; rfl),Il rfl (by simpa [aV] using hk) (hv w).1,(hv w).2,e]
  rfl
 ·obtain ⟨_,h2⟩:=Im vs 0 t v bc
  have bK:t < vs.length:=by
   have:=(List.getElem?_eq_some_iff.1 h2).1
   simpa using this
  rw [Array.getElem?_append_left (by simpa using bK)]
  simpa using h2
def jv(c:Ctx)(tmps:Array Value)(todo:List Item):Frame:={ aV c tmps todo with mode:=.returning }
theorem QJ.back{fr:Frame}{cs:List Frame}{f:FuncId}{n:Nat}{fn:Func}{vs:List Value}{tmps:Array Value}{todo:List Item}(hf:P.funcs[f]? = some fn)(ht:cM n st tmps)(hr:yE st fn.results.toList=some vs)(hj:J.Q (aX (fr.finish (iE vs)) cs)) :
  J.Q (aX (jv ⟨f,.normal,none,n,[],fr::cs⟩ tmps todo) (fr::cs)) :=
 J.step rfl (λ w=>by
  have hv:=Yc (P:=P) ht hr
  simp [jv,stepG,unwind,doReturn,aX,aV,hf,(hv w).1,(hv w).2,GStep.after,seen_none]) hj
theorem QJ.abe{fr:Frame}{cs:List Frame}{f:FuncId}{n:Nat}{fn:Func}{vs:List Value}{tmps:Array Value}{todo:List Item}(hf:P.funcs[f]? = some fn)(ht:cM n st tmps)(hr:yE st fn.results.toList=some vs)(hm:fr.mode = .returning∨fr.mode = .panicking [goexitEntry])(hj:J.Q (aX fr cs)) :
  J.Q (aX (jv ⟨f,.deferred,none,n,[],fr::cs⟩ tmps todo) (fr::cs)) :=
 J.step rfl (λ w=>by
  have hv:=Yc (P:=P) ht hr
  rcases hm with hm | hm <;> simp [jv,stepG,unwind,doReturn,aX,aV,hf,(hv w).1,(hv w).2,GStep.after,seen_none,hm,goexitEntry]) hj
theorem aH.ret(kI:c.ro=none)(h:∀ tmps,cM c.n st tmps→J.Q (aX (jv c tmps (.code .ret::k)) c.cs)):aH J c st (.code .ret::k):=λ tmps ht =>
 J.step rfl (λ w=>by simp [stepG,stepG.exec,aX,aV,jv,kI]) (h tmps ht)
theorem aH.SS(kI:c.ro=none)(h:∀ tmps,cM c.n st tmps→J.Q (aX (jv c tmps []) c.cs)):aH J c st []:=λ tmps ht =>
 J.step rfl (λ w=>by simp [stepG,stepG.exec,aX,aV,jv,kI]) (h tmps ht)
theorem aH.resume{c':Ctx}{tmps:Array Value}(ho:ops[i]? = some o)(ht:cM c.n st tmps)(hd:bT o.dst c.n)(hs:aI (bU o.dst v st) st')(h:aH J c st' (.inRegion ops rest::k))(_:c'.cs=aV c tmps (.inRegion ops (i::rest)::k)::c.cs) :
  J.Q (aX ((aV c tmps (.inRegion ops (i::rest)::k)).finish v) c.cs):=by
 rw [qz ho]
 exact h _ ((ht.put v hd).sub hs)
end
section
variable {P:Program} {B:Base} {main:Bool} {af:Jd P B main} {c:Ctx} {R:az} {H:an} {st st':St} {k:List Item} {ops:Array Oper} {i:Nat} {rest:List Nat} {o:Oper} {f:FuncId} {as:Array Operand} {iQ:Array TypeId} {vs:List Value}
theorem step_defer{tmps:Array Value}{w:World}(ho:ops[i]? = some o)(hw:cE ops st o=some true)(fR:(c.kind == CallKind.early)=false)(kI:c.ro=none)(au:o.op = .defer ⟨.value (.func f),as,iQ⟩)(ht:cM c.n st tmps)(ha:ji st as.toList=some vs) :
  stepG P main (aX (aV c tmps (.inRegion ops (i::rest)::k)) c.cs) w = .go (aX (aV { c with defers:=dcall f vs.toArray::c.defers } (fG o.dst undef tmps) (.inRegion ops rest::k)) c.cs) w #[]:=by
 have hk:=ht.knows c (.inRegion ops (i::rest)::k)
 have ef:(aV c tmps (.inRegion ops (i::rest)::k)).eval (.func f) = .func (.func f) #[] #[]:=rfl
 have e2:as.map (aV c tmps (.inRegion ops (i::rest)::k)).eval=vs.toArray:=by apply Array.ext'; simpa using BK hk _ _ ha
 have hr:(execOp (aV c tmps (.inRegion ops (i::rest)::k)).eval o).run P w = .ok (.defer (dcall f vs.toArray)) w:=by
  unfold execOp
  simp [au,resolve,Deferred.ofValue,ef,e2,dcall]
 have he:(execOp (aV c tmps (.inRegion ops (i::rest)::k)).eval o).events P w #[]=#[]:=by
  unfold execOp
  simp [au,resolve,Deferred.ofValue,ef]
 have V9:=kO ht hw
 obtain ⟨E6,kind,ro,n,defers,cs⟩:=c
 simp only at kI fR
 subst kI
 have e0:stepG P main (aX (aV ⟨E6,kind,none,n,defers,cs⟩ tmps (.inRegion ops (i::rest)::k)) cs) w=stepG.apply P true (aV ⟨E6,kind,none,n,defers,cs⟩ tmps (.inRegion ops (i::rest)::k)) cs none (execOp (aV ⟨E6,kind,none,n,defers,cs⟩ tmps (.inRegion ops (i::rest)::k)).eval o) w:=by
  simp [aX,stepG,stepG.exec,stepG.oper,Frame.oper?,aV,ho,V9]
 refine e0.trans ?_
 unfold stepG.apply
 rw [show (execOp (aV ⟨E6,kind,none,n,defers,cs⟩ tmps (.inRegion ops (i::rest)::k)).eval o).runT P w #[]=(.ok (.defer (dcall f vs.toArray)) w,#[]) by rw [Sem.runT_eq,hr,he]]
 cases oV:o.dst <;> simp [GStep.after,seen_none,aX,aV,Frame.finish,ho,oV,fG,fR]
end
end Go.Lg
namespace Go.Lg
open Go.Conc Go.ConcN
section
variable {F:Fx} {c:Ctx} {R:az} {H:an} {st:St} {kk:List Item} {ops:Array Oper} {i:Nat} {rest:List Nat} {o:Oper} {n k j:Nat} {T:Lp} {T0:Mp}
theorem aDX{main:Bool}{t:TypeId}{x:Operand}{tmps:Array Value}{w:World}{s:Sh}(ho:ops[i]? = some o)(hw:cE ops st o=some true)(fR:(c.kind == CallKind.early)=false)(au:o.op = .load t x)(hx:bg st x=some (.pointer (some (am F))))(ht:cM c.n st tmps)(Uy:ic F.P t)(hq:(F.P.funcs[c.fn]?).any (·.norace)=true)(bf:fA F s w) :
  stepG F.P main (aX (aV c tmps (.inRegion ops (i::rest)::kk)) c.cs) w = .go (aX (aV c (fG o.dst (.int .i32 s.mu.val) tmps) (.inRegion ops rest::kk)) c.cs) w #[]:=by
 have hk:=ht.knows c (.inRegion ops (i::rest)::kk)
 have hR:(execOp (aV c tmps (.inRegion ops (i::rest)::kk)).eval o).run F.P w = .ok (.value (.int .i32 s.mu.val)) w∧(execOp (aV c tmps (.inRegion ops (i::rest)::kk)).eval o).events F.P w #[]=#[⟨.cell (am F),false,false⟩]:=by
  simp only [execOp,au,hk x _ hx]
  have h1:=Uy.1 w
  have hc:=bf.cm
  constructor
  ·simp [Instr.loadAt,Instr.sureAddr,loadVar,h1.1,hc]
  ·simp [Instr.loadAt,Instr.sureAddr,loadVar,h1.1,h1.2,hc,events_load]
 rw [qc ho (kO ht hw) (by rw [au]; rfl),← qz (rest:=rest) (k:=kk) (c:=c) (tmps:=tmps) (v:=.int .i32 s.mu.val) ho,BJ (by simpa [aV] using fR) hR.1,hR.2]
 congr 1
 rw [seen_def]
 simp [seenStep,aV,hq]
theorem KW.look{t:TypeId}{x:Operand}(ho:ops[i]? = some o)(hw:cE ops st o=some true)(fR:(c.kind == CallKind.early)=false)(au:o.op = .load t x)(hx:bg st x=some (.pointer (some (am F))))(Uy:ic F.P t)(hq:(F.P.funcs[c.fn]?).any (·.norace)=true)(hd:bT o.dst c.n)(hu:T ≠ .us∧T ≠ .d4)
  (j5:∀ es,qn F es→E2 F T es)
  (h:qK F.N T→∀ s,Dd F.N T s→∃ T',di T s T' s∧yN F j T T'∧∀ aZ,cM c.n (bU o.dst (.int .i32 s.mu.val) st) aZ→xB F (KW F n k) k j T T' R H (aX (aV c aZ (.inRegion ops rest::kk)) c.cs)) :
  ∀ tmps,cM c.n st tmps→KW F (n+1) k j T R H (aX (aV c tmps (.inRegion ops (i::rest)::kk)) c.cs):=by
 intro tmps ht ot
 refine ⟨rfl,rfl,λ e=>by rcases e with e | e; exact absurd e hu.1; exact absurd e hu.2,λ w s xV bf xZ mG=>.inr ?_⟩
 obtain ⟨T',h2,h3,h6⟩:=h ot s xZ
 exact ⟨_,w,#[],T',s,h2,h3,j5 _ qt,aDX ho hw fR au hx ht Uy hq bf,b9.refl bf,h6 _ (ht.put _ hd)⟩
def EG(P:Program)(src dst:TypeId):Prop:=∃ t,P.underlying src=some (.pointer t)∧P.underlying dst=some .unsafePointer∧(P.info? t).map (λ i=>decide (i.size=0))=some false
theorem afr{src dst:TypeId}{x:Operand}{a:Addr}{v:Value}{w:World}{main:Bool}{tmps:Array Value}(ho:ops[i]? = some o)(hw:cE ops st o=some true)(fR:(c.kind == CallKind.early)=false)(au:o.op = .convert src dst x)(hx:bg st x=some (.pointer (some a)))(ht:cM c.n st tmps)(hu:EG F.P src dst)(hc:w.cell? a=some v) :
  stepG F.P main (aX (aV c tmps (.inRegion ops (i::rest)::kk)) c.cs) w = .go (aX (aV c (fG o.dst (.pointer (some a)) tmps) (.inRegion ops rest::kk)) c.cs) w #[]:=by
 obtain ⟨t,u1,u2,u3⟩:=hu
 have hk:=ht.knows c (.inRegion ops (i::rest)::kk)
 have h1:=run_convert_to_unsafe u1 u2 u3 hc
 have h2:=events_convert_to_unsafe u1 u2 u3 hc #[]
 have hR:(execOp (aV c tmps (.inRegion ops (i::rest)::kk)).eval o).run F.P w = .ok (.value (.pointer (some a))) w∧(execOp (aV c tmps (.inRegion ops (i::rest)::kk)).eval o).events F.P w #[]=#[]:=by
  simp only [execOp,au,hk x _ hx]
  constructor
  ·simp [h1]
  ·simp [h2]
 rw [qc ho (kO ht hw) (by rw [au]; rfl),← qz (rest:=rest) (k:=kk) (c:=c) (tmps:=tmps) (v:=.pointer (some a)) ho,BJ (by simpa [aV] using fR) hR.1,hR.2,seen_none]
theorem KW.conv{src dst:TypeId}{x:Operand}{a:Addr}(ho:ops[i]? = some o)(hw:cE ops st o=some true)(fR:(c.kind == CallKind.early)=false)(au:o.op = .convert src dst x)(hx:bg st x=some (.pointer (some a)))(hu:EG F.P src dst)(hd:bT o.dst c.n)
  (hc:∀ s w,fA F s w→∃ v,w.cell? a=some v) {T':Lp} (hT:T ≠ .us∧T ≠ .d4) (j5:E2 F T #[]) (dq:∀ s,di T s T' s) (Ao:yN F j T T')
  (h:∀ aZ,cM c.n (bU o.dst (.pointer (some a)) st) aZ→xB F (KW F n k) k j T T' R H (aX (aV c aZ (.inRegion ops rest::kk)) c.cs)) :
  ∀ tmps,cM c.n st tmps→KW F (n+1) k j T R H (aX (aV c tmps (.inRegion ops (i::rest)::kk)) c.cs):=by
 intro tmps ht ot
 refine ⟨rfl,rfl,λ e=>by rcases e with e | e; exact absurd e hT.1; exact absurd e hT.2,λ w s xV bf xZ mG=>.inr ?_⟩
 obtain ⟨v,hv⟩:=hc s w bf
 exact ⟨_,w,#[],T',s,dq s,Ao,j5,afr ho hw fR au hx ht hu hv,b9.refl bf,h _ (ht.put _ hd)⟩
theorem KM.conv{src dst:TypeId}{x:Operand}{a:Addr}{T0 T':Mp}(ho:ops[i]? = some o)(hw:cE ops st o=some true)(fR:(c.kind == CallKind.early)=false)(au:o.op = .convert src dst x)(hx:bg st x=some (.pointer (some a)))(hu:EG F.P src dst)(hd:bT o.dst c.n)
  (hc:∀ s w,fA F s w→∃ v,w.cell? a=some v) (h1:∀ r,T0 ≠ .go r) (h2:T0 ≠ .wq) (j5:BU F T0 #[]) (dq:∀ s,gz T0 s T' s)
  (h:∀ aZ,cM c.n (bU o.dst (.pointer (some a)) st) aZ→Own F.P F.B true (KM F n T') R H (aX (aV c aZ (.inRegion ops rest::kk)) c.cs)) :
  ∀ tmps,cM c.n st tmps→KM F (n+1) T0 R H (aX (aV c tmps (.inRegion ops (i::rest)::kk)) c.cs):=by
 intro tmps ht
 have key:∀ w s,Fits F.B R H w→fA F s w→qg F.N T0 s→(T0 = .w3∧s.ws=0∧stepG F.P true (aX (aV c tmps (.inRegion ops (i::rest)::kk)) c.cs) w = .go { aX (aV c tmps (.inRegion ops (i::rest)::kk)) c.cs with status:=.blocked } w #[]) ∨
   ∃ g' w' es T' s',gz T0 s T' s'∧BU F T0 es∧stepG F.P true (aX (aV c tmps (.inRegion ops (i::rest)::kk)) c.cs) w = .go g' w' es∧b9 F s' w w'∧Own F.P F.B true (KM F n T') R H g':=λ w s xV bf gJ=>by
  obtain ⟨v,hv⟩:=hc s w bf
  exact .inr ⟨_,w,#[],T',s,dq s,j5,afr ho hw fR au hx ht hu hv,b9.refl bf,h _ (ht.put _ hd)⟩
 refine ⟨rfl,rfl,?_⟩
 cases T0 <;> first | exact absurd rfl (h1 _) | exact absurd rfl h2 | exact key
theorem R5:∀ s w,fA F s w→∃ v,w.cell? (am F)=some v:=λ _ _ h=>⟨_,h.cm⟩
theorem R6:∀ s w,fA F s w→∃ v,w.cell? (aw F)=some v:=λ _ _ h=>⟨_,h.cg⟩
theorem aa3:∀ s w,fA F s w→∃ v,w.cell? (rh F)=some v:=λ _ _ h=>⟨_,h.MN⟩
section
variable {P:Program} {B:Base} {main:Bool} {af:Jd P B main} {tmps:Array Value} {todo:List Item} {f:FuncId} {ds:List Deferred} {args:Array Value}
theorem U.X0(kI:c.ro=none)(h:∀ tmps,cM c.n st tmps→af.J R H (aX (jv c tmps (.code .ret::kk)) c.cs)):U af c R H st (.code .ret::kk):=λ tmps ht =>
 Jd.ctl rfl (λ w=>by simp [stepG,stepG.exec,aX,aV,jv,kI]) (h tmps ht)
theorem U.toEnd(kI:c.ro=none)(h:∀ tmps,cM c.n st tmps→af.J R H (aX (jv c tmps []) c.cs)):U af c R H st []:=λ tmps ht =>
 Jd.ctl rfl (λ w=>by simp [stepG,stepG.exec,aX,aV,jv,kI]) (h tmps ht)
theorem Jd.unwind{fn:Func}(hd:c.defers=dcall f args::ds)(hf:P.funcs[f]? = some fn)(Jq:(fn.name == "runtime.NumGoroutine")=false)(hb:fn.body.isNone=false)
  (h:af.J R H (aX (Frame.enter P f args .deferred) (jv { c with defers:=ds } tmps todo::c.cs))):af.J R H (aX (jv c tmps todo) c.cs):=by
 have hv:=DC (P:=P) (args:=args) hf Jq hb
 refine Jd.ctl rfl (λ w=>?_) h
 simp [jv,aX,aV,stepG,Go.unwind,callDeferred,hd,dcall,invoke,(hv w).1,(hv w).2,GStep.after,seen_none]
theorem Jd.back{fr:Frame}{cs:List Frame}{g:FuncId}{m:Nat}{fn:Func}{vs:List Value}(hf:P.funcs[g]? = some fn)(ht:cM m st tmps)(hr:yE st fn.results.toList=some vs)(hj:af.J R H (aX (fr.finish (iE vs)) cs)):af.J R H (aX (jv ⟨g,.normal,none,m,[],fr::cs⟩ tmps todo) (fr::cs)):=by
 have hv:=Yc (P:=P) ht hr
 refine Jd.ctl rfl (λ w=>?_) hj
 simp [jv,stepG,Go.unwind,doReturn,aX,aV,hf,(hv w).1,(hv w).2,GStep.after,seen_none]
theorem U.defer{as:Array Operand}{iQ:Array TypeId}{vs:List Value}{st':St}(ho:ops[i]? = some o)(hw:cE ops st o=some true)(fR:(c.kind == CallKind.early)=false)(kI:c.ro=none)(au:o.op = .defer ⟨.value (.func f),as,iQ⟩)(ha:ji st as.toList=some vs)(hd:bT o.dst c.n)(hs:aI (bU o.dst undef st) st')
  (h:U af { c with defers:=dcall f vs.toArray::c.defers } R H st' (.inRegion ops rest::kk)):U af c R H st (.inRegion ops (i::rest)::kk):=λ _ ht =>
 Jd.ctl rfl (λ _=>step_defer ho hw fR kI au ht ha) (h _ ((ht.put undef hd).sub hs))
theorem aH.defer{J:QJ P}{as:Array Operand}{iQ:Array TypeId}{vs:List Value}{st':St}(ho:ops[i]? = some o)(hw:cE ops st o=some true)(fR:(c.kind == CallKind.early)=false)(kI:c.ro=none)(au:o.op = .defer ⟨.value (.func f),as,iQ⟩)(ha:ji st as.toList=some vs)(hd:bT o.dst c.n)(hs:aI (bU o.dst undef st) st')
  (h:aH J { c with defers:=dcall f vs.toArray::c.defers } st' (.inRegion ops rest::kk)):aH J c st (.inRegion ops (i::rest)::kk):=λ _ ht =>
 J.step rfl (λ _=>step_defer ho hw fR kI au ht ha) (h _ ((ht.put undef hd).sub hs))
theorem aft{e:Array Value→Sem Value}{w w':World}{v:Value}{mV:Array Event}(hd:c.defers=dcall f args::ds)(hf:gx P f e)(hE:nB P (e args) f w v w' mV) :
  stepG P main (aX (jv c tmps todo) c.cs) w = .go (aX (jv { c with defers:=ds } tmps todo) c.cs) w' mV:=by
 obtain ⟨fn,h1,h2,h3,h4,h5⟩:=hf.ex
 obtain ⟨kJ,j5,hs⟩:=hE
 have hr:(callFunc f args).run P w = .ok (.value v) w':=by rw [run_callFunc_extern h1 h2 h3 h4 h5,kJ]; rfl
 have hl:seen P c.fn ((callFunc f args).events P w #[])=mV:=by
  rw [events_callFunc_extern h1 h2 h3 h4 h5]
  simp only [List.push_toArray,List.nil_append]
  rw [j5,seen_entry _ _ _ hs]
 simp [jv,aX,aV,stepG,Go.unwind,callDeferred,hd,dcall,invoke,hr,GStep.after] at hl ⊢
 exact hl
theorem aCE{d:Nat}(hd:c.defers=dcall f args::ds)(hf:gx P f (λ _=>do mark .enable; pure Extern.Race.none_))(h:∃ q,QuitsD P q (d - 1) (aX (jv { c with defers:=ds } tmps todo) c.cs)):∃ q,QuitsD P q d (aX (jv c tmps todo) c.cs):=by
 obtain ⟨q,hq⟩:=h
 exact ⟨q+1,QuitsD.said ⟨.mark .enable,false,true⟩ rfl rfl (λ w=>aft hd hf (rp (by simp))) hq⟩
end
theorem KM.unwind{f:FuncId}{args:Array Value}{ds:List Deferred}{tmps:Array Value}{todo:List Item}{r:Nat}(hd:c.defers=dcall f args::ds)(hf:gx F.P f (λ _=>do mark .enable; pure Extern.Race.none_))
  (h:Own F.P F.B true (KM F n (.go r)) R H (aX (jv { c with defers:=ds } tmps todo) c.cs)):KM F (n+1) (.ke r) R H (aX (jv c tmps todo) c.cs) :=
 ⟨rfl,rfl,λ w s _ bf _=>.inr ⟨_,w,_,_,s,.ke,rfl,aft hd hf (rp (by simp)),b9.refl bf,h⟩⟩
section
variable {P:Program} {B:Base} {main:Bool}
def y6(P:Program):Frame:={ (default:Frame) with fn:=P.funcs.size,defers:=[],mode:=.panicking [goexitEntry] }
def Ix(P:Program)(d:Deferred):Goroutine:={ frame:={ (default:Frame) with fn:=P.funcs.size,defers:=[d],mode:=.panicking [goexitEntry] },callers:=[],status:=.running,dying:=none }
theorem aEb{cl:Call}{d:Deferred}{tmps:Array Value}{w:World}(ho:ops[i]? = some o)(hw:cE ops st o=some true)(au:o.op = .go cl)(ht:cM c.n st tmps)(hr:∀ ρ,Knows st ρ→ai P (resolve ρ cl o.type) d)(hd:(d.target matches .nil)=false) :
  stepG P main (aX (aV c tmps (.inRegion ops (i::rest)::kk)) c.cs) w = .spawn (aX (aV c (fG o.dst undef tmps) (.inRegion ops rest::kk)) c.cs) (Ix P d) w #[]:=by
 rw [qc ho (kO ht hw) (by rw [au]; rfl)]
 have hk:=ht.knows c (.inRegion ops (i::rest)::kk)
 have:ai P (execOp (aV c tmps (.inRegion ops (i::rest)::kk)).eval o) (.spawn d):=by
  simp only [execOp,au]
  exact ai.bind (hr _ hk) (ai.pure _)
 have h:=this w
 rw [← qz (rest:=rest) (k:=kk) (c:=c) (tmps:=tmps) (v:=undef) ho]
 clear hr this
 obtain ⟨tg,al0⟩:=d
 cases tg <;> simp_all [stepG.apply,aX,GStep.after,seen_none,Ix]
theorem Own.child{K:az→an→Goroutine→Prop}{f:FuncId}{args:Array Value}{d:Deferred}(hd:(d.target matches .nil)=false)(hv:ai P (invoke d.target d.args) (.enter f args))(h:Own P B false K R H (aX (Frame.enter P f args .deferred) [y6 P])):Own P B false K R H (Ix P d):=by
 refine (KT P B false K).step rfl λ w hw=>⟨_,w,#[],R,H,?_,by simp,fP.refl hw,h⟩
 have hc:(match d.target with | .collected _=>false | _=>true)=true:=by
  cases ht:d.target with
  | collected b =>
   rw [ht] at hv
   have:=(hv w).1
   simp [invoke] at this
  | _=>rfl
 have hvw:=hv w
 obtain ⟨tg,al0⟩:=d
 simp only at hc hvw hd
 unfold stepG Ix
 simp only
 unfold Go.unwind
 cases tg with
 | collected b=>cases hc
 | _=>simp_all [callDeferred,Sem.runT_eq,GStep.after,seen_none,aX,y6]
theorem aEv{f:FuncId}{captured args:Array Value}(he:bj P f):ai P (invoke (.fn (.func f) captured) args) (.enter f (args++captured)):=by
 obtain ⟨fn,h1,h2,h3⟩:=he.ex
 simp only [invoke]
 exact DC h1 h2 h3
theorem aCZ{x:Operand}{cl:Call}{f:FuncId}{cap:Array Value}{t:TypeId}(hc:cl.callee = .value x)(ha:cl.args=#[])(hx:bg st x=some (.func (.func f) #[] cap))(ρ:Operand→Value)(bd:Knows st ρ):ai P (resolve ρ cl t) ⟨.fn (.func f) cap,#[]⟩:=by
 simp only [resolve,hc,ha,bd x _ hx,Deferred.ofValue]
 have e:(#[]:Array Value)++Array.map ρ #[]=#[]:=by simp
 rw [e]
 exact ai.pure _
theorem aoh{f:FuncId}{fn:Func}{body:Code}{args:List Value}{m:Nat}{kd:CallKind}{cs:List Frame}(hf:P.funcs[f]? = some fn)(hb:fn.body=some body)(rA:fn.ntmps=m)(hn:Nat.ble args.length m=true) :
  ∃ tmps,cM m (vR 0 args) tmps∧Frame.enter P f args.toArray kd=aV ⟨f,kd,none,m,[],cs⟩ tmps [.code body]:=by
 subst rA
 have hn:args.length≤fn.ntmps:=by simpa [Nat.ble_eq] using hn
 refine ⟨args.toArray++Array.replicate (fn.ntmps - args.length) undef,⟨by simp; omega,λ t v ht=>?_⟩,by simp [Frame.enter,aV,hf,hb]⟩
 obtain ⟨_,h2⟩:=Im args 0 t v ht
 have bK:t < args.length:=by
  have:=(List.getElem?_eq_some_iff.1 h2).1
  simpa using this
 rw [Array.getElem?_append_left (by simpa using bK)]
 simpa using h2
theorem Jd.enter{af:Jd P B main}{f:FuncId}{fn:Func}{body:Code}{args:List Value}{m:Nat}{kd:CallKind}{cs:List Frame}(hf:P.funcs[f]? = some fn)(hb:fn.body=some body)(rA:fn.ntmps=m)(hn:Nat.ble args.length m=true)
  (h:U af ⟨f,kd,none,m,[],cs⟩ R H (vR 0 args) [.code body]):af.J R H (aX (Frame.enter P f args.toArray kd) cs):=by
 obtain ⟨tmps,ht,e⟩:=aoh (kd:=kd) (cs:=cs) hf hb rA hn
 rw [e]; exact h tmps ht
theorem aCF:QuitsD P 1 0 (aX (y6 P) []):=by
 refine .inr ⟨rfl,{ aX (y6 P) [] with status:=.finished },#[],by simp,λ w=>?_,rfl,rfl⟩
 have e:(default:Frame).todo=[]:=rfl
 simp [stepG,Go.unwind,aX,y6,goexitEntry,Frame.catches,e]
end
theorem KM.spawn{cl:Call}{d:Deferred}{r:Nat}(ho:ops[i]? = some o)(hw:cE ops st o=some true)(au:o.op = .go cl)(hr:∀ ρ,Knows st ρ→ai F.P (resolve ρ cl o.type) d)(hd:(d.target matches .nil)=false)(lT:bT o.dst c.n)
  (hc:Own F.P F.B false (KW F n (F.N - (r+1)) 0 .ld) R [] (Ix F.P d)) (h:∀ aZ,cM c.n (bU o.dst undef st) aZ→Own F.P F.B true (KM F n (kN r)) R H (aX (aV c aZ (.inRegion ops rest::kk)) c.cs)) :
  ∀ tmps,cM c.n st tmps→KM F (n+1) (.go r) R H (aX (aV c tmps (.inRegion ops (i::rest)::kk)) c.cs):=λ _ ht =>
 ⟨rfl,rfl,λ _ _ _ _ _=>⟨_,_,aEb ho hw au ht hr hd,hc,h _ (ht.put undef lT)⟩⟩
end
end Go.Lg
namespace Go.Lg
open Go.Conc Go.ConcN
def s0:Sh:=⟨.zero,0,0,0,0⟩
theorem jg.crowd{F:Fx}{Post:Value→World→Prop}{R:az}{H0:an}{g:Goroutine}{r:Nat}(og:F.mj=jg F.P F.B Post)(hN:F.N=r+1)(h:∀ n,Own F.P F.B true (KM F n (.ka r)) R H0 g) :
  jg F.P F.B Post R ((F.bo,F.cont λ _=>0)::(F.bw,qd F.tw s0)::(F.bm,p7 F.tm s0)::H0) g:=by
 intro gs w sl t q dd h0 hA
 have bK:=CN h0
 have hf:=hA.fits
 have dR:=hf.nd
 simp only [List.map_cons,List.nodup_cons,List.mem_cons,not_or,List.mem_map,not_exists] at dR
 have mo:(F.bo,F.cont λ _=>0)∈(F.bo,F.cont λ _=>0)::(F.bw,qd F.tw s0)::(F.bm,p7 F.tm s0)::H0:=by simp
 have mw:(F.bw,qd F.tw s0)∈(F.bo,F.cont λ _=>0)::(F.bw,qd F.tw s0)::(F.bm,p7 F.tm s0)::H0:=by simp
 have mm:(F.bm,p7 F.tm s0)∈(F.bo,F.cont λ _=>0)::(F.bw,qd F.tw s0)::(F.bm,p7 F.tm s0)::H0:=by simp
 have out:∀ b,(b=F.bo∨b=F.bw∨b=F.bm)→R b=none∧∀ o',(b,o') ∉ H0:=λ b hb=>by
  rcases hb with rfl | rfl | rfl
  ·exact ⟨hf.dj _ _ mo,λ o' eN=>dR.1.2.2 (F.bo,o') ⟨eN,rfl⟩⟩
  ·exact ⟨hf.dj _ _ mw,λ o' eN=>dR.2.1.2 (F.bw,o') ⟨eN,rfl⟩⟩
  ·exact ⟨hf.dj _ _ mm,λ o' eN=>dR.2.2.1 (F.bm,o') ⟨eN,rfl⟩⟩
 have hc:∀ n,cnt (cj (λ _=>.no) 0 (.mn (.ka r))) n = .zero:=λ n=>by
  have z:∀ f:Cn→Nat,f .zero=0→dc n (λ i=>f (cA (cj (λ _=>.no) 0 (.mn (.ka r)) i)))=0:=λ f hf=>by
   have e:∀ i,f (cA (cj (λ _=>.no) 0 (.mn (.ka r)) i))=0:=λ i=>by
    unfold cj; split <;> exact hf
   have:=O9 (b:=0) (f:=λ i=>f (cA (cj (λ _=>.no) 0 (.mn (.ka r)) i))) (λ i=>by rw [e]; exact Nat.le_refl _) n
   omega
  unfold cnt
  simp only [z (·.ow) rfl,z (·.hl) rfl,z (·.pu) rfl,z (·.pc) rfl,z (·.al) rfl,z (·.z) rfl,z (·.a1) rfl,z (·.ak) rfl,z (·.ux) rfl,z (·.wk) rfl,z (·.lv) rfl,z (·.dw) rfl,z (·.d4) rfl]
  rfl
 have Cf:∀ i k j T,cj (λ _=>.no) 0 (.mn (.ka r)) i ≠ .wk k j T:=λ i k j T e=>by
  unfold cj at e; split at e <;> cases e
 have mN:Bk F (31 * (gs.size+F.N)+1) (.ka r) (cj (λ _=>.no) 0 (.mn (.ka r))) (λ _=>0) s0 gs.size:=by
  refine ⟨jL _ _ _,by simp,bK,λ i hi=>fC (by omega),λ i T hT=>?_,?_,?_,λ i k j T e=>absurd e (Cf i k j T),λ i i' k j j' T T' e=>absurd e (Cf i k j T),λ k hk=>?_,λ k hk=>rfl,by simp only [rem,hN]; omega⟩
  ·apply Classical.byContradiction
   intro hn
   rw [fC hn] at hT; cases hT
  ·rw [hc]; constructor <;> simp [Cn.zero,s0,Wd.zero]
  ·rw [hc]; refine ⟨by simp [kW,Cn.zero,s0],by simp [Cn.zero,Cn.jK],by simp [Cn.zero,Cn.jK,rem,hN]⟩
  ·simp only [rem,hN] at hk; omega
 have hd0:=hA.d0
 obtain ⟨T,hT⟩:=h (MM F (31 * (gs.size+F.N)+1) (cj (λ _=>.no) 0 (.mn (.ka r))) s0 gs.size)
 refine MI.runs (F:=F) (Q:=31 * (gs.size+F.N)+1) (T0:=.ka r) (D:=cj (λ _=>.no) 0 (.mn (.ka r))) (m:=λ i=>if i=0 then some T else some (rM (q i))) (js:=λ _=>0) (s:=s0) (th:=only ⟨R,H0⟩) (mu:=λ _=>false) (dd:=dd) og ⟨?_,?_,λ i x hx=>?_,λ i hi=>⟨?_,rfl,hA.dz i hi⟩,mN⟩
 ·rw [hc]
  have sub:∀ i x,only ⟨R,H0⟩ i=some x→i=0∧x=⟨R,H0⟩:=λ i x hx=>by
   unfold only at hx; split at hx
   ·cases hx; exact ⟨‹_›,rfl⟩
   ·cases hx
  refine ⟨λ i x hx=>?_,λ i j x y pn hx hy=>?_,λ c o Ag=>?_,λ c o Ag i x hx=>?_⟩
  ·obtain ⟨rfl,rfl⟩:=sub i x hx
   exact ⟨hf.r,λ b o hb=>hf.h b o (by simp [hb]),dR.2.2.2,λ b o hb=>hf.dj b o (by simp [hb]),hf.os,hf.tape,hf.out⟩
  ·obtain ⟨rfl,_⟩:=sub i x hx
   obtain ⟨rfl,_⟩:=sub j y hy
   exact absurd rfl pn
  ·rcases C8 Ag with ⟨rfl,rfl⟩ | ⟨rfl,rfl⟩ | ⟨rfl,rfl,_⟩
   ·exact hf.h _ _ mm
   ·exact hf.h _ _ mw
   ·exact hf.h _ _ mo
  ·obtain ⟨rfl,rfl⟩:=sub i x hx
   rcases C8 Ag with ⟨rfl,rfl⟩ | ⟨rfl,rfl⟩ | ⟨rfl,rfl,_⟩
   ·exact out _ (.inr (.inr rfl))
   ·exact out _ (.inr (.inl rfl))
   ·exact out _ (.inl rfl)
 ·rw [hc]
  refine cQ.share (bs:=[F.bm,F.bw]) (b:=F.bo) hA.tr (λ c Ag=>?_) (λ x hx=>by simp [hx]) _ _
  simp only [List.mem_cons,List.not_mem_nil,or_false] at Ag
  rcases Ag with rfl | rfl | rfl
  ·exact ⟨_,mo⟩
  ·exact ⟨_,mm⟩
  ·exact ⟨_,mw⟩
 ·by_cases hi:i=0
  ·subst hi
   rw [h0] at hx; cases hx
   rw [jL]
   exact ⟨rfl,hd0,rfl,⟨R,H0⟩,_,rfl,Nat.le_refl _,.inl ⟨T,by simp,hT⟩⟩
  ·rw [fC hi]
   refine ⟨by simp [only,hi],by omega,q i,by simp [hi],hA.lv i x (by omega) hx⟩
 ·have:i≠0:=by omega
  simp [only,this]
end Go.Lg
namespace Go.Lg
theorem aD3:∀ (l w s:Fin 2) (n:Fin 6),let v:Int:=(l.1:Int)+2 * w.1+4 * s.1+8 * n.1;
  fH .and .i32 v 1=some (l.1:Int)∧fH .and .i32 v 2=some (2 * w.1:Int)∧fH .and .i32 v 3=some ((l.1:Int)+2 * w.1)∧fH .and .i32 v 4=some (4 * s.1:Int)∧fH .and .i32 v 5=some ((l.1:Int)+4 * s.1) ∧
  fH .and .i32 v 7=some ((l.1:Int)+2 * w.1+4 * s.1)∧fH .or .i32 v 1=some (1+2 * w.1+4 * s.1+8 * n.1:Int)∧fH .or .i32 v 2=some ((l.1:Int)+2+4 * s.1+8 * n.1)∧fH .or .i32 v 4=some ((l.1:Int)+2 * w.1+4+8 * n.1) ∧
  fH .andNot .i32 v 2=some ((l.1:Int)+4 * s.1+8 * n.1)∧kU .i32 v 3=some (n.1:Int):=by decide +kernel
section
variable {m:Wd} (h:m.ok 5)
include h
theorem Wd.td:fH .and .i32 m.val 1=some (m.l:Int)∧fH .and .i32 m.val 2=some (2 * m.w:Int)∧fH .and .i32 m.val 3=some ((m.l:Int)+2 * m.w)∧fH .and .i32 m.val 4=some (4 * m.s:Int)∧fH .and .i32 m.val 5=some ((m.l:Int)+4 * m.s) ∧
  fH .and .i32 m.val 7=some ((m.l:Int)+2 * m.w+4 * m.s)∧fH .or .i32 m.val 1=some (Wd.val { m with l:=1 })∧fH .or .i32 m.val 2=some (Wd.val { m with w:=1 })∧fH .or .i32 m.val 4=some (Wd.val { m with s:=1 }) ∧
  fH .andNot .i32 m.val 2=some (Wd.val { m with w:=0 })∧kU .i32 m.val 3=some (m.n:Int):=by
 obtain ⟨l,w,s,n⟩:=m
 obtain ⟨h1,h2,h3,h4⟩:=h
 have:=aD3 ⟨l,by simp only at h1; omega⟩ ⟨w,by simp only at h2; omega⟩ ⟨s,by simp only at h3; omega⟩ ⟨n,by simp only at h4; omega⟩
 simpa [Wd.val] using this
theorem Wd.fit:0≤m.val∧m.val≤47:=by
 obtain ⟨h1,h2,h3,h4⟩:=h
 unfold Wd.val; omega
end
theorem wrap_i32{z:Int}(h1 : -2147483648≤z)(h2:z≤2147483647):IntKind.i32.wrap z=z:=by
 unfold IntKind.wrap
 simp [IntKind.signed,IntKind.bits]
 omega
theorem wrap_u32{z:Int}(h1:0≤z)(h2:z≤4294967295):IntKind.u32.wrap z=z:=by
 unfold IntKind.wrap
 simp [IntKind.signed,IntKind.bits]
 omega
theorem agt{z:Int}(h1:0≤z)(h2:z≤18446744073709551615):IntKind.u64.wrap z=z:=by
 unfold IntKind.wrap
 simp [IntKind.signed,IntKind.bits]
 omega
theorem aFd{z:Int}(h1:4294967296≤z)(h2:z≤18446744073709551615):IntKind.u64.wrap (z+18446744069414584320)=z - 4294967296:=by
 unfold IntKind.wrap
 simp [IntKind.signed,IntKind.bits]
 omega
theorem aD2:∀ (v:Fin 6) (w:Fin 2),let z:Int:=4294967296 * (v.1:Int)+w.1;
  fH .and .u64 z 2147483648=some 0∧fH .and .u64 z 2147483647=some (w.1:Int)∧kU .u64 z 32=some (v.1:Int):=by decide +kernel
theorem Yn{v w:Nat}(hv:v≤5)(hw:w≤1):fH .and .u64 (4294967296 * (v:Int)+w) 2147483648=some 0∧fH .and .u64 (4294967296 * (v:Int)+w) 2147483647=some (w:Int)∧kU .u64 (4294967296 * (v:Int)+w) 32=some (v:Int):=by
 simpa using aD2 ⟨v,by omega⟩ ⟨w,by omega⟩
end Go.Lg
namespace Go.Lg
open Go.Conc Go.ConcN
class tT (P:Program) where
 ki:Nat→Option IntKind
 ok:∀ t k,ki t=some k→P.underlying t=some (.int k)
def Sm(bo:BinOp)(kd:IntKind)(a b:Int):Option Value :=
 match bo with
 | .eql=>some (.bool (a == b))
 | .neq=>some (.bool (a != b))
 | .lss=>some (.bool (decide (a < b)))
 | .leq=>some (.bool (decide (a≤b)))
 | .gtr=>some (.bool (decide (a > b)))
 | .geq=>some (.bool (decide (a ≥ b)))
 | .add=>some (.int kd (kd.wrap (a+b)))
 | .sub=>some (.int kd (kd.wrap (a - b)))
 | .and=>some (.int kd ((fH .and kd a b).getD 0))
 | .or=>some (.int kd ((fH .or kd a b).getD 0))
 | .andNot=>some (.int kd ((fH .andNot kd a b).getD 0))
 | _=>none
def N9(fo:Nat→Nat→Option Nat)(ki:Nat→Option IntKind)(st:St)(o:Oper):Option Value :=
 match o.op with
 | .move x=>bg st x
 | .assign x=>bg st x
 | .nilCheck x=>match bg st x with
  | some (.pointer (some a))=>some (.pointer (some a))
  | _=>none
 | .pick x y z=>match bg st x with
  | some (.bool true)=>bg st y
  | some (.bool false)=>bg st z
  | _=>none
 | .unOp .not _ x=>match bg st x with
  | some (.bool a)=>some (.bool (!a))
  | _=>none
 | .binOp .shr _ x y _=>match bg st x,bg st y with
  | some (.int kd a),some (.int _ b)=>if b < 0 then none else some (.int kd (a.fdiv (2 ^ (min b.toNat kd.bits))))
  | _,_=>none
 | .binOp .shl _ x y _=>match bg st x,bg st y with
  | some (.int kd a),some (.int _ b)=>if b < 0 then none else some (.int kd (kd.wrap (a * 2 ^ (min b.toNat kd.bits))))
  | _,_=>none
 | .binOp bo _ x y _=>match bg st x,bg st y with
  | some (.int kd a),some (.int CH b)=>if kd=CH then Sm bo kd a b else none
  | _,_=>none
 | .convert s d x=>match bg st x,ki s,ki d with
  | some (.int _ a),some _,some kd=>some (.int kd (kd.wrap a))
  | _,_,_=>none
 | .fieldAddr s x f=>match bg st x,fo s f with
  | some (.pointer (some ⟨b,n,none⟩)),some off=>some (.pointer (some ⟨b,n+off,none⟩))
  | _,_=>none
 | _=>none
section
variable {P:Program} [mQ P] [tT P] {B:Base} {main:Bool} {af:Jd P B main} {J:QJ P} {c:Ctx} {R:az} {H:an} {st st':St} {o:Oper} {k:List Item}
omit [mQ P] [tT P] in
theorem afQ{kd yk:IntKind}{a b:Int}{t:TypeId}(hb:¬ b < 0):ai P (binOp .shr t (.int kd a) (.int yk b)) (.int kd (a.fdiv (2 ^ (min b.toNat kd.bits))))∧ai P (binOp .shl t (.int kd a) (.int yk b)) (.int kd (kd.wrap (a * 2 ^ (min b.toNat kd.bits)))):=by
 constructor <;> (simp only [binOp,Op.shift,if_false,hb]; exact ai.pure _)
omit [mQ P] [tT P] in
theorem aEm{bo:BinOp}{kd:IntKind}{a b:Int}{t:TypeId}{v:Value}(h:Sm bo kd a b=some v):ai P (binOp bo t (.int kd a) (.int kd b)) v:=by
 unfold Sm at h
 cases bo <;> simp only [Option.some.injEq,reduceCtorEq] at h <;> subst h <;> simp only [binOp,ne_eq,not_true_eq_false,if_false,Op.intArith,Op.intBits,fH,Option.getD_some] <;> exact ai.pure _
theorem adT{v:Value}(h:N9 (mQ.off P) (tT.ki P) st o=some v)(hd:bT o.dst c.n):tU P c o st v:=by
 unfold N9 at h
 split at h
 ·rename_i x au; exact OV.move au hd h
 ·rename_i x au; exact OV.assign au hd h
 ·rename_i x au
  split at h
  ·rename_i hx; cases h; exact OV.nilCheck au hd hx
  ·cases h
 ·rename_i x y z au
  split at h
  ·rename_i hx; exact OV.aCv au hd hx h
  ·rename_i hx; exact OV.aCu au hd hx h
  ·cases h
 ·rename_i t x au
  split at h
  ·rename_i hx; cases h; exact OV.not au hd hx
  ·cases h
 ·rename_i t x y u au
  split at h
  ·rename_i kd a CH b hx hy
   split at h
   ·cases h
   ·rename_i hb; cases h; exact OV.bin au hd hx hy (afQ hb).1
  ·cases h
 ·rename_i t x y u au
  split at h
  ·rename_i kd a CH b hx hy
   split at h
   ·cases h
   ·rename_i hb; cases h; exact OV.bin au hd hx hy (afQ hb).2
  ·cases h
 ·rename_i bo t x y u _ _ au
  split at h
  ·rename_i kd a CH b hx hy
   split at h
   ·rename_i e; subst e; exact OV.bin au hd hx hy (aEm h)
   ·cases h
  ·cases h
 ·rename_i s d x au
  split at h
  ·rename_i ks a k0 kd hx hs hk
   cases h
   refine ⟨by rw [au]; rfl,hd,λ ρ bd=>?_⟩
   simp only [execOp,au,bd x _ hx]
   refine ai.bind ?_ (ai.pure _)
   unfold convert
   exact ai.bind (ai.underlying (tT.ok _ _ hs)) (ai.bind (ai.underlying (tT.ok _ _ hk)) (ai.pure _))
  ·cases h
 ·rename_i s x f au
  split at h
  ·rename_i hx hf; cases h; exact OV.fieldAddr au hd hx (mQ.ok s f _ hf)
  ·cases h
 ·cases h
def XT(fo:Nat→Nat→Option Nat)(ki:Nat→Option IntKind)(ops:Array Oper)(n:Nat)(st:St)(i:Nat):Option St :=
 match ops[i]? with
 | none=>none
 | some o=>match cE ops st o with
  | some true=>match N9 fo ki st o,o.dst with
   | some v,some d=>if Nat.blt d n=true then some ((d,v)::st) else none
   | _,_=>none
  | some false=>match m5 o.op,o.dst with
   | false,some d=>if Nat.blt d n=true then some ((d,undef)::st) else none
   | false,none=>some st
   | _,_=>none
  | none=>none
def rR(fo:Nat→Nat→Option Nat)(ki:Nat→Option IntKind)(ops:Array Oper)(n:Nat):List Nat→St→Option St
 | [],st=>some st
 | i::is,st=>match XT fo ki ops n st i with
  | some st'=>rR fo ki ops n is st'
  | none=>none
theorem afo{ops:Array Oper}{n i:Nat}{fo:Nat→Nat→Option Nat}{ki:Nat→Option IntKind}(h:XT fo ki ops n st i=some st'):∃ o,ops[i]? = some o ∧
  ((cE ops st o=some true∧∃ v d,N9 fo ki st o=some v∧o.dst=some d∧bT (some d) n∧st'=(d,v)::st) ∨
   (cE ops st o=some false∧m5 o.op=false∧bT o.dst n∧st'=bU o.dst undef st)):=by
 unfold XT at h
 split at h
 ·cases h
 ·rename_i o ho
  refine ⟨o,ho,?_⟩
  split at h
  ·rename_i hw
   split at h
   ·rename_i v d hv hd
    split at h
    ·rename_i hl; cases h; exact .inl ⟨hw,v,d,hv,hd,hl,rfl⟩
    ·cases h
   ·cases h
  ·rename_i hw
   split at h
   ·rename_i d mD hd
    split at h
    ·rename_i hl; cases h; exact .inr ⟨hw,mD,by rw [hd]; exact hl,by rw [hd]; rfl⟩
    ·cases h
   ·rename_i mD hd
    cases h; exact .inr ⟨hw,mD,by rw [hd]; rfl,by rw [hd]; rfl⟩
   ·cases h
  ·cases h
theorem U.rR{ops:Array Oper}(hk:(c.kind == CallKind.early)=false):∀ {is rest:List Nat} {st:St},Go.Lg.rR (mQ.off P) (tT.ki P) ops c.n is st=some st'→U af c R H st' (.inRegion ops rest::k)→U af c R H st (.inRegion ops (is++rest)::k)
 | [],rest,st,h,ha=>by cases h; exact ha
 | i::is,rest,st,h,ha=>by
  unfold Go.Lg.rR at h
  split at h
  ·rename_i w8 h1
   have ih:=U.rR hk h ha
   obtain ⟨o,ho,⟨hw,v,d,hv,hd,hl,rfl⟩ | ⟨hw,mD,hl,rfl⟩⟩:=afo h1
   ·exact U.val ho hw hk (adT hv (by rw [hd]; exact hl)) (by rw [hd]; exact aI.refl _) ih
   ·exact U.unwanted ho hw hl (aI.refl _) ih
  ·cases h
theorem aH.rR{ops:Array Oper}(hk:(c.kind == CallKind.early)=false):∀ {is rest:List Nat} {st:St},Go.Lg.rR (mQ.off P) (tT.ki P) ops c.n is st=some st'→aH J c st' (.inRegion ops rest::k)→aH J c st (.inRegion ops (is++rest)::k)
 | [],rest,st,h,ha=>by cases h; exact ha
 | i::is,rest,st,h,ha=>by
  unfold Go.Lg.rR at h
  split at h
  ·rename_i w8 h1
   have ih:=aH.rR hk h ha
   obtain ⟨o,ho,⟨hw,v,d,hv,hd,hl,rfl⟩ | ⟨hw,mD,hl,rfl⟩⟩:=afo h1
   ·exact aH.val ho hw hk (adT hv (by rw [hd]; exact hl)) (by rw [hd]; exact aI.refl _) ih
   ·exact aH.unwanted ho hw hl (aI.refl _) ih
  ·cases h
theorem U.lv(m:Nat){ops:Array Oper}{is rG:List Nat}(ha:U af c R H st' (.inRegion ops rG::k))(h:Go.Lg.rR (mQ.off P) (tT.ki P) ops c.n (is.take m) st=some st':=by rfl)(hr:is.drop m=rG:=by rfl)(hk:(c.kind == CallKind.early)=false:=by rfl):U af c R H st (.inRegion ops is::k):=by
 subst hr
 have:=U.rR (rest:=is.drop m) hk h ha
 rwa [List.take_append_drop] at this
theorem aH.lv(m:Nat){ops:Array Oper}{is rG:List Nat}(ha:aH J c st' (.inRegion ops rG::k))(h:Go.Lg.rR (mQ.off P) (tT.ki P) ops c.n (is.take m) st=some st':=by rfl)(hr:is.drop m=rG:=by rfl)(hk:(c.kind == CallKind.early)=false:=by rfl):aH J c st (.inRegion ops is::k):=by
 subst hr
 have:=aH.rR (rest:=is.drop m) hk h ha
 rwa [List.take_append_drop] at this
end
section
variable {P:Program} {B:Base} {main:Bool} {af:Jd P B main} {J:QJ P} {c:Ctx} {R:az} {H:an} {st st':St} {k:List Item}
theorem U.is(t:Nat){v v':Value}{todo:List Item}(hx:st.lookup t=some v)(hv:v=v')(h:U af c R H ((t,v')::st) todo):U af c R H st todo:=by
 subst hv
 refine U.sub (λ u x hu=>?_) h
 rw [List.lookup_cons] at hu
 split at hu
 ·rename_i e; rw [beq_iff_eq] at e; subst e; rw [hx]; exact hu
 ·exact hu
theorem aH.is(t:Nat){v v':Value}{todo:List Item}(hx:st.lookup t=some v)(hv:v=v')(h:aH J c ((t,v')::st) todo):aH J c st todo:=by
 subst hv
 refine aH.sub (λ u x hu=>?_) h
 rw [List.lookup_cons] at hu
 split at hu
 ·rename_i e; rw [beq_iff_eq] at e; subst e; rw [hx]; exact hu
 ·exact hu
theorem aH.rg(is:List Nat){id:Nat}{ops:Array Oper}(h:aH J c st (.inRegion ops is::k))(hn:ops.size=is.length:=by rfl)(mF:List.range is.length=is:=by rfl):aH J c st (.code (.region id ops false)::k):=aH.region hn mF h
def kV(P:Program)(J K:Goroutine→Prop)(f:FuncId)(vs:List Value):Prop :=
 ∀ fr cs,K (aX (Frame.finish fr (iE [])) cs)→J (aX (Frame.enter P f vs.toArray .normal) (fr::cs))
variable {ops:Array Oper} {i:Nat} {rest:List Nat} {o:Oper} {f:FuncId} {as:Array Operand} {iQ:Array TypeId} {vs:List Value} {K:Goroutine→Prop}
theorem U.wT(ho:ops[i]? = some o)(hw:cE ops st o=some true)(fR:(c.kind == CallKind.early)=false)(au:o.op = .call ⟨.value (.func f),as,iQ⟩)(ha:ji st as.toList=some vs)(he:bj P f)(hd:bT o.dst c.n)
  (hf:kV P (af.J R H) K f vs) (h:∀ aZ,cM c.n (bU o.dst (iE []) st) aZ→K (aX (aV c aZ (.inRegion ops rest::k)) c.cs)):U af c R H st (.inRegion ops (i::rest)::k):=λ tmps ht=>by
 obtain ⟨fn,h1,h2,h3⟩:=he.ex
 have hv:ai P (execOp (aV c tmps (.inRegion ops (i::rest)::k)).eval o) (.enter f vs.toArray):=by
  rw [E5 au ht ha]
  exact DC h1 h2 h3
 refine Jd.ctl rfl (λ w=>?_) (hf (aV c tmps (.inRegion ops (i::rest)::k)) c.cs ?_)
 ·rw [qc ho (kO ht hw) (by rw [au]; rfl),Il rfl (by simpa [aV] using fR) (hv w).1,(hv w).2]
  rfl
 ·rw [qz ho]
  exact h _ (ht.put _ hd)
theorem kV.bn{fn:Func}{body:Code}{n:Nat}(hf:P.funcs[f]? = some fn)(hb:fn.body=some body)(rA:fn.ntmps=n)(hn:Nat.ble vs.length n=true)
  (h:∀ fr cs,K (aX (Frame.finish fr (iE [])) cs)→U af ⟨f,.normal,none,n,[],fr::cs⟩ R H (vR 0 vs) [.code body]):kV P (af.J R H) K f vs:=λ fr cs hk=>Jd.enter hf hb rA hn (h fr cs hk)
theorem U.qx{m:Nat}{fn:Func}{fr:Frame}{cs:List Frame}{todo:List Item}(hf:P.funcs[f]? = some fn)(hr:fn.results.toList=[])(hj:af.J R H (aX (fr.finish (iE [])) cs))(hm:todo=[]∨∃ k,todo = .code .ret::k):U af ⟨f,.normal,none,m,[],fr::cs⟩ R H st todo:=by
 have key:∀ tmps todo,cM m st tmps→af.J R H (aX (jv ⟨f,.normal,none,m,[],fr::cs⟩ tmps todo) (fr::cs)):=λ tmps todo ht=>Jd.back hf ht (by rw [hr]; rfl) hj
 rcases hm with rfl | ⟨k,rfl⟩
 ·exact U.toEnd rfl λ tmps ht=>key tmps _ ht
 ·exact U.X0 rfl λ tmps ht=>key tmps _ ht
end
section
variable {P:Program} {main:Bool} {c:Ctx} {st:St} {k:List Item} {ops:Array Oper} {i:Nat} {rest:List Nat} {o:Oper} {f:FuncId} {as:Array Operand} {iQ:Array TypeId} {vs:List Value}
theorem aDY{tmps:Array Value}{w:World}(ho:ops[i]? = some o)(hw:cE ops st o=some true)(fR:(c.kind == CallKind.early)=false)(au:o.op = .call ⟨.value (.func f),as,iQ⟩)(hf:gx P f Extern.OsHooks.nano)(hq:(P.funcs[f]?).any (·.norace)=true)(ht:cM c.n st tmps)(ha:ji st as.toList=some vs) :
  stepG P main (aX (aV c tmps (.inRegion ops (i::rest)::k)) c.cs) w = .go (aX (aV c (fG o.dst (.int .i64 ((w.os.mono+w.tick:Nat):Int)) tmps) (.inRegion ops rest::k)) c.cs) w.later #[]:=by
 obtain ⟨fn,h1,h2,h3,h4,h5⟩:=hf.ex
 have kJ:(Extern.OsHooks.nano vs.toArray).run P w = .ok (.int .i64 ((w.os.mono+w.tick:Nat):Int)) w.later:=rfl
 rw [qc ho (kO ht hw) (by rw [au]; rfl),← qz (rest:=rest) (k:=k) (c:=c) (tmps:=tmps) (v:=.int .i64 ((w.os.mono+w.tick:Nat):Int)) ho,E5 au ht ha]
 have hr:(callFunc f vs.toArray).run P w = .ok (.value (.int .i64 ((w.os.mono+w.tick:Nat):Int))) w.later:=by rw [run_callFunc_extern h1 h2 h3 h4 h5,kJ]; rfl
 rw [BJ (by simpa [aV] using fR) hr]
 congr 1
 rw [events_callFunc_extern h1 h2 h3 h4 h5]
 simp only [List.push_toArray,List.nil_append]
 have j5:(Extern.OsHooks.nano vs.toArray).events P w #[⟨.mark (.extern f),false,true⟩]=#[⟨.mark (.extern f),false,true⟩]++#[⟨.output,true,false⟩]:=rfl
 rw [j5,seen_entry_out _ _ hq]
end
section
variable {F:Fx} {c:Ctx} {R:az} {H:an} {st:St} {kk:List Item} {ops:Array Oper} {i:Nat} {rest:List Nat} {o:Oper} {f:FuncId} {as:Array Operand} {iQ:Array TypeId} {vs:List Value} {n k j:Nat} {T:Lp}
theorem KW.nano(hB:∀ w:World,F.B.os w.os→F.B.os w.later.os)(ho:ops[i]? = some o)(hw:cE ops st o=some true)(fR:(c.kind == CallKind.early)=false)(au:o.op = .call ⟨.value (.func f),as,iQ⟩)(hf:gx F.P f Extern.OsHooks.nano)(hq:(F.P.funcs[f]?).any (·.norace)=true)(ha:ji st as.toList=some vs)(hd:bT o.dst c.n)
  (hT:T ≠ .us∧T ≠ .d4) (j5:E2 F T #[])
  (h:qK F.N T→∀ z:Int,∃ T',(∀ s,di T s T' s)∧yN F j T T'∧∀ aZ,cM c.n (bU o.dst (.int .i64 z) st) aZ→xB F (KW F n k) k j T T' R H (aX (aV c aZ (.inRegion ops rest::kk)) c.cs)) :
  ∀ tmps,cM c.n st tmps→KW F (n+1) k j T R H (aX (aV c tmps (.inRegion ops (i::rest)::kk)) c.cs):=by
 intro tmps ht ot
 refine ⟨rfl,rfl,λ e=>by rcases e with e | e; exact absurd e hT.1; exact absurd e hT.2,λ w s xV bf xZ mG=>.inr ?_⟩
 obtain ⟨T',h1,h2,h3⟩:=h ot ((w.os.mono+w.tick:Nat):Int)
 exact ⟨_,w.later,#[],T',s,h1 s,h2,j5,aDY ho hw fR au hf hq ht ha,b9.later bf (hB w),h3 _ (ht.put _ hd)⟩
end
section
variable {F:Fx} {c:Ctx} {R:az} {H:an} {st:St} {todo:List Item} {n k j:Nat} {T T':Lp} {T0:Mp}
theorem U.aD0(h:∀ m,m < n→∀ tmps,cM c.n st tmps→KW F (m+1) k j T R H (aX (aV c tmps todo) c.cs)):U (KT F.P F.B false (KW F n k j T)) c R H st todo:=λ tmps ht=>by
 cases n with
 | zero=>exact Own.stop _ _ _ _ trivial
 | succ n=>exact Own.stop _ _ _ _ (h n (Nat.lt_succ_self n) tmps ht)
theorem U.aDZ(h:∀ m,m < n→∀ tmps,cM c.n st tmps→KM F (m+1) T0 R H (aX (aV c tmps todo) c.cs)):U (KT F.P F.B true (KM F n T0)) c R H st todo:=λ tmps ht=>by
 cases n with
 | zero=>exact Own.stop _ _ _ _ trivial
 | succ n=>exact Own.stop _ _ _ _ (h n (Nat.lt_succ_self n) tmps ht)
theorem pd(h:T ≠ .ue):yN F j T T':=by unfold yN; split <;> first | trivial | exact absurd rfl h
theorem arE(c:Lc):hd c = .sq c∨hd c = .c2 c:=by unfold hd; split; exact .inl rfl; exact .inr rfl
theorem aDE(c:Lc):jx c = .c1 c∨jx c = .r1 c:=by unfold jx; split; exact .inl rfl; exact .inr rfl
theorem awn(m:Wd):hu m = .ue∨hu m = .uc m:=by unfold hu; split; exact .inl rfl; exact .inr rfl
theorem Oy{K:Nat→Lp→az→an→Goroutine→Prop}{c:Lc}{g:Goroutine}(h:Own F.P F.B false (K j (hd c)) R H g):xB F K k j T (hd c) R H g:=by rcases arE c with e | e <;> rw [e] at h ⊢ <;> exact h
theorem aBC{K:Nat→Lp→az→an→Goroutine→Prop}{c:Lc}{g:Goroutine}(h:Own F.P F.B false (K j (jx c)) R H g):xB F K k j T (jx c) R H g:=by rcases aDE c with e | e <;> rw [e] at h ⊢ <;> exact h
theorem aes{K:Nat→Lp→az→an→Goroutine→Prop}{m:Wd}{g:Goroutine}(h:Own F.P F.B false (K j (hu m)) R H g):xB F K k j T (hu m) R H g:=by rcases awn m with e | e <;> rw [e] at h ⊢ <;> exact h
end
section
variable {P:Program} {B:Base} {main:Bool} {af:Jd P B main} {c:Ctx} {R:az} {H:an} {st st':St} {k:List Item} {ops:Array Oper} {i:Nat} {rest:List Nat} {o:Oper} {f:FuncId} {as:Array Operand} {iQ:Array TypeId} {e:Array Value→Sem Value} {vs:List Value} {v:Value}
theorem U.ext(ho:ops[i]? = some o)(hw:cE ops st o=some true)(fR:(c.kind == CallKind.early)=false)(au:o.op = .call ⟨.value (.func f),as,iQ⟩)(hd:bT o.dst c.n)(hf:gx P f e)(ha:ji st as.toList=some vs)
  (hE:∀ w,nB P (e vs.toArray) f w v w #[]) (hs:aI (bU o.dst v st) st') (h:U af c R H st' (.inRegion ops rest::k)):U af c R H st (.inRegion ops (i::rest)::k):=λ _ ht =>
 Jd.ctl rfl (λ w=>K5 ho hw fR au hf ht ha (hE w)) (h _ ((ht.put v hd).sub hs))
theorem S4{w:World}:nB P (pure v) f w v w #[]:=⟨rfl,rfl,by simp⟩
theorem U.join{x:Operand}{th el:Code}{b:Bool}(hx:bg st x=some (.bool b))(h1:b=true→U af c R H st' k→U af c R H st (.code th::k))(h2:b=false→U af c R H st' k→U af c R H st (.code el::k))(h:U af c R H st' k):U af c R H st (.code (.cond x th el)::k):=by
 cases b
 ·exact U.eF hx rfl (h2 rfl h)
 ·exact U.fE hx rfl (h1 rfl h)
theorem U.head{X:Type}{Jn:Nat→X→Jd P B main}{S:X→St}{ok:X→Prop}{todo:List Item}(step:∀ n,(∀ m,m < n→∀ x,ok x→U (Jn m x) c R H (S x) todo)→∀ x,ok x→U (Jn n x) c R H (S x) todo)(n:Nat)(x:X)(hx:ok x):U (Jn n x) c R H (S x) todo:=by
 induction n using Nat.strongRecOn generalizing x with
 | _ n ih=>exact step n (λ m hm x hx=>ih m hm x hx) x hx
end
end Go.Lg
namespace Go.Lg
open Go.Conc Go.ConcN Go.ChangeShapes Go.RowKit
open Go.ConcM (OsLater)
section
variable {P:Program} {B:Base} {PW:Value→World→Prop} {R:az} {H:an} {st:St} {k:List Item}
theorem jg.am1{g:Goroutine}(hs:g.status = .running)(h:∀ w,Fits B R H w→∃ v w' es R' H',stepG P true g w = .ended (.done v) w' es∧(∀ e∈es,iz R H w.heap.size w'.heap.size e)∧fP B R H w R' H' w'∧PW v w'):jg P B PW R H g:=by
 refine jg.pick hs λ gs w sl qM d t q dd h0 hA cG=>?_
 obtain ⟨v,w',es,R',H',h1,h2,hu,h3⟩:=h _ hA.fits
 have Jt:=runT_many_ended (P:=P) (sl:=qM) (i:=0) h0 (show stepG P (0 == 0) g (w.at d)=_ from h1)
 have NK:=KU hA.mem Xj Xi hA.tr (i:=0) rfl (.inl rfl) h2 (.inl rfl) hu g.frame.fn g.frame.place
 rw [OF] at NK
 refine lx.end (cG.trans Jt) ⟨v,rfl,h3,NK.2.clean,NK.2.handed,⟨λ x hx=>?_,rfl⟩,λ j x hx hj=>?_⟩
 ·obtain ⟨j,hj⟩:=List.mem_iff_getElem?.1 hx
  rw [List.getElem?_drop] at hj
  exact ⟨_,(hA.lv (1+j) x (by omega) (by simpa [Go.Conc.crowd] using hj)).leaves⟩
 ·have hq:=hA.lv j x (by omega) hx
  refine ⟨q j,?_⟩
  have e:Trace.deaf _ j _=dd j:=NK.2.deaf j
  rw [e]
  exact hq.hears _
def Mk(P:Program)(B:Base)(PW:Value→World→Prop)(f:FuncId)(args:Array Value)(R:az)(H:an)(Post:Value→az→an→Prop):Prop :=
 (∀ v R' H' w,Post v R' H'→Fits B R' H' w→PW v w)→jg P B PW R H (aX (Frame.enter P f args .normal) [])
theorem Mk.bn{f:FuncId}{fn:Func}{body:Code}{args:List Value}{n:Nat}{Post:Value→az→an→Prop}(hf:P.funcs[f]? = some fn)(hb:fn.body=some body)(rA:fn.ntmps=n)(hn:Nat.ble args.length n=true)
  (h:(∀ v R' H' w,Post v R' H'→Fits B R' H' w→PW v w)→U (Da P B PW) ⟨f,.normal,none,n,[],[]⟩ R H (vR 0 args) [.code body]):Mk P B PW f args.toArray R H Post:=by
 subst rA
 intro hk
 have hn:args.length≤fn.ntmps:=by simpa [Nat.ble_eq] using hn
 have:=h hk (args.toArray++Array.replicate (fn.ntmps - args.length) undef) ⟨by simp; omega,λ t v ht=>?_⟩
 ·have e:Frame.enter P f args.toArray .normal=aV ⟨f,.normal,none,fn.ntmps,[],[]⟩ (args.toArray++Array.replicate (fn.ntmps - args.length) undef) [.code body]:=by
   simp [Frame.enter,aV,hf,hb]
  rw [e]
  exact this
 ·obtain ⟨_,h2⟩:=Im args 0 t v ht
  have bK:t < args.length:=by
   have:=(List.getElem?_eq_some_iff.1 h2).1
   simpa using this
  rw [Array.getElem?_append_left (by simpa using bK)]
  simpa using h2
theorem U.vd{H':an}{f:FuncId}{n:Nat}{fn:Func}{vs:List Value}{Post:Value→az→an→Prop}(hf:P.funcs[f]? = some fn)(hi:P.inits.idxOf? f=none)(hr:pJ P R H st fn.results.toList vs)(hs:List.Sublist H' H)
  (hk:∀ v R' H' w,Post v R' H'→Fits B R' H' w→PW v w) (hp:Post (iE vs) R H'):U (Da P B PW) ⟨f,.normal,none,n,[],[]⟩ R H st (.code .ret::k):=λ tmps ht=>by
 refine Jd.ctl (g':=aX { (aV ⟨f,.normal,none,n,[],[]⟩ tmps (.code .ret::k)) with mode:=.returning } []) rfl (λ w=>by simp [stepG,stepG.exec,aX,aV])
  (jg.am1 rfl λ w hw=>?_)
 obtain ⟨v,w',R',H2,h1,h2,h3,rfl,rfl,rfl⟩:=O2 (P:=P) ht hr w hw
 refine ⟨iE vs,w',seen P f ((results fn tmps).events P w #[]),_,_,?_,λ e he=>h2 e (mem_seen he),h3,hk _ _ _ _ hp (Pf hs h3.fits).fits⟩
 simp [stepG,unwind,doReturn,aX,aV,hf,h1,GStep.after,hi]
end
def qG(W:World):az:=λ b=>W.heap[b]?
def ET(W:World):Base:=⟨OsLater W.os,W.tape,W.output⟩
theorem arG(W:World):Fits (ET W) (qG W) [] W:=⟨λ _ _ h=>h,by simp,by simp,by simp,OsLater.refl _,rfl,rfl⟩
theorem amm{W w:World}(h:(ET W).os w.os):(ET W).os w.later.os:=OsLater.trans h ⟨w.tick,rfl⟩
theorem aBw{P:Program}{PW:Value→World→Prop}{W:World}{g:Goroutine}(h:jg P (ET W) PW (qG W) [] g) :
  ∃ M last o w' t',runNT P (M+1) (solo g W) #[]=(.ended o w',t')∧runN P M (solo g W) = .next last∧step P last = .ended o w'∧Conc.Good P PW last o w' t':=by
 have nt:∀ k a,touchAt (#[]:Trace) k=some a→False:=λ k a hk=>by simp [touchAt,Trace.act?] at hk
 refine h #[g] W none #[] (λ _=>0) (λ _=>0) rfl ⟨⟨λ i x hx=>?_,λ i j x y pn hx hy=>?_,by simp,by simp⟩,⟨λ i x hx b o hb k a hk=>(nt k a hk).elim,λ i x hx b o hb k a hk=>(nt k a hk).elim,λ b hb=>(by cases hb),λ b hb=>(by cases hb),by simp,λ k a hk=>(nt k a hk).elim,λ i=>rfl,λ a i hi=>(by simp [Trace.act?] at hi),λ said=>?_,λ k a hk=>(nt k a hk).elim⟩,rfl,λ _ _=>rfl,λ i g' hi hg=>?_⟩
 ·unfold only at hx
  split at hx
  ·cases hx; exact arG W
  ·cases hx
 ·unfold only at hx hy
  split at hx
  ·split at hy
   ·omega
   ·cases hy
  ·cases hx
 ·rintro ⟨i,j,_,⟨a,b,h1,_⟩,_⟩
  exact nt i a h1
 ·have:i < 1:=(Array.getElem?_eq_some_iff.1 hg).1
  omega
theorem amn{W w:World}{R:az}{H:an}(h:Fits (ET W) R H w)(hR:aT (qG W) R):Below W.heap.size W { w with os:=W.os }:=by
 have hb:∀ k,k < W.heap.size→w.heap[k]? = W.heap[k]? := λ k hk=>by
  have e:W.heap[k]? = some W.heap[k]:=Array.getElem?_eq_getElem hk
  rw [e]
  exact h.r k _ (hR k _ e)
 refine ⟨rfl,h.tape,h.out,?_,hb⟩
 by_cases hz:W.heap.size=0
 ·omega
 ·have h1:=hb (W.heap.size - 1) (by omega)
  rw [Array.getElem?_eq_getElem (xs:=W.heap) (by omega)] at h1
  have:=(Array.getElem?_eq_some_iff.1 h1).1
  show W.heap.size≤w.heap.size
  omega
structure fO (P:Program) (t:TypeId) {α:Type} (C:cu α) (k:Nat):Prop where
 size:P.cellsOf t=k
 rd:∀ (W:World) (T:Type) (enc:TypeId × Value→T) (sp:Nat→Bool) (held:Bool) (fuel:Nat) (cs:List Value) (x:DataW T × List MemPlace),DataW.trod enc P W 0 sp held fuel t cs=some x→cs.length=k∧∃ a,C (qG W) a cs
theorem fO.int{P:Program}{t:TypeId}{kd:IntKind}(hs:P.cellsOf t=1)(ht:P.underlying t=some (.int kd)):fO P t (CI kd) 1:=⟨hs,λ W T enc sp held fuel cs x h=>by
 obtain ⟨n,rfl,_,_⟩:=DataW.trod_int ht h
 exact ⟨rfl,n,rfl⟩⟩
theorem fO.str{P:Program}{t:TypeId}(hs:P.cellsOf t=1)(ht:P.underlying t=some .string):fO P t CS 1:=⟨hs,λ W T enc sp held fuel cs x h=>by
 obtain ⟨s,rfl,_,_⟩:=DataW.trod_string ht h
 exact ⟨rfl,s,rfl⟩⟩
def CW(kd:IntKind):cu Int:=λ _ x es=>es=[.int kd x]∧kd.min≤x∧x≤kd.max
theorem fO.ayJ{P:Program}{t:TypeId}{kd:IntKind}(hs:P.cellsOf t=1)(ht:P.underlying t=some (.int kd)):fO P t (CW kd) 1:=⟨hs,λ W T enc sp held fuel cs x h=>by
 obtain ⟨n,rfl,_,hw⟩:=DataW.trod_int ht h
 simp only [Lit.wf,Bool.and_eq_true,decide_eq_true_eq] at hw
 exact ⟨rfl,n,rfl,hw⟩⟩
theorem ae.aE8{α:Type}{C C':cu α}{k:Nat}{R:az}{v:Value}{xs:List α}(h:ae C k R v xs)(hc:∀ x es,C R x es→C' R x es):ae C' k R v xs:=by
 obtain ⟨A,cap,es,h1,h2,h3,h4⟩:=h
 exact ⟨A,cap,es,h1,⟨h2.len,λ i x hx=>by obtain ⟨e,g1,g2,g3⟩:=h2.at_ i x hx; exact ⟨e,hc _ _ g1,g2,g3⟩⟩,h3,h4⟩
theorem ae.each{α:Type}{C:cu α}{k:Nat}{R:az}{v:Value}{xs:List α}(h:ae C k R v xs):∀ x∈xs,∃ es,C R x es:=by
 obtain ⟨A,cap,es,_,h2,_⟩:=h
 intro x hx
 obtain ⟨i,hi⟩:=List.getElem?_of_mem hx
 obtain ⟨e,g1,_⟩:=h2.at_ i x hi
 exact ⟨e,g1⟩
theorem aln(a:Addr)(i j:Nat)(h:a.spot=none):(a.add i).add j=⟨a.block,a.off+(i+j),none⟩:=by
 obtain ⟨b,o,s⟩:=a
 cases h
 rw [sz,sz,Nat.add_assoc]
theorem fO.slice{P:Program}{t e:TypeId}{α:Type}{C:cu α}{k:Nat}(hs:P.cellsOf t=1)(ht:P.underlying t=some (.slice e))(hk:0 < k)(he:fO P e C k):fO P t (gw C k) 1:=⟨hs,λ W T enc sp held fuel cs x h=>by
 rcases DataW.trod_slice ht h with ⟨rfl,_⟩ | ⟨a,len,cap,elems,rest,n,_,rfl,_,_,hl,_,hlen,l8,_⟩
 ·exact ⟨rfl,[],_,rfl,ae.nil⟩
 refine ⟨rfl,?_⟩
 rw [he.size] at l8
 have each:∀ i:Fin len,∃ (p:α × List Value),C (qG W) p.1 p.2∧p.2.length=k∧∀ j w,p.2[j]? = some w→W.cell? ((a.add (i * k)).add j)=some w:=λ i=>by
  have h1:=l8 i i.2
  rw [List.getElem?_eq_getElem (by omega),Option.bind_eq_some_iff] at h1
  obtain ⟨ch,h2,h3⟩:=h1
  obtain ⟨h4,y,hy⟩:=he.rd _ _ _ _ _ _ _ _ h3
  refine ⟨(y,ch),hy,h4,λ j w hj=>?_⟩
  have h5:=(World.cells?_some h2).2.2 j (by have:=(List.getElem?_eq_some_iff.1 hj).1; simp only at this; omega)
  rw [h5]
  exact hj
 have adt:0 < len→a.spot=none:=λ iN=>by
  obtain ⟨p,_,h2,h3⟩:=each ⟨0,iN⟩
  have h4:=h3 0 p.2[0] (List.getElem?_eq_getElem (by omega))
  simpa [Addr.add] using World.cell?_spot h4
 let f:Fin len→α × List Value:=λ i=>(each i).choose
 have hf:∀ i,_:=λ i=>(each i).choose_spec
 let xs:List α:=List.ofFn λ i=>(f i).1
 let es:List Value:=(List.range (len * k)).map λ m=>(W.cell? ⟨a.block,a.off+m,none⟩).getD undef
 have NW:xs.length=len:=by simp [xs]
 have cell:∀ i j w (hi:i < len),(f ⟨i,hi⟩).2[j]? = some w→W.cell? ⟨a.block,a.off+(i * k+j),none⟩=some w:=λ i j w hi hj=>by
  have:=(hf ⟨i,hi⟩).2.2 j w hj
  rwa [aln _ _ _ (adt (by omega))] at this
 have idx:∀ i j,i < len→j < k→i * k+j < len * k:=λ i j hi hj=>by
  have:(i+1) * k≤len * k:=Nat.mul_le_mul_right k hi
  rw [Nat.add_mul] at this
  omega
 refine ⟨xs,_,rfl,some a,cap,es,by rw [NW],⟨by simp [es,NW],λ i x hx=>?_⟩,by omega,λ dU=>?_⟩
 ·have hi:i < len:=by rw [← NW]; exact (List.getElem?_eq_some_iff.1 hx).1
  have hxe:x=(f ⟨i,hi⟩).1:=by
   simp only [xs,List.getElem?_ofFn,hi,dif_pos,Option.some.injEq] at hx
   exact hx.symm
  subst hxe
  refine ⟨(f ⟨i,hi⟩).2,(hf ⟨i,hi⟩).1,(hf ⟨i,hi⟩).2.1,λ j w hj=>?_⟩
  have nk:j < k:=by have:=(List.getElem?_eq_some_iff.1 hj).1; rw [(hf ⟨i,hi⟩).2.1] at this; exact this
  simp only [es,List.getElem?_map,List.getElem?_range (idx i j hi nk),Option.map_some,cell i j w hi hj,Option.getD_some]
 ·have iN:0 < len:=by rw [← NW]; exact List.length_pos_iff.2 dU
  obtain ⟨b,o,s⟩:=a
  obtain rfl:s=none:=adt iN
  have all:∀ m,m < len * k→∃ w,W.cell? ⟨b,o+m,none⟩=some w:=λ m hm=>by
   have hi:m / k < len:=Nat.div_lt_of_lt_mul (by rw [Nat.mul_comm]; exact hm)
   have hj:m % k < (f ⟨m / k,hi⟩).2.length:=by rw [(hf ⟨m / k,hi⟩).2.1]; exact Nat.mod_lt _ hk
   have:=cell (m / k) (m % k) _ hi (List.getElem?_eq_getElem hj)
   rw [show m / k * k+m % k=m by rw [Nat.mul_comm]; exact Nat.div_add_mod m k] at this
   exact ⟨_,this⟩
  have h0:∃ arr e fz,W.heap[b]? = some (.cells arr e fz):=by
   obtain ⟨w,hw⟩:=all 0 (Nat.mul_pos iN hk)
   unfold World.cell? at hw
   simp only at hw
   split at hw
   ·rename_i c e' fz hb
    exact ⟨c,e',fz,hb⟩
   ·cases hw
  obtain ⟨arr,e',fz,hb⟩:=h0
  refine ⟨b,o,arr,e',fz,rfl,hb,λ j w hj=>?_⟩
  have Fc:j < len * k:=by have:=(List.getElem?_eq_some_iff.1 hj).1; simpa [es] using this
  obtain ⟨w',NO⟩:=all j Fc
  simp only [es,List.getElem?_map,List.getElem?_range Fc,Option.map_some,NO,Option.getD_some,Option.some.injEq] at hj
  subst hj
  simpa [World.cell?,hb] using NO⟩
theorem fO.field{P:Program}{t:TypeId}{α:Type}{C:cu α}{k:Nat}(hC:fO P t C k){W:World}{T:Type}{enc:TypeId × Value→T}{sp:Nat→Bool}{held:Bool}{n:Nat}{cs:List Value}{xs:List (DataW T × List MemPlace)}{i m:Nat}{f:Field}(es:List Value)(hx:xs.length=m)
  (h:DataW.trod enc P W 0 sp held n f.type ((cs.drop f.offset).take (P.cellsOf f.type))=xs[i]?) (hi:Nat.blt i m=true:=by rfl) (hf:f.type=t:=by rfl) (he:(cs.drop f.offset).take k=es:=by rfl):∃ a,C (qG W) a es:=by
 rw [hf,hC.size,he,List.getElem?_eq_getElem (by rw [hx]; simpa [Nat.blt_eq] using hi)] at h
 exact (hC.rd _ _ _ _ _ _ _ _ h).2
theorem afB{T:Type}{enc:TypeId × Value→T}{P:Program}(hl:laidOutB P=true){W W':World}(hb:Below W.heap.size W W') :
  ∀ {ts:List TypeId} {vs:List Value} {ds:List (DataW T)} {ps:List MemPlace},(ts.all λ t=>P.readableRec t && decide (t < P.types.size))=true→DataW.TrodAll enc P W 0 (λ _=>true) true ts vs ds ps→(∀ x∈ps,x.block < W.heap.size) →
   DataW.TrodAll enc P W' 0 (λ b=>decide (b < W.heap.size)) true ts vs ds ps
 | [],[],[],_,_,h,_=>h
 | t::ts,v::vs,d::ds,_,hr,⟨p,q,h1,h2,e⟩,bK=>by
  subst e
  simp only [List.all_cons,Bool.and_eq_true,decide_eq_true_eq] at hr
  exact ⟨p,q,Below.trod hl hr.1.1 hr.1.2 h1 hb (λ x hx=>bK x (by simp [hx])),afB hl hb hr.2 h2 (λ x hx=>bK x (by simp [hx])),rfl⟩
 | [],[],_::_,_,_,h,_=>h.elim
 | [],_::_,_,_,_,h,_=>h.elim
 | _::_,[],_,_,_,h,_=>h.elim
 | _::_,_::_,[],_,_,h,_=>h.elim
theorem aFb{T:Type}{enc:TypeId × Value→T}{C:Checked}{os:Os}{f:FuncId}{fn:Func}{s:ChangeSpec}{conds:List PathCond}{apart:Bool}{X:World→Array Value→Prop}(w0:World)(args:Array Value)(fuel:Nat)(xZ:w0.os=os)
  (bf:(w0.forCall (λ _ _=>0) ⟨#[],args,[]⟩).Shaped C.prog)
  (gJ:Input.okWideB C.prog (w0.forCall (λ _ _=>0) ⟨#[],args,[]⟩) f ⟨#[],args,[]⟩=true)
  (UA:s.preB enc C.prog fn conds apart (w0.forCall (λ _ _=>0) ⟨#[],args,[]⟩).memory args fuel=true)
  (fN:s.sizedB enc C.prog fn apart (w0.forCall (λ _ _=>0) ⟨#[],args,[]⟩).memory args fuel=true)
  (hx:X (w0.forCall (λ _ _=>0) ⟨#[],args,[]⟩).memory args) :
  ∃ (w:World) (tape:Tape) (i:Input),w.os=os∧(w.forCall tape i).Shaped C.prog∧i.vars=[]∧Input.okWide C.prog (w.forCall tape i) .any w.heap.size f i ∧
   ((s.pre enc C.prog fn conds apart (w.forCall tape i).memory i.args∧X (w.forCall tape i).memory i.args)∧sizedMet enc C.prog fn (OpenSpec.ofChange s) apart (w.forCall tape i).memory i.args)∧({ calm:=true }:Assume).holds C.prog (lone (Frame.enter C.prog f i.args .normal) [] (w.forCall tape i)) :=
 ⟨w0,λ _ _=>0,⟨#[],args,[]⟩,xZ,bf,(Input.okWide_of_okWideB (base:=0) gJ).1,(Input.okWide_of_okWideB gJ).2,⟨⟨ChangeSpec.pre_of_preB UA,hx⟩,sizedMet_of_sizedB fN⟩,by
  simp only [Assume.holds]
  exact ⟨by simp,λ _ _ _ _=>rfl,by simp,by simp,by simp⟩⟩
theorem azz{T:Type}{enc:TypeId × Value→T}{a:Assume}{C:Checked}{os:Os}{f:FuncId}{fn:Func}{s:ChangeSpec}{F:Stop.Interp}{conds:List PathCond}{apart fresh handsOn:Bool}{X:World→Array Value→Prop}
  (hX:∀ (w w':World) (args:Array Value),w.heap=w'.heap→X w args→X w' args)
  (own:ownKnob C.prog.godebug=none) (started:os.Started) (T8:C.prog.funcs[f]? = some fn)
  (witness:∃ (w:World) (tape:Tape) (i:Input),w.os=os∧(w.forCall tape i).Shaped C.prog∧i.vars=[]∧Input.okWide C.prog (w.forCall tape i) .any w.heap.size f i ∧
   ((s.pre enc C.prog fn conds apart (w.forCall tape i).memory i.args∧X (w.forCall tape i).memory i.args)∧sizedMet enc C.prog fn (OpenSpec.ofChange s) apart (w.forCall tape i).memory i.args)∧a.holds C.prog (lone (Frame.enter C.prog f i.args .normal) [] (w.forCall tape i)))
  (runs:∀ (W:World) (base:Nat) (args:Array Value) (ds gs:List (DataW T)) (before:List MemPlace),
   (∀ (j:Nat) t v,fn.params[j]? = some t→args[j]? = some v→Value.okWide C.prog W .any base t v) →
   DataW.Whole enc C.prog fn.params.toList s.vars apart W args.toList ds gs before→X W args →
   ∃ M last o w' t',runNT C.prog (M+1) (solo (aX (Frame.enter C.prog f args .normal) []) W) #[]=(.ended o w',t')∧runN C.prog M (solo (aX (Frame.enter C.prog f args .normal) []) W) = .next last ∧
    Go.step C.prog last = .ended o w'∧Conc.Good C.prog (λ v W'=>s.post enc C.prog fn apart fresh handsOn false W args v { W' with os:=W.os }∧OsLater W.os W'.os) last o w' t') :
  ReturnsInLeavingWide a C os f .any (λ w args=>(s.pre enc C.prog fn conds apart w args∧X w args)∧sizedMet enc C.prog fn (OpenSpec.ofChange s) apart w args) ((OpenSpec.ofChange s).postWith enc C.prog fn F (outsideKept [.timePasses]) apart fresh handsOn):=by
 refine returnsInLeavingWide_of_good own started witness ?_
 intro w tape i _ _ _ gJ UA _
 obtain ⟨_,_,_,E6,arU,_,_,_,_,Ha⟩:=gJ
 have e:E6=fn:=Option.some.inj (arU.symm.trans T8)
 subst e
 obtain ⟨⟨⟨ds,gs,before,hw,hc⟩,hx⟩,_⟩:=UA
 have NO:=DataW.Whole.of_heap (w':=w.forCall tape i) (by rfl) hw
 obtain ⟨M,last,o,w',t',h1,h2,h3,h4⟩:=runs (w.forCall tape i) w.heap.size i.args ds gs before Ha NO (hX _ _ _ (by rfl) hx)
 exact ⟨M,last,o,w',t',h1,h2,h3,h4.mono λ v hp=>postWith_blind (postWith_of_post hp.1 hp.2)⟩
theorem aCz{T:Type}{enc:TypeId × Value→T}{P:Program}{fn:Func}{s:ChangeSpec}{apart fresh handsOn again:Bool}{W w:World}{args:Array Value}{ds gs:List (DataW T)}{before:List MemPlace}{tb:TypeId}
  (hl:laidOutB P=true) (hr:(fn.params.toList.all λ t=>P.readableRec t && decide (t < P.types.size))=true) (hv:s.vars=[]) (atL:fn.resultTypes=#[tb]) (htb:P.underlying tb=some .bool)
  (hW:DataW.Whole enc P fn.params.toList s.vars apart W args.toList ds gs before) (hag:again=false) (hb:Below W.heap.size W w)
  (h1:(s.fn T (ds++[])).results=[.lit (.bool true)]) (h2:(s.fn T (ds++[])).args=ds) (h3:(s.fn T (ds++[])).vars=[]):s.post enc P fn apart fresh handsOn again W args (.bool true) w:=by
 have Nm:=hW
 have bK:∀ x∈before,x.block < W.heap.size:=λ x hx=>by simpa using Nm.lt x hx
 obtain ⟨p,q,hA,hV,e,_,_⟩:=hW
 rw [hv] at hV
 obtain ⟨e1,e2⟩:=trodVars_none hV
 subst e1 e2 e
 refine ⟨ds,[],p++[],[],p,[],Nm,?_,?_,by rw [hv,h3]; rfl,hb.frame _,λ h=>by rw [hag] at h; cases h⟩
 ·rw [h1,atL]
  exact trodAll_mk1 (shut_bool htb true)
 ·rw [h2]
  exact afB hl hb hr hA (λ x hx=>bK x (by simp [hx]))
theorem amE{W:World}{b o:Nat}{v:Value}(h:W.cell? ⟨b,o,none⟩=some v):Cell (qG W) [] ⟨b,o,none⟩ v:=by
 unfold World.cell? at h
 simp only at h
 split at h
 ·rename_i c e fz hb
  exact ⟨rfl,c,e,fz,.inl hb,by simpa using h⟩
 ·cases h
end Go.Lg
