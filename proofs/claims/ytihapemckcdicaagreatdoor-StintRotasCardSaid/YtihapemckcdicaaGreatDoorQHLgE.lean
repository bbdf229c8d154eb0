/- What enters and leaves the machine; the run of a row. Conditions: none. -/
import Derived.Test.YtihapemckcdicaaGreatDoorQHLgC
import Derived.Test.YtihapemckcdicaaGreatDoorQHLgB
import Derived.Test.YtihapemckcdicaaGreatDoorQHLgD
import Derived.Conc.AtomicLaws2
import Derived.Conc.ClockLaws
import Derived.Conc.EventLaws
import Derived.Laws.LoneSync
import Derived.Conc.SmallLaws
import Derived.Conc.LeavingOf
import Derived.Conc.HoldsTime
import Derived.Handed
import Derived.LaidMore
import Derived.Below
import Derived.Carry
import Derived.SizedLaws
namespace Go.Lg
open Go.Conc Go.ConcN
structure gM (P:Program) (f:FuncId) (e:Array Value→Sem Value):Prop where
 ex:∃ fn,P.funcs[f]? = some fn∧(fn.name == "runtime.NumGoroutine")=false∧fn.body.isNone=true∧Extern.findNext fn=none∧Extern.find fn=some e
def nG(P:Program)(s:Sem Value)(f:FuncId)(w:World)(v:Value)(w':World)(m8:Array Event):Prop :=
 s.run P w = .ok v w'∧s.events P w #[⟨.mark (.extern f),false,true⟩]=#[⟨.mark (.extern f),false,true⟩]++m8∧∀ x∈m8,x.sync=true∧∀ g,x.loc ≠ .mark (.extern g)
section
variable {P:Program} {main:Bool} {c:Ctx} {st:St} {k:List Item} {ops:Array Oper} {i:Nat} {rest:List Nat} {o:Oper} {f:FuncId} {as:Array Operand} {iT:Array TypeId} {e:Array Value→Sem Value} {vs:List Value} {tmps:Array Value} {w w':World} {v:Value} {m8:Array Event}
theorem FR{tmps:Array Value}(au:o.op = .call ⟨.value (.func f),as,iT⟩)(ht:cX c.n st tmps)(ha:ji st as.toList=some vs):execOp (aU c tmps (.inRegion ops (i::rest)::k)).eval o=callFunc f vs.toArray:=by
 have hk:=ht.knows c (.inRegion ops (i::rest)::k)
 have ef:(aU c tmps (.inRegion ops (i::rest)::k)).eval (.func f) = .func (.func f) #[] #[]:=rfl
 have e2:as.map (aU c tmps (.inRegion ops (i::rest)::k)).eval=vs.toArray:=by apply Array.ext'; simpa using Cw hk _ _ ha
 unfold execOp
 simp [au,resolve,Deferred.ofValue,invoke,ef,e2]
theorem MT(ho:ops[i]? = some o)(hw:cM ops st o=some true)(gj:(c.kind == CallKind.early)=false)(au:o.op = .call ⟨.value (.func f),as,iT⟩)(hf:gM P f e)(ht:cX c.n st tmps)(ha:ji st as.toList=some vs)(hE:nG P (e vs.toArray) f w v w' m8) :
  stepG P main (aV (aU c tmps (.inRegion ops (i::rest)::k)) c.cs) w = .go (aV (aU c (fJ o.dst v tmps) (.inRegion ops rest::k)) c.cs) w' m8:=by
 obtain ⟨fn,h1,h2,h3,h4,h5⟩:=hf.ex
 obtain ⟨kJ,j7,hs⟩:=hE
 rw [qz ho (kQ ht hw) (by rw [au]; rfl),← qT (rest:=rest) (k:=k) (c:=c) (tmps:=tmps) (v:=v) ho,FR au ht ha]
 have hr:(callFunc f vs.toArray).run P w = .ok (.value v) w':=by rw [run_callFunc_extern h1 h2 h3 h4 h5,kJ]; rfl
 rw [Cv (by simpa [aU] using gj) hr]
 congr 1
 rw [events_callFunc_extern h1 h2 h3 h4 h5]
 simp only [List.push_toArray,List.nil_append]
 rw [j7,seen_entry _ _ _ hs]
theorem ajg(ho:ops[i]? = some o)(hw:cM ops st o=some true)(au:o.op = .call ⟨.value (.func f),as,iT⟩)(hf:gM P f e)(ht:cX c.n st tmps)(ha:ji st as.toList=some vs)(kJ:(e vs.toArray).run P w = .halt .blocked w) :
  stepG P main (aV (aU c tmps (.inRegion ops (i::rest)::k)) c.cs) w = .go { aV (aU c tmps (.inRegion ops (i::rest)::k)) c.cs with status:=.blocked } w #[]:=by
 obtain ⟨fn,h1,h2,h3,h4,h5⟩:=hf.ex
 rw [qz ho (kQ ht hw) (by rw [au]; rfl),FR au ht ha]
 have hr:(callFunc f vs.toArray).run P w = .halt .blocked w:=by rw [run_callFunc_extern h1 h2 h3 h4 h5,kJ]; rfl
 simp [stepG.apply,hr,aV,GStep.after,seen_none]
theorem aKX(ho:ops[i]? = some o)(au:o.op = .call ⟨.value (.func f),as,iT⟩)(hf:gM P f e):mayWake P (aV (aU c tmps (.inRegion ops (i::rest)::k)) c.cs)=true:=by
 obtain ⟨fn,h1,_,h3,_⟩:=hf.ex
 have h3':fn.body.isSome=false:=by cases hb:fn.body <;> simp_all
 simp [mayWake,aV,aU,ho,au,Frame.eval,h1,h3']
end
section
variable {P:Program} {f:FuncId} {w:World} {ad:Addr} {k:IntKind}
theorem rJ{m:Mark}(hm:∀ g,m ≠ .extern g):nG P (do mark m; pure Extern.Race.none_) f w (.tuple #[]) w (said m) :=
 ⟨by simp [Extern.Race.none_],by simp [said],λ x hx=>by
  simp [said] at hx; subst hx; exact ⟨rfl,λ g h=>hm g (by cases h; rfl)⟩⟩
theorem CJ{mk:Addr→Mark}(hm:∀ ad g,mk ad ≠ .extern g){vs:List Value}(hv:vs[0]? = some (.pointer (some ad))):nG P (Extern.Race.marked mk vs.toArray) f w (.tuple #[]) w (said (mk ad)) :=
 ⟨by simp [Extern.Race.marked,Extern.Race.at_,hv,Extern.Race.none_],by simp [Extern.Race.marked,Extern.Race.at_,hv,said],λ x hx=>by
  simp [said] at hx; subst hx; exact ⟨rfl,λ g h=>hm ad g (Loc.mark.inj h)⟩⟩
def atR(ad:Addr):Array Event:=#[⟨.cell ad,false,true⟩]
def IW(ad:Addr):Array Event:=#[⟨.cell ad,true,true⟩]
def NP(ad:Addr):Array Event:=#[⟨.cell ad,false,true⟩,⟨.cell ad,true,true⟩]
theorem FP{v n:Int}(hc:w.cell? ad=some (.int k v))(hz:w.frozen? ad=false):nG P (Extern.Atomic.casT (.int k) #[.pointer (some ad),.int k v,.int k n]) f w (.bool true) (w.setCell ad (.int k n)) (NP ad) :=
 ⟨by rw [casT_eq]; exact run_cas_hit_entry hc hz,by rw [casT_eq,events_cas_hit_entry hc hz]; rfl,sync_rw ad⟩
theorem Jl{v old n:Int}(hc:w.cell? ad=some (.int k v))(hz:w.frozen? ad=false)(eP:¬ v=old):nG P (Extern.Atomic.casT (.int k) #[.pointer (some ad),.int k old,.int k n]) f w (.bool false) w (atR ad) :=
 ⟨by rw [casT_eq]; exact run_cas_miss_entry hc hz eP,by rw [casT_eq,events_cas_miss_entry hc hz eP]; rfl,sync_r ad⟩
theorem AR{v d:Int}(hc:w.cell? ad=some (.int k v))(hz:w.frozen? ad=false):nG P (Extern.Atomic.update (Op.intArith .add) k true #[.pointer (some ad),.int k d]) f w (.int k (k.wrap (v+d))) (w.setCell ad (.int k (k.wrap (v+d)))) (NP ad) :=
 ⟨run_add_entry hc hz,by rw [events_add_entry hc hz]; rfl,sync_rw ad⟩
theorem OD{v:Int}(hc:w.cell? ad=some (.int k v)):nG P (Extern.Atomic.loadT (.int k) #[.pointer (some ad)]) f w (.int k v) w (atR ad):=by
 have e:Extern.Atomic.loadT (.int k) #[.pointer (some ad)]=(do Extern.Atomic.read (.int k) (← asAddr (.pointer (some ad)))):=rfl
 refine ⟨?_,?_,sync_r ad⟩
 ·rw [e]; simp [Extern.Atomic.read,asAddr,hc]
 ·rw [e]; simp [Extern.Atomic.read,asAddr,hc,events_load,atR]
theorem aqj{v:Int}{u:Value}(hc:w.cell? ad=some u)(hz:w.frozen? ad=false):nG P (Extern.Atomic.storeT #[.pointer (some ad),.int k v]) f w (.tuple #[]) (w.setCell ad (.int k v)) (IW ad):=by
 have e:Extern.Atomic.storeT #[.pointer (some ad),.int k v]=(do store (← asAddr (.pointer (some ad))) (.int k v) .atomic; pure Extern.Atomic.none_):=rfl
 refine ⟨?_,?_,λ x hx=>by simp [IW] at hx; subst hx; exact ⟨rfl,λ g h=>by cases h⟩⟩
 ·rw [e]; simp [asAddr,hc,hz,run_store P w ad (.int k v) .atomic rfl,Extern.Atomic.none_]
 ·rw [e]; simp [asAddr,hc,hz,events_store P w _ ad (.int k v) .atomic rfl,IW]
theorem ae1{n:Int}{vs:List Value}(hv:vs[0]? = some (.pointer (some ad)))(hc:w.cell? ad=some (.int .u32 n))(F6:n≠0)(hz:w.frozen? ad=false):nG P (Extern.Sync.semacquire vs.toArray) f w (.tuple #[]) (w.setCell ad (.int .u32 (n - 1))) (semEvents ad) :=
 ⟨by simp [Extern.Sync.semacquire,Extern.Sync.count,hv,hc,F6,hz,Extern.Sync.none_,run_store P w ad (.int .u32 (n - 1)) .atomic rfl,Result.andThen],
  by simp [Extern.Sync.semacquire,Extern.Sync.count,hv,hc,F6,hz,semEvents,events_load,events_store P w _ ad (.int .u32 (n - 1)) .atomic rfl,run_store P w ad (.int .u32 (n - 1)) .atomic rfl,Result.evThen],semEvents_sync ad⟩
theorem ac0{vs:List Value}(hv:vs[0]? = some (.pointer (some ad)))(hc:w.cell? ad=some (.int .u32 0)):(Extern.Sync.semacquire vs.toArray).run P w = .halt .blocked w:=by
 simp [Extern.Sync.semacquire,Extern.Sync.count,hv,hc]
theorem UX{n:Int}{vs:List Value}(hv:vs[0]? = some (.pointer (some ad)))(hc:w.cell? ad=some (.int .u32 n))(hz:w.frozen? ad=false):nG P (Extern.Sync.semrelease vs.toArray) f w (.tuple #[]) (w.setCell ad (.int .u32 (IntKind.u32.wrap (n+1)))) (semEvents ad) :=
 ⟨by simp [Extern.Sync.semrelease,Extern.Sync.count,hv,hc,hz,Extern.Sync.none_,Op.intArith,run_store P w ad (.int .u32 (IntKind.u32.wrap (n+1))) .atomic rfl,Result.andThen],
  by simp [Extern.Sync.semrelease,Extern.Sync.count,hv,hc,hz,semEvents,Op.intArith,events_load,events_store P w _ ad (.int .u32 (IntKind.u32.wrap (n+1))) .atomic rfl,run_store P w ad (.int .u32 (IntKind.u32.wrap (n+1))) .atomic rfl,Result.evThen],semEvents_sync ad⟩
theorem aqi{n:Int}(h4:4≤n):nG P (Extern.Sync.canSpin #[.int k n]) f w (.bool false) w #[] :=
 ⟨by rw [canSpin_eq,if_pos h4]; rfl,by rw [canSpin_eq,if_pos h4]; rfl,by simp⟩
theorem ae2{n:Int}(h4:n < 4):nG P (Extern.Sync.canSpin #[.int k n]) f w (.bool w.spins) w.asked #[]:=by
 have h4':¬ (n ≥ 4):=by omega
 exact ⟨by rw [canSpin_eq,if_neg h4']; rfl,by rw [canSpin_eq,if_neg h4']; rfl,by simp⟩
end
section
variable {F:Fx} {s s':Sh} {w:World}
theorem fD.cm(h:fD F s w):w.cell? (am F)=some (.int .i32 s.mu.val):=by simp [World.cell?,am,h.m,qo]
theorem fD.Oh(h:fD F s w):w.cell? ⟨F.bm,1,none⟩=some (.int .u32 (s.ms:Int)):=by simp [World.cell?,h.m,qo]
theorem fD.cg(h:fD F s w):w.cell? (aw F)=some (.int .u64 (Ad s)):=by simp [World.cell?,aw,h.g,qC]
theorem fD.Of(h:fD F s w):w.cell? (rD F)=some (.int .u32 (s.ws:Int)):=by simp [World.cell?,rD,h.g,qC]
theorem fD.zm(h:fD F s w)(i:Nat):w.frozen? ⟨F.bm,i,none⟩=false:=by simp [World.frozen?,h.m,qo]
theorem fD.zg(h:fD F s w)(i:Nat):w.frozen? ⟨F.bw,i,none⟩=false:=by simp [World.frozen?,h.g,qC]
theorem cB.refl(h:fD F s w):cB F s w w:=⟨rfl,λ _ _ _=>rfl,h,id,rfl,rfl⟩
theorem cB.asked(h:fD F s w):cB F s w w.asked:=⟨rfl,λ _ _ _=>rfl,⟨h.m,h.g⟩,id,rfl,rfl⟩
theorem cB.later(h:fD F s w)(yR:F.B.os w.os→F.B.os w.later.os):cB F s w w.later:=⟨rfl,λ _ _ _=>rfl,⟨h.m,h.g⟩,yR,rfl,rfl⟩
theorem aiW{w:World}{a:Addr}{cs:Array Value}{t:TypeId}{v:Value}(h:w.heap[a.block]? = some (.cells cs t (0,0)))(ha:a.spot=none):w.setCell a v={ w with heap:=w.heap.setIfInBounds a.block (.cells (cs.setIfInBounds a.off v) t (0,0)) }:=by
 simp only [World.setCell]
 congr 1
 apply Array.ext_getElem?
 intro i
 rw [Array.getElem?_modify]
 by_cases hi:a.block=i
 ·subst hi
  rw [uE (lP h),h]
  simp [ha]
 ·simp [hi,mW hi]
theorem cB.bm{v:Value}{i:Nat}(h:fD F s w)(ho:qo F.tm s' = .cells (#[.int .i32 s.mu.val,.int .u32 (s.ms:Int)].setIfInBounds i v) F.tm (0,0))(hg:qC F.tw s'=qC F.tw s):cB F s' w (w.setCell ⟨F.bm,i,none⟩ v):=by
 rw [aiW (a:=⟨F.bm,i,none⟩) h.m rfl]
 refine ⟨by simp,λ b h1 h2=>mW (Ne.symm h1),⟨?_,?_⟩,id,rfl,rfl⟩
 ·rw [ho]; exact uE (lP h.m)
 ·rw [hg]
  show (w.heap.setIfInBounds _ _)[F.bw]? = _
  rw [mW F.ho.1]; exact h.g
theorem cB.bw{v:Value}{i:Nat}(h:fD F s w)(ho:qC F.tw s' = .cells (#[.int .u64 (Ad s),.int .u32 (s.ws:Int)].setIfInBounds i v) F.tw (0,0))(hg:qo F.tm s'=qo F.tm s):cB F s' w (w.setCell ⟨F.bw,i,none⟩ v):=by
 rw [aiW (a:=⟨F.bw,i,none⟩) h.g rfl]
 refine ⟨by simp,λ b h1 h2=>mW (Ne.symm h2),⟨?_,?_⟩,id,rfl,rfl⟩
 ·rw [hg]
  show (w.heap.setIfInBounds _ _)[F.bm]? = _
  rw [mW (Ne.symm F.ho.1)]; exact h.m
 ·rw [ho]; exact uE (lP h.g)
theorem cB.mu{m:Wd}(h:fD F s w):cB F { s with mu:=m } w (w.setCell (am F) (.int .i32 m.val)):=cB.bm h rfl rfl
theorem cB.ms{n:Nat}(h:fD F s w):cB F { s with ms:=n } w (w.setCell ⟨F.bm,1,none⟩ (.int .u32 (n:Int))):=cB.bm h rfl rfl
theorem cB.wg{v u:Nat}(h:fD F s w):cB F { s with v:=v,w:=u } w (w.setCell (aw F) (.int .u64 (4294967296 * v+u))):=cB.bw h rfl rfl
theorem cB.ws{n:Nat}(h:fD F s w):cB F { s with ws:=n } w (w.setCell (rD F) (.int .u32 (n:Int))):=cB.bw h rfl rfl
theorem yw{a:Addr}(h:a.block=F.bm∨a.block=F.bw):qH F (atR a):=.inl λ e he=>by simp [atR] at he; subst he; exact ⟨a,false,rfl,h⟩
theorem anx{a:Addr}(h:a.block=F.bm∨a.block=F.bw):qH F (IW a):=.inl λ e he=>by simp [IW] at he; subst he; exact ⟨a,true,rfl,h⟩
theorem qM{a:Addr}(h:a.block=F.bm∨a.block=F.bw):qH F (NP a):=.inl λ e he=>by simp [NP] at he; rcases he with rfl | rfl <;> exact ⟨a,_,rfl,h⟩
theorem qL:qH F #[]:=.inl λ e he=>by simp at he
theorem IV{a:Addr}(h:a.block=F.bm∨a.block=F.bw):qH F (semEvents a):=.inr ⟨a,h,rfl⟩
end
section
variable {F:Fx} {c:Ctx} {R:az} {H:ah} {st:St} {kk:List Item} {ops:Array Oper} {i:Nat} {rest:List Nat} {o:Oper} {f:FuncId} {as:Array Operand} {iT:Array TypeId} {e:Array Value→Sem Value} {vs:List Value} {n k j:Nat} {T:Lp} {T0:Mp}
theorem KW.ext(ho:ops[i]? = some o)(hw:cM ops st o=some true)(gj:(c.kind == CallKind.early)=false)(au:o.op = .call ⟨.value (.func f),as,iT⟩)(hf:gM F.P f e)(ha:ji st as.toList=some vs)(hd:cj o.dst c.n)
  (h:ri F.N T→∀ w s,Fits F.B R H w→fD F s w→xS F.N T s→okW F.N T s →
   ((∃ c,T = .s1 c)∧s.ms=0∧(e vs.toArray).run F.P w = .halt .blocked w) ∨
   ∃ v w' m8 T' s',nG F.P (e vs.toArray) f w v w' m8∧dp T s T' s'∧zP F j T T'∧FQ F T m8∧cB F s' w w'∧∀ aW,cX c.n (cx o.dst v st) aW→yv F (KW F n k) k j T T' R H (aV (aU c aW (.inRegion ops rest::kk)) c.cs)) :
  ∀ tmps,cX c.n st tmps→KW F (n+1) k j T R H (aV (aU c tmps (.inRegion ops (i::rest)::kk)) c.cs):=by
 intro tmps ht ot
 refine ⟨rfl,rfl,λ _=>aKX ho au hf,λ w s yN bp yR mD=>?_⟩
 rcases h ot w s yN bp yR mD with ⟨h1,h2,h3⟩ | ⟨v,w',m8,T',s',hE,h2,h3,h4,h5,h6⟩
 ·exact .inl ⟨h1,h2,ajg ho hw au hf ht ha h3⟩
 ·exact .inr ⟨_,w',m8,T',s',h2,h3,h4,MT ho hw gj au hf ht ha hE,h5,h6 _ (ht.put v hd)⟩
theorem KM.ext(ho:ops[i]? = some o)(hw:cM ops st o=some true)(gj:(c.kind == CallKind.early)=false)(au:o.op = .call ⟨.value (.func f),as,iT⟩)(hf:gM F.P f e)(ha:ji st as.toList=some vs)(hd:cj o.dst c.n)(h1:∀ r,T0 ≠ .go r)(h2:T0 ≠ .wq)
  (h:∀ w s,Fits F.B R H w→fD F s w→pv F.N T0 s→(T0 = .w3∧s.ws=0∧(e vs.toArray).run F.P w = .halt .blocked w) ∨
   ∃ v w' m8 T' s',nG F.P (e vs.toArray) f w v w' m8∧gO T0 s T' s'∧CL F T0 m8∧cB F s' w w'∧∀ aW,cX c.n (cx o.dst v st) aW→Own F.P F.B true (KM F n T') R H (aV (aU c aW (.inRegion ops rest::kk)) c.cs)) :
  ∀ tmps,cX c.n st tmps→KM F (n+1) T0 R H (aV (aU c tmps (.inRegion ops (i::rest)::kk)) c.cs):=by
 intro tmps ht
 have key:∀ w s,Fits F.B R H w→fD F s w→pv F.N T0 s→(T0 = .w3∧s.ws=0∧stepG F.P true (aV (aU c tmps (.inRegion ops (i::rest)::kk)) c.cs) w = .go { aV (aU c tmps (.inRegion ops (i::rest)::kk)) c.cs with status:=.blocked } w #[]) ∨
   ∃ g' w' es T' s',gO T0 s T' s'∧CL F T0 es∧stepG F.P true (aV (aU c tmps (.inRegion ops (i::rest)::kk)) c.cs) w = .go g' w' es∧cB F s' w w'∧Own F.P F.B true (KM F n T') R H g':=λ w s yN bp gQ=>by
  rcases h w s yN bp gQ with ⟨h1,h2,h3⟩ | ⟨v,w',m8,T',s',hE,h3,h4,h5,h6⟩
  ·exact .inl ⟨h1,h2,ajg ho hw au hf ht ha h3⟩
  ·exact .inr ⟨_,w',m8,T',s',h3,h4,MT ho hw gj au hf ht ha hE,h5,h6 _ (ht.put v hd)⟩
 refine ⟨rfl,rfl,?_⟩
 cases T0 <;> first | exact absurd rfl (h1 _) | exact absurd rfl h2 | exact key
theorem KM.acq(ho:ops[i]? = some o)(hw:cM ops st o=some true)(gj:(c.kind == CallKind.early)=false)(au:o.op = .call ⟨.value (.func f),as,iT⟩)(hf:gM F.P f (Extern.Race.marked .acquire))(ha:ji st as.toList=some vs)(hv:vs[0]? = some (.pointer (some (aw F))))(hd:cj o.dst c.n)
  (h:∀ js,(∀ k,k < F.N→js k=F.J)→∀ aW,cX c.n (cx o.dst (.tuple #[]) st) aW→F.mj R ((F.bo,F.cont js)::H) (aV (aU c aW (.inRegion ops rest::kk)) c.cs)) :
  ∀ tmps,cX c.n st tmps→KM F (n+1) .wq R H (aV (aU c tmps (.inRegion ops (i::rest)::kk)) c.cs):=λ tmps ht =>
 ⟨rfl,rfl,λ w s _ bp _=>⟨_,w,MT ho hw gj au hf ht ha (CJ (λ _ _=>by simp) hv),cB.refl bp,λ js iH=>h js iH _ (ht.put _ hd)⟩⟩
end
def uJ(P:Program)(c:Ctx)(o:Oper)(st:St)(v:Value):Prop:=ni o.op=false∧cj o.dst c.n∧∀ ρ,Knows st ρ→ai P (execOp ρ o) (.value v)
section
variable {P:Program} {B:Base} {main:Bool} {ab:Jd P B main} {c:Ctx} {R:az} {H:ah} {st st':St} {k:List Item} {ops:Array Oper} {i:Nat} {rest:List Nat} {o:Oper} {v:Value} {x y z:Operand}
theorem U.val(ho:ops[i]? = some o)(hw:cM ops st o=some true)(hk:(c.kind == CallKind.early)=false)(hv:uJ P c o st v)(hs:aI (cx o.dst v st) st')(h:U ab c R H st' (.inRegion ops rest::k)):U ab c R H st (.inRegion ops (i::rest)::k) :=
 U.iY ho hw hk (Ox.val hv.1 hv.2.1 hv.2.2 hs h)
theorem OV.move(au:o.op = .move x)(hd:cj o.dst c.n)(hx:bj st x=some v):uJ P c o st v:=⟨by rw [au]; rfl,hd,λ ρ bl=>by simp only [execOp,au,bl x v hx]; exact ai.bD _⟩
theorem OV.assign(au:o.op = .assign x)(hd:cj o.dst c.n)(hx:bj st x=some v):uJ P c o st v:=⟨by rw [au]; rfl,hd,λ ρ bl=>by simp only [execOp,au,bl x v hx]; exact ai.bD _⟩
theorem OV.aH1(au:o.op = .pick x y z)(hd:cj o.dst c.n)(hx:bj st x=some (.bool true))(hy:bj st y=some v):uJ P c o st v:=⟨by rw [au]; rfl,hd,λ ρ bl=>by
 simp only [execOp,au,bl x _ hx,bl y v hy,asBool]; exact ai.bH (ai.bD true) (ai.bD _)⟩
theorem OV.aH0(au:o.op = .pick x y z)(hd:cj o.dst c.n)(hx:bj st x=some (.bool false))(hz:bj st z=some v):uJ P c o st v:=⟨by rw [au]; rfl,hd,λ ρ bl=>by
 simp only [execOp,au,bl x _ hx,bl z v hz,asBool]; exact ai.bH (ai.bD false) (ai.bD _)⟩
theorem OV.nilCheck{a:Addr}(au:o.op = .nilCheck x)(hd:cj o.dst c.n)(hx:bj st x=some (.pointer (some a))):uJ P c o st (.pointer (some a)):=⟨by rw [au]; rfl,hd,λ ρ bl=>by
 simp only [execOp,au,bl x _ hx]; exact ai.bH (ai.bD _) (ai.bD _)⟩
theorem OV.fieldAddr{s f off b n:Nat}(au:o.op = .fieldAddr s x f)(hd:cj o.dst c.n)(hx:bj st x=some (.pointer (some ⟨b,n,none⟩)))(hf:gN P s f off):uJ P c o st (.pointer (some ⟨b,n+off,none⟩)):=⟨by rw [au]; rfl,hd,λ ρ bl=>by
 simp only [execOp,au,bl x _ hx]; exact ai.bH (hf b n) (ai.bD _)⟩
theorem OV.bin{bo:BinOp}{t u:TypeId}{ka kb:IntKind}{a b:Int}(au:o.op = .binOp bo t x y u)(hd:cj o.dst c.n)(hx:bj st x=some (.int ka a))(hy:bj st y=some (.int kb b))(hv:ai P (binOp bo t (.int ka a) (.int kb b)) v):uJ P c o st v:=⟨by rw [au]; rfl,hd,λ ρ bl=>by
 simp only [execOp,au,bl x _ hx,bl y _ hy]; exact ai.bH (ai.bH (H3 _ _ _ _ _ _ _ _) hv) (ai.bD _)⟩
theorem OV.not{t:TypeId}{a:Bool}(au:o.op = .unOp .not t x)(hd:cj o.dst c.n)(hx:bj st x=some (.bool a)):uJ P c o st (.bool (!a)):=⟨by rw [au]; rfl,hd,λ ρ bl=>by
 simp only [execOp,au,bl x _ hx]; exact ai.bH (ai.bD _) (ai.bD _)⟩
end
structure QJ (P:Program) where
 Q:Goroutine→Prop
 step:∀ {g g':Goroutine},g.status = .running→(∀ w,stepG P false g w = .go g' w #[])→Q g'→Q g
def toJ(P:Program)(K:Goroutine→Prop):QJ P:=⟨λ g=>∃ q,Cl P K q g,λ hs h ⟨q,hq⟩=>⟨q+1,.inr ⟨hs,_,h,hq⟩⟩⟩
def zA(P:Program)(d:Nat):QJ P:=⟨λ g=>∃ q,QuitsD P q d g,λ hs h ⟨q,hq⟩=>⟨q+1,QuitsD.ctl hs h hq⟩⟩
section
variable {P:Program} (J:QJ P)
def aJ(c:Ctx)(st:St)(todo:List Item):Prop:=∀ tmps,cX c.n st tmps→J.Q (aV (aU c tmps todo) c.cs)
variable {J} {c:Ctx} {st st':St} {k:List Item} {ops:Array Oper} {i:Nat} {rest:List Nat} {o:Oper} {v:Value}
theorem aJ.sub{todo:List Item}(hs:aI st st')(h:aJ J c st' todo):aJ J c st todo:=λ tmps ht=>h tmps (ht.sub hs)
theorem aJ.skip(h:aJ J c st k):aJ J c st (.code .skip::k):=λ tmps ht=>J.step rfl (λ w=>by simp [stepG,stepG.exec,aV,aU]) (h tmps ht)
theorem aJ.inBlock{id:Nat}(h:aJ J c st k):aJ J c st (.inBlock id::k):=λ tmps ht=>J.step rfl (λ w=>by simp [stepG,stepG.exec,aV,aU]) (h tmps ht)
theorem aJ.seq{x y:Code}(h:aJ J c st (.code x :: .code y::k)):aJ J c st (.code (.seq x y)::k):=λ tmps ht=>J.step rfl (λ w=>by simp [stepG,stepG.exec,aV,aU]) (h tmps ht)
theorem aJ.block{id:Nat}{x:Code}(h:aJ J c st (.code x :: .inBlock id::k)):aJ J c st (.code (.block id x)::k):=λ tmps ht=>J.step rfl (λ w=>by simp [stepG,stepG.exec,aV,aU]) (h tmps ht)
theorem aJ.enterLoop{x:Code}(h:aJ J c st (.code x :: .inLoop x::k)):aJ J c st (.code (.loop x)::k):=λ tmps ht=>J.step rfl (λ w=>by simp [stepG,stepG.exec,aV,aU]) (h tmps ht)
theorem aJ.inLoop{x:Code}(h:aJ J c st (.code x :: .inLoop x::k)):aJ J c st (.inLoop x::k):=λ tmps ht=>J.step rfl (λ w=>by simp [stepG,stepG.exec,aV,aU]) (h tmps ht)
theorem aJ.exit{id:Nat}{k':List Item}(he:exitTo id k=some k')(h:aJ J c st k'):aJ J c st (.code (.exit id)::k):=λ tmps ht=>J.step rfl (λ w=>by simp [stepG,stepG.exec,aV,aU,he]) (h tmps ht)
theorem aJ.region{id n:Nat}{is:List Nat}(hn:ops.size=n)(mC:List.range n=is)(h:aJ J c st (.inRegion ops is::k)):aJ J c st (.code (.region id ops false)::k):=by
 subst hn; subst mC
 exact λ tmps ht=>J.step rfl (λ w=>by simp [stepG,stepG.exec,aV,aU]) (h tmps ht)
theorem aJ.aT(h:aJ J c st k):aJ J c st (.inRegion ops []::k):=λ tmps ht=>J.step rfl (λ w=>by simp [stepG,stepG.exec,aV,aU]) (h tmps ht)
theorem aJ.fI{x:Operand}{th el:Code}(hx:bj st x=some (.bool true))(h:aJ J c st (.code th::k)):aJ J c st (.code (.cond x th el)::k):=λ tmps ht=>by
 have he:=ht.knows c (.code (.cond x th el)::k) x _ hx
 exact J.step rfl (λ w=>by simp only [aU] at he; simp [stepG,stepG.exec,aV,aU,he]) (h tmps ht)
theorem aJ.eF{x:Operand}{th el:Code}(hx:bj st x=some (.bool false))(h:aJ J c st (.code el::k)):aJ J c st (.code (.cond x th el)::k):=λ tmps ht=>by
 have he:=ht.knows c (.code (.cond x th el)::k) x _ hx
 exact J.step rfl (λ w=>by simp only [aU] at he; simp [stepG,stepG.exec,aV,aU,he]) (h tmps ht)
theorem aJ.unwanted(ho:ops[i]? = some o)(hw:cM ops st o=some false)(l5:cj o.dst c.n)(hs:aI (cx o.dst undef st) st')(h:aJ J c st' (.inRegion ops rest::k)):aJ J c st (.inRegion ops (i::rest)::k) :=
 λ _ ht=>J.step rfl (λ _=>abt ho (kQ ht hw)) (h _ ((ht.put undef l5).sub hs))
theorem aJ.val(ho:ops[i]? = some o)(hw:cM ops st o=some true)(hk:(c.kind == CallKind.early)=false)(hv:uJ P c o st v)(hs:aI (cx o.dst v st) st')(h:aJ J c st' (.inRegion ops rest::k)):aJ J c st (.inRegion ops (i::rest)::k):=λ tmps ht=>by
 refine J.step rfl (λ w=>?_) (h _ ((ht.put v hv.2.1).sub hs))
 have hr:=hv.2.2 _ (ht.knows c (.inRegion ops (i::rest)::k)) w
 rw [qz ho (kQ ht hw) hv.1,← qT (rest:=rest) (k:=k) (c:=c) (tmps:=tmps) (v:=v) ho,Cv (by simpa [aU] using hk) hr.1,hr.2]
 rfl
theorem aJ.ext{f:FuncId}{as:Array Operand}{iT:Array TypeId}{e:Array Value→Sem Value}{vs:List Value}(ho:ops[i]? = some o)(hw:cM ops st o=some true)(hk:(c.kind == CallKind.early)=false)(au:o.op = .call ⟨.value (.func f),as,iT⟩)(hd:cj o.dst c.n)(hf:gM P f e)(ha:ji st as.toList=some vs)
  (hE:∀ w,nG P (e vs.toArray) f w v w #[]) (hs:aI (cx o.dst v st) st') (h:aJ J c st' (.inRegion ops rest::k)):aJ J c st (.inRegion ops (i::rest)::k):=λ _ ht =>
 J.step rfl (λ w=>MT ho hw hk au hf ht ha (hE w)) (h _ ((ht.put v hd).sub hs))
theorem aJ.enter{f:FuncId}{fn:Func}{body:Code}{as:Array Operand}{iT:Array TypeId}{vs:List Value}{n:Nat}(ho:ops[i]? = some o)(hw:cM ops st o=some true)(hk:(c.kind == CallKind.early)=false)(au:o.op = .call ⟨.value (.func f),as,iT⟩)(ha:ji st as.toList=some vs)
  (hf:P.funcs[f]? = some fn) (Km:(fn.name == "runtime.NumGoroutine")=false) (hb:fn.body=some body) (qd:fn.ntmps=n) (hn:Nat.ble vs.length n=true)
  (h:∀ tmps,cX c.n st tmps→aJ J ⟨f,.normal,none,n,[],aU c tmps (.inRegion ops (i::rest)::k)::c.cs⟩ (uL 0 vs) [.code body]):aJ J c st (.inRegion ops (i::rest)::k):=λ tmps ht=>by
 have hv:ai P (execOp (aU c tmps (.inRegion ops (i::rest)::k)).eval o) (.enter f vs.toArray):=by
  rw [FR au ht ha]
  exact ET hf Km (by rw [hb]; rfl)
 subst qd
 have yQ:vs.length≤fn.ntmps:=by simpa [Nat.ble_eq] using hn
 have e:Frame.enter P f vs.toArray .normal=aU ⟨f,.normal,none,fn.ntmps,[],aU c tmps (.inRegion ops (i::rest)::k)::c.cs⟩ (vs.toArray++Array.replicate (fn.ntmps - vs.length) undef) [.code body]:=by
  simp [Frame.enter,aU,hf,hb]
 refine J.step rfl (λ w=>?_) (h tmps ht (vs.toArray++Array.replicate (fn.ntmps - vs.length) undef) ⟨by simp; omega,λ t v bh=>?_⟩)
 ·rw [qz ho (kQ ht hw) (by rw [au]; rfl),IT rfl (by simpa [aU] using hk) (hv w).1,(hv w).2,e]
  rfl
 ·obtain ⟨_,h2⟩:=IU vs 0 t v bh
  have bK:t < vs.length:=by
   have:=(iC.1 h2).1
   simpa using this
  rw [Array.getElem?_append_left (by simpa using bK)]
  simpa using h2
def jB(c:Ctx)(tmps:Array Value)(todo:List Item):Frame:={ aU c tmps todo with mode:=.returning }
theorem QJ.back{fr:Frame}{cs:List Frame}{f:FuncId}{n:Nat}{fn:Func}{vs:List Value}{tmps:Array Value}{todo:List Item}(hf:P.funcs[f]? = some fn)(ht:cX n st tmps)(hr:zC st fn.results.toList=some vs)(hj:J.Q (aV (fr.finish (iM vs)) cs)) :
  J.Q (aV (jB ⟨f,.normal,none,n,[],fr::cs⟩ tmps todo) (fr::cs)) :=
 J.step rfl (λ w=>by
  have hv:=abN (P:=P) ht hr
  simp [jB,stepG,unwind,doReturn,aV,aU,hf,(hv w).1,(hv w).2,GStep.after,seen_none]) hj
theorem QJ.adE{fr:Frame}{cs:List Frame}{f:FuncId}{n:Nat}{fn:Func}{vs:List Value}{tmps:Array Value}{todo:List Item}(hf:P.funcs[f]? = some fn)(ht:cX n st tmps)(hr:zC st fn.results.toList=some vs)(hm:fr.mode = .returning∨fr.mode = .panicking [goexitEntry])(hj:J.Q (aV fr cs)) :
  J.Q (aV (jB ⟨f,.deferred,none,n,[],fr::cs⟩ tmps todo) (fr::cs)) :=
 J.step rfl (λ w=>by
  have hv:=abN (P:=P) ht hr
  rcases hm with hm | hm <;> simp [jB,stepG,unwind,doReturn,aV,aU,hf,(hv w).1,(hv w).2,GStep.after,seen_none,hm,goexitEntry]) hj
theorem aJ.ret(kH:c.ro=none)(h:∀ tmps,cX c.n st tmps→J.Q (aV (jB c tmps (.code .ret::k)) c.cs)):aJ J c st (.code .ret::k):=λ tmps ht =>
 J.step rfl (λ w=>by simp [stepG,stepG.exec,aV,aU,jB,kH]) (h tmps ht)
theorem aJ.UG(kH:c.ro=none)(h:∀ tmps,cX c.n st tmps→J.Q (aV (jB c tmps []) c.cs)):aJ J c st []:=λ tmps ht =>
 J.step rfl (λ w=>by simp [stepG,stepG.exec,aV,aU,jB,kH]) (h tmps ht)
theorem aJ.resume{c':Ctx}{tmps:Array Value}(ho:ops[i]? = some o)(ht:cX c.n st tmps)(hd:cj o.dst c.n)(hs:aI (cx o.dst v st) st')(h:aJ J c st' (.inRegion ops rest::k))(_:c'.cs=aU c tmps (.inRegion ops (i::rest)::k)::c.cs) :
  J.Q (aV ((aU c tmps (.inRegion ops (i::rest)::k)).finish v) c.cs):=by
 rw [qT ho]
 exact h _ ((ht.put v hd).sub hs)
end
section
variable {P:Program} {B:Base} {main:Bool} {ab:Jd P B main} {c:Ctx} {R:az} {H:ah} {st st':St} {k:List Item} {ops:Array Oper} {i:Nat} {rest:List Nat} {o:Oper} {f:FuncId} {as:Array Operand} {iT:Array TypeId} {vs:List Value}
theorem step_defer{tmps:Array Value}{w:World}(ho:ops[i]? = some o)(hw:cM ops st o=some true)(gj:(c.kind == CallKind.early)=false)(kH:c.ro=none)(au:o.op = .defer ⟨.value (.func f),as,iT⟩)(ht:cX c.n st tmps)(ha:ji st as.toList=some vs) :
  stepG P main (aV (aU c tmps (.inRegion ops (i::rest)::k)) c.cs) w = .go (aV (aU { c with defers:=dcall f vs.toArray::c.defers } (fJ o.dst undef tmps) (.inRegion ops rest::k)) c.cs) w #[]:=by
 have hk:=ht.knows c (.inRegion ops (i::rest)::k)
 have ef:(aU c tmps (.inRegion ops (i::rest)::k)).eval (.func f) = .func (.func f) #[] #[]:=rfl
 have e2:as.map (aU c tmps (.inRegion ops (i::rest)::k)).eval=vs.toArray:=by apply Array.ext'; simpa using Cw hk _ _ ha
 have hr:(execOp (aU c tmps (.inRegion ops (i::rest)::k)).eval o).run P w = .ok (.defer (dcall f vs.toArray)) w:=by
  unfold execOp
  simp [au,resolve,Deferred.ofValue,ef,e2,dcall]
 have he:(execOp (aU c tmps (.inRegion ops (i::rest)::k)).eval o).events P w #[]=#[]:=by
  unfold execOp
  simp [au,resolve,Deferred.ofValue,ef]
 have YM:=kQ ht hw
 obtain ⟨FU,kind,ro,n,defers,cs⟩:=c
 simp only at kH gj
 subst kH
 have e0:stepG P main (aV (aU ⟨FU,kind,none,n,defers,cs⟩ tmps (.inRegion ops (i::rest)::k)) cs) w=stepG.apply P true (aU ⟨FU,kind,none,n,defers,cs⟩ tmps (.inRegion ops (i::rest)::k)) cs none (execOp (aU ⟨FU,kind,none,n,defers,cs⟩ tmps (.inRegion ops (i::rest)::k)).eval o) w:=by
  simp [aV,stepG,stepG.exec,stepG.oper,Frame.oper?,aU,ho,YM]
 refine e0.trans ?_
 unfold stepG.apply
 rw [show (execOp (aU ⟨FU,kind,none,n,defers,cs⟩ tmps (.inRegion ops (i::rest)::k)).eval o).runT P w #[]=(.ok (.defer (dcall f vs.toArray)) w,#[]) by rw [Sem.runT_eq,hr,he]]
 cases nU:o.dst <;> simp [GStep.after,seen_none,aV,aU,Frame.finish,ho,nU,fJ,gj]
end
section
variable {F:Fx} {c:Ctx} {R:az} {H:ah} {st:St} {kk:List Item} {ops:Array Oper} {i:Nat} {rest:List Nat} {o:Oper} {n k j:Nat} {T:Lp} {T0:Mp}
theorem aJF{main:Bool}{t:TypeId}{x:Operand}{tmps:Array Value}{w:World}{s:Sh}(ho:ops[i]? = some o)(hw:cM ops st o=some true)(gj:(c.kind == CallKind.early)=false)(au:o.op = .load t x)(hx:bj st x=some (.pointer (some (am F))))(ht:cX c.n st tmps)(Xb:gP F.P t)(hq:(F.P.funcs[c.fn]?).any (·.norace)=true)(bp:fD F s w) :
  stepG F.P main (aV (aU c tmps (.inRegion ops (i::rest)::kk)) c.cs) w = .go (aV (aU c (fJ o.dst (.int .i32 s.mu.val) tmps) (.inRegion ops rest::kk)) c.cs) w #[]:=by
 have hk:=ht.knows c (.inRegion ops (i::rest)::kk)
 have hR:(execOp (aU c tmps (.inRegion ops (i::rest)::kk)).eval o).run F.P w = .ok (.value (.int .i32 s.mu.val)) w∧(execOp (aU c tmps (.inRegion ops (i::rest)::kk)).eval o).events F.P w #[]=#[⟨.cell (am F),false,false⟩]:=by
  simp only [execOp,au,hk x _ hx]
  have h1:=Xb.1 w
  have hc:=bp.cm
  constructor
  ·simp [Instr.loadAt,Instr.sureAddr,loadVar,h1.1,hc]
  ·simp [Instr.loadAt,Instr.sureAddr,loadVar,h1.1,h1.2,hc,events_load]
 rw [qz ho (kQ ht hw) (by rw [au]; rfl),← qT (rest:=rest) (k:=kk) (c:=c) (tmps:=tmps) (v:=.int .i32 s.mu.val) ho,Cv (by simpa [aU] using gj) hR.1,hR.2]
 congr 1
 rw [seen_def]
 simp [seenStep,aU,hq]
theorem KW.look{t:TypeId}{x:Operand}(ho:ops[i]? = some o)(hw:cM ops st o=some true)(gj:(c.kind == CallKind.early)=false)(au:o.op = .load t x)(hx:bj st x=some (.pointer (some (am F))))(Xb:gP F.P t)(hq:(F.P.funcs[c.fn]?).any (·.norace)=true)(hd:cj o.dst c.n)(hu:T ≠ .us∧T ≠ .d4)
  (j7:∀ es,qH F es→FQ F T es)
  (h:ri F.N T→∀ s,xS F.N T s→∃ T',dp T s T' s∧zP F j T T'∧∀ aW,cX c.n (cx o.dst (.int .i32 s.mu.val) st) aW→yv F (KW F n k) k j T T' R H (aV (aU c aW (.inRegion ops rest::kk)) c.cs)) :
  ∀ tmps,cX c.n st tmps→KW F (n+1) k j T R H (aV (aU c tmps (.inRegion ops (i::rest)::kk)) c.cs):=by
 intro tmps ht ot
 refine ⟨rfl,rfl,λ e=>by rcases e with e | e; exact absurd e hu.1; exact absurd e hu.2,λ w s yN bp yR mD=>.inr ?_⟩
 obtain ⟨T',h2,h3,h6⟩:=h ot s yR
 exact ⟨_,w,#[],T',s,h2,h3,j7 _ qL,aJF ho hw gj au hx ht Xb hq bp,cB.refl bp,h6 _ (ht.put _ hd)⟩
def Fu(P:Program)(src dst:TypeId):Prop:=∃ t,P.underlying src=some (.pointer t)∧P.underlying dst=some .unsafePointer∧(P.info? t).map (λ i=>decide (i.size=0))=some false
theorem ajf{src dst:TypeId}{x:Operand}{a:Addr}{v:Value}{w:World}{main:Bool}{tmps:Array Value}(ho:ops[i]? = some o)(hw:cM ops st o=some true)(gj:(c.kind == CallKind.early)=false)(au:o.op = .convert src dst x)(hx:bj st x=some (.pointer (some a)))(ht:cX c.n st tmps)(hu:Fu F.P src dst)(hc:w.cell? a=some v) :
  stepG F.P main (aV (aU c tmps (.inRegion ops (i::rest)::kk)) c.cs) w = .go (aV (aU c (fJ o.dst (.pointer (some a)) tmps) (.inRegion ops rest::kk)) c.cs) w #[]:=by
 obtain ⟨t,u1,u2,u3⟩:=hu
 have hk:=ht.knows c (.inRegion ops (i::rest)::kk)
 have h1:=run_convert_to_unsafe u1 u2 u3 hc
 have h2:=events_convert_to_unsafe u1 u2 u3 hc #[]
 have hR:(execOp (aU c tmps (.inRegion ops (i::rest)::kk)).eval o).run F.P w = .ok (.value (.pointer (some a))) w∧(execOp (aU c tmps (.inRegion ops (i::rest)::kk)).eval o).events F.P w #[]=#[]:=by
  simp only [execOp,au,hk x _ hx]
  constructor
  ·simp [h1]
  ·simp [h2]
 rw [qz ho (kQ ht hw) (by rw [au]; rfl),← qT (rest:=rest) (k:=kk) (c:=c) (tmps:=tmps) (v:=.pointer (some a)) ho,Cv (by simpa [aU] using gj) hR.1,hR.2,seen_none]
theorem KW.conv{src dst:TypeId}{x:Operand}{a:Addr}(ho:ops[i]? = some o)(hw:cM ops st o=some true)(gj:(c.kind == CallKind.early)=false)(au:o.op = .convert src dst x)(hx:bj st x=some (.pointer (some a)))(hu:Fu F.P src dst)(hd:cj o.dst c.n)
  (hc:∀ s w,fD F s w→∃ v,w.cell? a=some v) {T':Lp} (hT:T ≠ .us∧T ≠ .d4) (j7:FQ F T #[]) (dy:∀ s,dp T s T' s) (Bn:zP F j T T')
  (h:∀ aW,cX c.n (cx o.dst (.pointer (some a)) st) aW→yv F (KW F n k) k j T T' R H (aV (aU c aW (.inRegion ops rest::kk)) c.cs)) :
  ∀ tmps,cX c.n st tmps→KW F (n+1) k j T R H (aV (aU c tmps (.inRegion ops (i::rest)::kk)) c.cs):=by
 intro tmps ht ot
 refine ⟨rfl,rfl,λ e=>by rcases e with e | e; exact absurd e hT.1; exact absurd e hT.2,λ w s yN bp yR mD=>.inr ?_⟩
 obtain ⟨v,hv⟩:=hc s w bp
 exact ⟨_,w,#[],T',s,dy s,Bn,j7,ajf ho hw gj au hx ht hu hv,cB.refl bp,h _ (ht.put _ hd)⟩
theorem KM.conv{src dst:TypeId}{x:Operand}{a:Addr}{T0 T':Mp}(ho:ops[i]? = some o)(hw:cM ops st o=some true)(gj:(c.kind == CallKind.early)=false)(au:o.op = .convert src dst x)(hx:bj st x=some (.pointer (some a)))(hu:Fu F.P src dst)(hd:cj o.dst c.n)
  (hc:∀ s w,fD F s w→∃ v,w.cell? a=some v) (h1:∀ r,T0 ≠ .go r) (h2:T0 ≠ .wq) (j7:CL F T0 #[]) (dy:∀ s,gO T0 s T' s)
  (h:∀ aW,cX c.n (cx o.dst (.pointer (some a)) st) aW→Own F.P F.B true (KM F n T') R H (aV (aU c aW (.inRegion ops rest::kk)) c.cs)) :
  ∀ tmps,cX c.n st tmps→KM F (n+1) T0 R H (aV (aU c tmps (.inRegion ops (i::rest)::kk)) c.cs):=by
 intro tmps ht
 have key:∀ w s,Fits F.B R H w→fD F s w→pv F.N T0 s→(T0 = .w3∧s.ws=0∧stepG F.P true (aV (aU c tmps (.inRegion ops (i::rest)::kk)) c.cs) w = .go { aV (aU c tmps (.inRegion ops (i::rest)::kk)) c.cs with status:=.blocked } w #[]) ∨
   ∃ g' w' es T' s',gO T0 s T' s'∧CL F T0 es∧stepG F.P true (aV (aU c tmps (.inRegion ops (i::rest)::kk)) c.cs) w = .go g' w' es∧cB F s' w w'∧Own F.P F.B true (KM F n T') R H g':=λ w s yN bp gQ=>by
  obtain ⟨v,hv⟩:=hc s w bp
  exact .inr ⟨_,w,#[],T',s,dy s,j7,ajf ho hw gj au hx ht hu hv,cB.refl bp,h _ (ht.put _ hd)⟩
 refine ⟨rfl,rfl,?_⟩
 cases T0 <;> first | exact absurd rfl (h1 _) | exact absurd rfl h2 | exact key
theorem TM:∀ s w,fD F s w→∃ v,w.cell? (am F)=some v:=λ _ _ h=>⟨_,h.cm⟩
theorem TN:∀ s w,fD F s w→∃ v,w.cell? (aw F)=some v:=λ _ _ h=>⟨_,h.cg⟩
theorem ads:∀ s w,fD F s w→∃ v,w.cell? (rD F)=some v:=λ _ _ h=>⟨_,h.Of⟩
section
variable {P:Program} {B:Base} {main:Bool} {ab:Jd P B main} {tmps:Array Value} {todo:List Item} {f:FuncId} {ds:List Deferred} {args:Array Value}
theorem U.abC(kH:c.ro=none)(h:∀ tmps,cX c.n st tmps→ab.J R H (aV (jB c tmps (.code .ret::kk)) c.cs)):U ab c R H st (.code .ret::kk):=λ tmps ht =>
 Jd.ctl rfl (λ w=>by simp [stepG,stepG.exec,aV,aU,jB,kH]) (h tmps ht)
theorem U.toEnd(kH:c.ro=none)(h:∀ tmps,cX c.n st tmps→ab.J R H (aV (jB c tmps []) c.cs)):U ab c R H st []:=λ tmps ht =>
 Jd.ctl rfl (λ w=>by simp [stepG,stepG.exec,aV,aU,jB,kH]) (h tmps ht)
theorem Jd.unwind{fn:Func}(hd:c.defers=dcall f args::ds)(hf:P.funcs[f]? = some fn)(Km:(fn.name == "runtime.NumGoroutine")=false)(hb:fn.body.isNone=false)
  (h:ab.J R H (aV (Frame.enter P f args .deferred) (jB { c with defers:=ds } tmps todo::c.cs))):ab.J R H (aV (jB c tmps todo) c.cs):=by
 have hv:=ET (P:=P) (args:=args) hf Km hb
 refine Jd.ctl rfl (λ w=>?_) h
 simp [jB,aV,aU,stepG,Go.unwind,callDeferred,hd,dcall,invoke,(hv w).1,(hv w).2,GStep.after,seen_none]
theorem Jd.back{fr:Frame}{cs:List Frame}{g:FuncId}{m:Nat}{fn:Func}{vs:List Value}(hf:P.funcs[g]? = some fn)(ht:cX m st tmps)(hr:zC st fn.results.toList=some vs)(hj:ab.J R H (aV (fr.finish (iM vs)) cs)):ab.J R H (aV (jB ⟨g,.normal,none,m,[],fr::cs⟩ tmps todo) (fr::cs)):=by
 have hv:=abN (P:=P) ht hr
 refine Jd.ctl rfl (λ w=>?_) hj
 simp [jB,stepG,Go.unwind,doReturn,aV,aU,hf,(hv w).1,(hv w).2,GStep.after,seen_none]
theorem U.defer{as:Array Operand}{iT:Array TypeId}{vs:List Value}{st':St}(ho:ops[i]? = some o)(hw:cM ops st o=some true)(gj:(c.kind == CallKind.early)=false)(kH:c.ro=none)(au:o.op = .defer ⟨.value (.func f),as,iT⟩)(ha:ji st as.toList=some vs)(hd:cj o.dst c.n)(hs:aI (cx o.dst undef st) st')
  (h:U ab { c with defers:=dcall f vs.toArray::c.defers } R H st' (.inRegion ops rest::kk)):U ab c R H st (.inRegion ops (i::rest)::kk):=λ _ ht =>
 Jd.ctl rfl (λ _=>step_defer ho hw gj kH au ht ha) (h _ ((ht.put undef hd).sub hs))
theorem aJ.defer{J:QJ P}{as:Array Operand}{iT:Array TypeId}{vs:List Value}{st':St}(ho:ops[i]? = some o)(hw:cM ops st o=some true)(gj:(c.kind == CallKind.early)=false)(kH:c.ro=none)(au:o.op = .defer ⟨.value (.func f),as,iT⟩)(ha:ji st as.toList=some vs)(hd:cj o.dst c.n)(hs:aI (cx o.dst undef st) st')
  (h:aJ J { c with defers:=dcall f vs.toArray::c.defers } st' (.inRegion ops rest::kk)):aJ J c st (.inRegion ops (i::rest)::kk):=λ _ ht =>
 J.step rfl (λ _=>step_defer ho hw gj kH au ht ha) (h _ ((ht.put undef hd).sub hs))
theorem ajh{e:Array Value→Sem Value}{w w':World}{v:Value}{m8:Array Event}(hd:c.defers=dcall f args::ds)(hf:gM P f e)(hE:nG P (e args) f w v w' m8) :
  stepG P main (aV (jB c tmps todo) c.cs) w = .go (aV (jB { c with defers:=ds } tmps todo) c.cs) w' m8:=by
 obtain ⟨fn,h1,h2,h3,h4,h5⟩:=hf.ex
 obtain ⟨kJ,j7,hs⟩:=hE
 have hr:(callFunc f args).run P w = .ok (.value v) w':=by rw [run_callFunc_extern h1 h2 h3 h4 h5,kJ]; rfl
 have hl:seen P c.fn ((callFunc f args).events P w #[])=m8:=by
  rw [events_callFunc_extern h1 h2 h3 h4 h5]
  simp only [List.push_toArray,List.nil_append]
  rw [j7,seen_entry _ _ _ hs]
 simp [jB,aV,aU,stepG,Go.unwind,callDeferred,hd,dcall,invoke,hr,GStep.after] at hl ⊢
 exact hl
theorem aId{d:Nat}(hd:c.defers=dcall f args::ds)(hf:gM P f (λ _=>do mark .enable; pure Extern.Race.none_))(h:∃ q,QuitsD P q (d - 1) (aV (jB { c with defers:=ds } tmps todo) c.cs)):∃ q,QuitsD P q d (aV (jB c tmps todo) c.cs):=by
 obtain ⟨q,hq⟩:=h
 exact ⟨q+1,QuitsD.said ⟨.mark .enable,false,true⟩ rfl rfl (λ w=>ajh hd hf (rJ (by simp))) hq⟩
end
theorem KM.unwind{f:FuncId}{args:Array Value}{ds:List Deferred}{tmps:Array Value}{todo:List Item}{r:Nat}(hd:c.defers=dcall f args::ds)(hf:gM F.P f (λ _=>do mark .enable; pure Extern.Race.none_))
  (h:Own F.P F.B true (KM F n (.go r)) R H (aV (jB { c with defers:=ds } tmps todo) c.cs)):KM F (n+1) (.ke r) R H (aV (jB c tmps todo) c.cs) :=
 ⟨rfl,rfl,λ w s _ bp _=>.inr ⟨_,w,_,_,s,.ke,rfl,ajh hd hf (rJ (by simp)),cB.refl bp,h⟩⟩
section
variable {P:Program} {B:Base} {main:Bool}
def Ae(P:Program):Frame:={ (default:Frame) with fn:=P.funcs.size,defers:=[],mode:=.panicking [goexitEntry] }
def I8(P:Program)(d:Deferred):Goroutine:={ frame:={ (default:Frame) with fn:=P.funcs.size,defers:=[d],mode:=.panicking [goexitEntry] },callers:=[],status:=.running,dying:=none }
theorem aJV{cl:Call}{d:Deferred}{tmps:Array Value}{w:World}(ho:ops[i]? = some o)(hw:cM ops st o=some true)(au:o.op = .go cl)(ht:cX c.n st tmps)(hr:∀ ρ,Knows st ρ→ai P (resolve ρ cl o.type) d)(hd:(d.target matches .nil)=false) :
  stepG P main (aV (aU c tmps (.inRegion ops (i::rest)::kk)) c.cs) w = .spawn (aV (aU c (fJ o.dst undef tmps) (.inRegion ops rest::kk)) c.cs) (I8 P d) w #[]:=by
 rw [qz ho (kQ ht hw) (by rw [au]; rfl)]
 have hk:=ht.knows c (.inRegion ops (i::rest)::kk)
 have:ai P (execOp (aU c tmps (.inRegion ops (i::rest)::kk)).eval o) (.spawn d):=by
  simp only [execOp,au]
  exact ai.bH (hr _ hk) (ai.bD _)
 have h:=this w
 rw [← qT (rest:=rest) (k:=kk) (c:=c) (tmps:=tmps) (v:=undef) ho]
 clear hr this
 obtain ⟨tg,anu⟩:=d
 cases tg <;> simp_all [stepG.apply,aV,GStep.after,seen_none,I8]
theorem Own.child{K:az→ah→Goroutine→Prop}{f:FuncId}{args:Array Value}{d:Deferred}(hd:(d.target matches .nil)=false)(hv:ai P (invoke d.target d.args) (.enter f args))(h:Own P B false K R H (aV (Frame.enter P f args .deferred) [Ae P])):Own P B false K R H (I8 P d):=by
 refine (Mz P B false K).step rfl λ w hw=>⟨_,w,#[],R,H,?_,by simp,gf.refl hw,h⟩
 have hc:(match d.target with | .collected _=>false | _=>true)=true:=by
  cases ht:d.target with
  | collected b =>
   rw [ht] at hv
   have:=(hv w).1
   simp [invoke] at this
  | _=>rfl
 have hvw:=hv w
 obtain ⟨tg,anu⟩:=d
 simp only at hc hvw hd
 unfold stepG I8
 simp only
 unfold Go.unwind
 cases tg with
 | collected b=>cases hc
 | _=>simp_all [callDeferred,Sem.runT_eq,GStep.after,seen_none,aV,Ae]
theorem aKd{f:FuncId}{captured args:Array Value}(he:bn P f):ai P (invoke (.fn (.func f) captured) args) (.enter f (args++captured)):=by
 obtain ⟨fn,h1,h2,h3⟩:=he.ex
 simp only [invoke]
 exact ET h1 h2 h3
theorem aIx{x:Operand}{cl:Call}{f:FuncId}{cap:Array Value}{t:TypeId}(hc:cl.callee = .value x)(ha:cl.args=#[])(hx:bj st x=some (.func (.func f) #[] cap))(ρ:Operand→Value)(bl:Knows st ρ):ai P (resolve ρ cl t) ⟨.fn (.func f) cap,#[]⟩:=by
 simp only [resolve,hc,ha,bl x _ hx,Deferred.ofValue]
 have e:(#[]:Array Value)++Array.map ρ #[]=#[]:=by simp
 rw [e]
 exact ai.bD _
theorem aql{f:FuncId}{fn:Func}{body:Code}{args:List Value}{m:Nat}{kd:CallKind}{cs:List Frame}(hf:P.funcs[f]? = some fn)(hb:fn.body=some body)(qd:fn.ntmps=m)(hn:Nat.ble args.length m=true) :
  ∃ tmps,cX m (uL 0 args) tmps∧Frame.enter P f args.toArray kd=aU ⟨f,kd,none,m,[],cs⟩ tmps [.code body]:=by
 subst qd
 have hn:args.length≤fn.ntmps:=by simpa [Nat.ble_eq] using hn
 refine ⟨args.toArray++Array.replicate (fn.ntmps - args.length) undef,⟨by simp; omega,λ t v ht=>?_⟩,by simp [Frame.enter,aU,hf,hb]⟩
 obtain ⟨_,h2⟩:=IU args 0 t v ht
 have bK:t < args.length:=by
  have:=(iC.1 h2).1
  simpa using this
 rw [Array.getElem?_append_left (by simpa using bK)]
 simpa using h2
theorem Jd.enter{ab:Jd P B main}{f:FuncId}{fn:Func}{body:Code}{args:List Value}{m:Nat}{kd:CallKind}{cs:List Frame}(hf:P.funcs[f]? = some fn)(hb:fn.body=some body)(qd:fn.ntmps=m)(hn:Nat.ble args.length m=true)
  (h:U ab ⟨f,kd,none,m,[],cs⟩ R H (uL 0 args) [.code body]):ab.J R H (aV (Frame.enter P f args.toArray kd) cs):=by
 obtain ⟨tmps,ht,e⟩:=aql (kd:=kd) (cs:=cs) hf hb qd hn
 rw [e]; exact h tmps ht
theorem aIe:QuitsD P 1 0 (aV (Ae P) []):=by
 refine .inr ⟨rfl,{ aV (Ae P) [] with status:=.finished },#[],by simp,λ w=>?_,rfl,rfl⟩
 have e:(default:Frame).todo=[]:=rfl
 simp [stepG,Go.unwind,aV,Ae,goexitEntry,Frame.catches,e]
end
theorem KM.spawn{cl:Call}{d:Deferred}{r:Nat}(ho:ops[i]? = some o)(hw:cM ops st o=some true)(au:o.op = .go cl)(hr:∀ ρ,Knows st ρ→ai F.P (resolve ρ cl o.type) d)(hd:(d.target matches .nil)=false)(l5:cj o.dst c.n)
  (hc:Own F.P F.B false (KW F n (F.N - (r+1)) 0 .ld) R [] (I8 F.P d)) (h:∀ aW,cX c.n (cx o.dst undef st) aW→Own F.P F.B true (KM F n (kO r)) R H (aV (aU c aW (.inRegion ops rest::kk)) c.cs)) :
  ∀ tmps,cX c.n st tmps→KM F (n+1) (.go r) R H (aV (aU c tmps (.inRegion ops (i::rest)::kk)) c.cs):=λ _ ht =>
 ⟨rfl,rfl,λ _ _ _ _ _=>⟨_,_,aJV ho hw au ht hr hd,hc,h _ (ht.put undef l5)⟩⟩
end
def s0:Sh:=⟨.zero,0,0,0,0⟩
theorem jg.crowd{F:Fx}{Post:Value→World→Prop}{R:az}{H0:ah}{g:Goroutine}{r:Nat}(tu:F.mj=jg F.P F.B Post)(hN:F.N=r+1)(h:∀ n,Own F.P F.B true (KM F n (.ka r)) R H0 g) :
  jg F.P F.B Post R ((F.bo,F.cont λ _=>0)::(F.bw,qC F.tw s0)::(F.bm,qo F.tm s0)::H0) g:=by
 intro gs w sl t q dd h0 hA
 have bK:=DZ h0
 have hf:=hA.fits
 have di:=hf.nd
 simp only [List.map_cons,List.nodup_cons,fa,not_or,List.mem_map,not_exists] at di
 have mo:(F.bo,F.cont λ _=>0)∈(F.bo,F.cont λ _=>0)::(F.bw,qC F.tw s0)::(F.bm,qo F.tm s0)::H0:=by simp
 have mw:(F.bw,qC F.tw s0)∈(F.bo,F.cont λ _=>0)::(F.bw,qC F.tw s0)::(F.bm,qo F.tm s0)::H0:=by simp
 have mm:(F.bm,qo F.tm s0)∈(F.bo,F.cont λ _=>0)::(F.bw,qC F.tw s0)::(F.bm,qo F.tm s0)::H0:=by simp
 have out:∀ b,(b=F.bo∨b=F.bw∨b=F.bm)→R b=none∧∀ o',(b,o') ∉ H0:=λ b hb=>by
  rcases hb with rfl | rfl | rfl
  ·exact ⟨hf.dj _ _ mo,λ o' eX=>di.1.2.2 (F.bo,o') ⟨eX,rfl⟩⟩
  ·exact ⟨hf.dj _ _ mw,λ o' eX=>di.2.1.2 (F.bw,o') ⟨eX,rfl⟩⟩
  ·exact ⟨hf.dj _ _ mm,λ o' eX=>di.2.2.1 (F.bm,o') ⟨eX,rfl⟩⟩
 have hc:∀ n,cnt (cF (λ _=>.no) 0 (.mn (.ka r))) n = .zero:=λ n=>by
  have z:∀ f:Cn→Nat,f .zero=0→de n (λ i=>f (cA (cF (λ _=>.no) 0 (.mn (.ka r)) i)))=0:=λ f hf=>by
   have e:∀ i,f (cA (cF (λ _=>.no) 0 (.mn (.ka r)) i))=0:=λ i=>by
    unfold cF; split <;> exact hf
   have:=RI (b:=0) (f:=λ i=>f (cA (cF (λ _=>.no) 0 (.mn (.ka r)) i))) (λ i=>by rw [e]; exact eR _) n
   omega
  unfold cnt
  simp only [z (·.ow) rfl,z (·.hl) rfl,z (·.pu) rfl,z (·.pc) rfl,z (·.al) rfl,z (·.z) rfl,z (·.a1) rfl,z (·.ak) rfl,z (·.ux) rfl,z (·.wk) rfl,z (·.lv) rfl,z (·.dw) rfl,z (·.d4) rfl]
  rfl
 have Db:∀ i k j T,cF (λ _=>.no) 0 (.mn (.ka r)) i ≠ .wk k j T:=λ i k j T e=>by
  unfold cF at e; split at e <;> cases e
 have mA:Bk F (31 * (gs.size+F.N)+1) (.ka r) (cF (λ _=>.no) 0 (.mn (.ka r))) (λ _=>0) s0 gs.size:=by
  refine ⟨jQ _ _ _,by simp,bK,λ i hi=>fG (by omega),λ i T hT=>?_,?_,?_,λ i k j T e=>absurd e (Db i k j T),λ i i' k j j' T T' e=>absurd e (Db i k j T),λ k hk=>?_,λ k hk=>rfl,by simp only [rem,hN]; omega⟩
  ·apply Classical.byContradiction
   intro hn
   rw [fG hn] at hT; cases hT
  ·rw [hc]; constructor <;> simp [Cn.zero,s0,Wd.zero]
  ·rw [hc]; refine ⟨by simp [kY,Cn.zero,s0],by simp [Cn.zero,Cn.jP],by simp [Cn.zero,Cn.jP,rem,hN]⟩
  ·simp only [rem,hN] at hk; omega
 have hd0:=hA.d0
 obtain ⟨T,hT⟩:=h (MM F (31 * (gs.size+F.N)+1) (cF (λ _=>.no) 0 (.mn (.ka r))) s0 gs.size)
 refine MI.runs (F:=F) (Q:=31 * (gs.size+F.N)+1) (T0:=.ka r) (D:=cF (λ _=>.no) 0 (.mn (.ka r))) (m:=λ i=>if i=0 then some T else some (sx (q i))) (js:=λ _=>0) (s:=s0) (th:=only ⟨R,H0⟩) (mu:=λ _=>false) (dd:=dd) tu ⟨?_,?_,λ i x hx=>?_,λ i hi=>⟨?_,rfl,hA.dz i hi⟩,mA⟩
 ·rw [hc]
  have sub:∀ i x,only ⟨R,H0⟩ i=some x→i=0∧x=⟨R,H0⟩:=λ i x hx=>by
   unfold only at hx; split at hx
   ·cases hx; exact ⟨‹_›,rfl⟩
   ·cases hx
  refine ⟨λ i x hx=>?_,λ i j x y rY hx hy=>?_,λ c o Be=>?_,λ c o Be i x hx=>?_⟩
  ·obtain ⟨rfl,rfl⟩:=sub i x hx
   exact ⟨hf.r,λ b o hb=>hf.h b o (by simp [hb]),di.2.2.2,λ b o hb=>hf.dj b o (by simp [hb]),hf.os,hf.tape,hf.out⟩
  ·obtain ⟨rfl,_⟩:=sub i x hx
   obtain ⟨rfl,_⟩:=sub j y hy
   exact absurd rfl rY
  ·rcases Er Be with ⟨rfl,rfl⟩ | ⟨rfl,rfl⟩ | ⟨rfl,rfl,_⟩
   ·exact hf.h _ _ mm
   ·exact hf.h _ _ mw
   ·exact hf.h _ _ mo
  ·obtain ⟨rfl,rfl⟩:=sub i x hx
   rcases Er Be with ⟨rfl,rfl⟩ | ⟨rfl,rfl⟩ | ⟨rfl,rfl,_⟩
   ·exact out _ (.inr (.inr rfl))
   ·exact out _ (.inr (.inl rfl))
   ·exact out _ (.inl rfl)
 ·rw [hc]
  refine cY.share (bs:=[F.bm,F.bw]) (b:=F.bo) hA.tr (λ c Be=>?_) (λ x hx=>by simp [hx]) _ _
  simp only [fa,List.not_mem_nil,or_false] at Be
  rcases Be with rfl | rfl | rfl
  ·exact ⟨_,mo⟩
  ·exact ⟨_,mm⟩
  ·exact ⟨_,mw⟩
 ·by_cases hi:i=0
  ·subst hi
   rw [h0] at hx; cases hx
   rw [jQ]
   exact ⟨rfl,hd0,rfl,⟨R,H0⟩,_,rfl,eR _,.inl ⟨T,by simp,hT⟩⟩
  ·rw [fG hi]
   refine ⟨by simp [only,hi],by omega,q i,by simp [hi],hA.lv i x (by omega) hx⟩
 ·have:i≠0:=by omega
  simp [only,this]
theorem aJL:∀ (l w s:Fin 2) (n:Fin 6),let v:Int:=(l.1:Int)+2 * w.1+4 * s.1+8 * n.1;
  gu .and .i32 v 1=some (l.1:Int)∧gu .and .i32 v 2=some (2 * w.1:Int)∧gu .and .i32 v 3=some ((l.1:Int)+2 * w.1)∧gu .and .i32 v 4=some (4 * s.1:Int)∧gu .and .i32 v 5=some ((l.1:Int)+4 * s.1) ∧
  gu .and .i32 v 7=some ((l.1:Int)+2 * w.1+4 * s.1)∧gu .or .i32 v 1=some (1+2 * w.1+4 * s.1+8 * n.1:Int)∧gu .or .i32 v 2=some ((l.1:Int)+2+4 * s.1+8 * n.1)∧gu .or .i32 v 4=some ((l.1:Int)+2 * w.1+4+8 * n.1) ∧
  gu .andNot .i32 v 2=some ((l.1:Int)+4 * s.1+8 * n.1)∧mJ .i32 v 3=some (n.1:Int):=by decide +kernel
section
variable {m:Wd} (h:m.ok 5)
include h
theorem Wd.ug:gu .and .i32 m.val 1=some (m.l:Int)∧gu .and .i32 m.val 2=some (2 * m.w:Int)∧gu .and .i32 m.val 3=some ((m.l:Int)+2 * m.w)∧gu .and .i32 m.val 4=some (4 * m.s:Int)∧gu .and .i32 m.val 5=some ((m.l:Int)+4 * m.s) ∧
  gu .and .i32 m.val 7=some ((m.l:Int)+2 * m.w+4 * m.s)∧gu .or .i32 m.val 1=some (Wd.val { m with l:=1 })∧gu .or .i32 m.val 2=some (Wd.val { m with w:=1 })∧gu .or .i32 m.val 4=some (Wd.val { m with s:=1 }) ∧
  gu .andNot .i32 m.val 2=some (Wd.val { m with w:=0 })∧mJ .i32 m.val 3=some (m.n:Int):=by
 obtain ⟨l,w,s,n⟩:=m
 obtain ⟨h1,h2,h3,h4⟩:=h
 have:=aJL ⟨l,by simp only at h1; omega⟩ ⟨w,by simp only at h2; omega⟩ ⟨s,by simp only at h3; omega⟩ ⟨n,by simp only at h4; omega⟩
 simpa [Wd.val] using this
theorem Wd.fit:0≤m.val∧m.val≤47:=by
 obtain ⟨h1,h2,h3,h4⟩:=h
 unfold Wd.val; omega
end
theorem wrap_i32{z:Int}(h1 : -2147483648≤z)(h2:z≤2147483647):IntKind.i32.wrap z=z:=by
 unfold IntKind.wrap
 simp [IntKind.signed,IntKind.bits]
 omega
theorem wrap_u32{z:Int}(h1:0≤z)(h2:z≤4294967295):IntKind.u32.wrap z=z:=by
 unfold IntKind.wrap
 simp [IntKind.signed,IntKind.bits]
 omega
theorem akr{z:Int}(h1:0≤z)(h2:z≤18446744073709551615):IntKind.u64.wrap z=z:=by
 unfold IntKind.wrap
 simp [IntKind.signed,IntKind.bits]
 omega
theorem aK7{z:Int}(h1:4294967296≤z)(h2:z≤18446744073709551615):IntKind.u64.wrap (z+18446744069414584320)=z - 4294967296:=by
 unfold IntKind.wrap
 simp [IntKind.signed,IntKind.bits]
 omega
theorem aJK:∀ (v:Fin 6) (w:Fin 2),let z:Int:=4294967296 * (v.1:Int)+w.1;
  gu .and .u64 z 2147483648=some 0∧gu .and .u64 z 2147483647=some (w.1:Int)∧mJ .u64 z 32=some (v.1:Int):=by decide +kernel
theorem ab1{v w:Nat}(hv:v≤5)(hw:w≤1):gu .and .u64 (4294967296 * (v:Int)+w) 2147483648=some 0∧gu .and .u64 (4294967296 * (v:Int)+w) 2147483647=some (w:Int)∧mJ .u64 (4294967296 * (v:Int)+w) 32=some (v:Int):=by
 simpa using aJK ⟨v,by omega⟩ ⟨w,by omega⟩
class uI (P:Program) where
 ki:Nat→Option IntKind
 ok:∀ t k,ki t=some k→P.underlying t=some (.int k)
def T6(bo:BinOp)(kd:IntKind)(a b:Int):Option Value :=
 match bo with
 | .eql=>some (.bool (a == b))
 | .neq=>some (.bool (a != b))
 | .lss=>some (.bool (decide (a < b)))
 | .leq=>some (.bool (decide (a≤b)))
 | .gtr=>some (.bool (decide (a > b)))
 | .geq=>some (.bool (decide (a ≥ b)))
 | .add=>some (.int kd (kd.wrap (a+b)))
 | .sub=>some (.int kd (kd.wrap (a - b)))
 | .and=>some (.int kd ((gu .and kd a b).getD 0))
 | .or=>some (.int kd ((gu .or kd a b).getD 0))
 | .andNot=>some (.int kd ((gu .andNot kd a b).getD 0))
 | _=>none
def Qm(fo:Nat→Nat→Option Nat)(ki:Nat→Option IntKind)(st:St)(o:Oper):Option Value :=
 match o.op with
 | .move x=>bj st x
 | .assign x=>bj st x
 | .nilCheck x=>match bj st x with
  | some (.pointer (some a))=>some (.pointer (some a))
  | _=>none
 | .pick x y z=>match bj st x with
  | some (.bool true)=>bj st y
  | some (.bool false)=>bj st z
  | _=>none
 | .unOp .not _ x=>match bj st x with
  | some (.bool a)=>some (.bool (!a))
  | _=>none
 | .binOp .shr _ x y _=>match bj st x,bj st y with
  | some (.int kd a),some (.int _ b)=>if b < 0 then none else some (.int kd (a.fdiv (2 ^ (min b.toNat kd.bits))))
  | _,_=>none
 | .binOp .shl _ x y _=>match bj st x,bj st y with
  | some (.int kd a),some (.int _ b)=>if b < 0 then none else some (.int kd (kd.wrap (a * 2 ^ (min b.toNat kd.bits))))
  | _,_=>none
 | .binOp bo _ x y _=>match bj st x,bj st y with
  | some (.int kd a),some (.int DT b)=>if kd=DT then T6 bo kd a b else none
  | _,_=>none
 | .convert s d x=>match bj st x,ki s,ki d with
  | some (.int _ a),some _,some kd=>some (.int kd (kd.wrap a))
  | _,_,_=>none
 | .fieldAddr s x f=>match bj st x,fo s f with
  | some (.pointer (some ⟨b,n,none⟩)),some off=>some (.pointer (some ⟨b,n+off,none⟩))
  | _,_=>none
 | _=>none
section
variable {P:Program} [mY P] [uI P] {B:Base} {main:Bool} {ab:Jd P B main} {J:QJ P} {c:Ctx} {R:az} {H:ah} {st st':St} {o:Oper} {k:List Item}
omit [mY P] [uI P] in
theorem ajH{kd yk:IntKind}{a b:Int}{t:TypeId}(hb:¬ b < 0):ai P (binOp .shr t (.int kd a) (.int yk b)) (.int kd (a.fdiv (2 ^ (min b.toNat kd.bits))))∧ai P (binOp .shl t (.int kd a) (.int yk b)) (.int kd (kd.wrap (a * 2 ^ (min b.toNat kd.bits)))):=by
 constructor <;> (simp only [binOp,Op.shift,if_false,hb]; exact ai.bD _)
omit [mY P] [uI P] in
theorem aJ5{bo:BinOp}{kd:IntKind}{a b:Int}{t:TypeId}{v:Value}(h:T6 bo kd a b=some v):ai P (binOp bo t (.int kd a) (.int kd b)) v:=by
 unfold T6 at h
 cases bo <;> simp only [iS,reduceCtorEq] at h <;> subst h <;> simp only [binOp,ne_eq,kV,if_false,Op.intArith,Op.intBits,gu,oT] <;> exact ai.bD _
theorem ag7{v:Value}(h:Qm (mY.off P) (uI.ki P) st o=some v)(hd:cj o.dst c.n):uJ P c o st v:=by
 unfold Qm at h
 split at h
 ·rename_i x au; exact OV.move au hd h
 ·rename_i x au; exact OV.assign au hd h
 ·rename_i x au
  split at h
  ·rename_i hx; cases h; exact OV.nilCheck au hd hx
  ·cases h
 ·rename_i x y z au
  split at h
  ·rename_i hx; exact OV.aH1 au hd hx h
  ·rename_i hx; exact OV.aH0 au hd hx h
  ·cases h
 ·rename_i t x au
  split at h
  ·rename_i hx; cases h; exact OV.not au hd hx
  ·cases h
 ·rename_i t x y u au
  split at h
  ·rename_i kd a DT b hx hy
   split at h
   ·cases h
   ·rename_i hb; cases h; exact OV.bin au hd hx hy (ajH hb).1
  ·cases h
 ·rename_i t x y u au
  split at h
  ·rename_i kd a DT b hx hy
   split at h
   ·cases h
   ·rename_i hb; cases h; exact OV.bin au hd hx hy (ajH hb).2
  ·cases h
 ·rename_i bo t x y u _ _ au
  split at h
  ·rename_i kd a DT b hx hy
   split at h
   ·rename_i e; subst e; exact OV.bin au hd hx hy (aJ5 h)
   ·cases h
  ·cases h
 ·rename_i s d x au
  split at h
  ·rename_i ks a k0 kd hx hs hk
   cases h
   refine ⟨by rw [au]; rfl,hd,λ ρ bl=>?_⟩
   simp only [execOp,au,bl x _ hx]
   refine ai.bH ?_ (ai.bD _)
   unfold convert
   exact ai.bH (ai.underlying (uI.ok _ _ hs)) (ai.bH (ai.underlying (uI.ok _ _ hk)) (ai.bD _))
  ·cases h
 ·rename_i s x f au
  split at h
  ·rename_i hx hf; cases h; exact OV.fieldAddr au hd hx (mY.ok s f _ hf)
  ·cases h
 ·cases h
def abu(fo:Nat→Nat→Option Nat)(ki:Nat→Option IntKind)(ops:Array Oper)(n:Nat)(st:St)(i:Nat):Option St :=
 match ops[i]? with
 | none=>none
 | some o=>match cM ops st o with
  | some true=>match Qm fo ki st o,o.dst with
   | some v,some d=>if Nat.blt d n=true then some ((d,v)::st) else none
   | _,_=>none
  | some false=>match ni o.op,o.dst with
   | false,some d=>if Nat.blt d n=true then some ((d,undef)::st) else none
   | false,none=>some st
   | _,_=>none
  | none=>none
def sF(fo:Nat→Nat→Option Nat)(ki:Nat→Option IntKind)(ops:Array Oper)(n:Nat):List Nat→St→Option St
 | [],st=>some st
 | i::is,st=>match abu fo ki ops n st i with
  | some st'=>sF fo ki ops n is st'
  | none=>none
theorem ajc{ops:Array Oper}{n i:Nat}{fo:Nat→Nat→Option Nat}{ki:Nat→Option IntKind}(h:abu fo ki ops n st i=some st'):∃ o,ops[i]? = some o ∧
  ((cM ops st o=some true∧∃ v d,Qm fo ki st o=some v∧o.dst=some d∧cj (some d) n∧st'=(d,v)::st) ∨
   (cM ops st o=some false∧ni o.op=false∧cj o.dst n∧st'=cx o.dst undef st)):=by
 unfold abu at h
 split at h
 ·cases h
 ·rename_i o ho
  refine ⟨o,ho,?_⟩
  split at h
  ·rename_i hw
   split at h
   ·rename_i v d hv hd
    split at h
    ·rename_i hl; cases h; exact .inl ⟨hw,v,d,hv,hd,hl,rfl⟩
    ·cases h
   ·cases h
  ·rename_i hw
   split at h
   ·rename_i d mB hd
    split at h
    ·rename_i hl; cases h; exact .inr ⟨hw,mB,by rw [hd]; exact hl,by rw [hd]; rfl⟩
    ·cases h
   ·rename_i mB hd
    cases h; exact .inr ⟨hw,mB,by rw [hd]; rfl,by rw [hd]; rfl⟩
   ·cases h
  ·cases h
theorem U.sF{ops:Array Oper}(hk:(c.kind == CallKind.early)=false):∀ {is rest:List Nat} {st:St},Go.Lg.sF (mY.off P) (uI.ki P) ops c.n is st=some st'→U ab c R H st' (.inRegion ops rest::k)→U ab c R H st (.inRegion ops (is++rest)::k)
 | [],rest,st,h,ha=>by cases h; exact ha
 | i::is,rest,st,h,ha=>by
  unfold Go.Lg.sF at h
  split at h
  ·rename_i mK h1
   have ih:=U.sF hk h ha
   obtain ⟨o,ho,⟨hw,v,d,hv,hd,hl,rfl⟩ | ⟨hw,mB,hl,rfl⟩⟩:=ajc h1
   ·exact U.val ho hw hk (ag7 hv (by rw [hd]; exact hl)) (by rw [hd]; exact aI.refl _) ih
   ·exact U.unwanted ho hw hl (aI.refl _) ih
  ·cases h
theorem aJ.sF{ops:Array Oper}(hk:(c.kind == CallKind.early)=false):∀ {is rest:List Nat} {st:St},Go.Lg.sF (mY.off P) (uI.ki P) ops c.n is st=some st'→aJ J c st' (.inRegion ops rest::k)→aJ J c st (.inRegion ops (is++rest)::k)
 | [],rest,st,h,ha=>by cases h; exact ha
 | i::is,rest,st,h,ha=>by
  unfold Go.Lg.sF at h
  split at h
  ·rename_i mK h1
   have ih:=aJ.sF hk h ha
   obtain ⟨o,ho,⟨hw,v,d,hv,hd,hl,rfl⟩ | ⟨hw,mB,hl,rfl⟩⟩:=ajc h1
   ·exact aJ.val ho hw hk (ag7 hv (by rw [hd]; exact hl)) (by rw [hd]; exact aI.refl _) ih
   ·exact aJ.unwanted ho hw hl (aI.refl _) ih
  ·cases h
theorem U.lv(m:Nat){ops:Array Oper}{is sa:List Nat}(ha:U ab c R H st' (.inRegion ops sa::k))(h:Go.Lg.sF (mY.off P) (uI.ki P) ops c.n (is.take m) st=some st':=by rfl)(hr:is.drop m=sa:=by rfl)(hk:(c.kind == CallKind.early)=false:=by rfl):U ab c R H st (.inRegion ops is::k):=by
 subst hr
 have:=U.sF (rest:=is.drop m) hk h ha
 rwa [List.take_append_drop] at this
theorem aJ.lv(m:Nat){ops:Array Oper}{is sa:List Nat}(ha:aJ J c st' (.inRegion ops sa::k))(h:Go.Lg.sF (mY.off P) (uI.ki P) ops c.n (is.take m) st=some st':=by rfl)(hr:is.drop m=sa:=by rfl)(hk:(c.kind == CallKind.early)=false:=by rfl):aJ J c st (.inRegion ops is::k):=by
 subst hr
 have:=aJ.sF (rest:=is.drop m) hk h ha
 rwa [List.take_append_drop] at this
end
section
variable {P:Program} {B:Base} {main:Bool} {ab:Jd P B main} {J:QJ P} {c:Ctx} {R:az} {H:ah} {st st':St} {k:List Item}
theorem U.is(t:Nat){v v':Value}{todo:List Item}(hx:st.lookup t=some v)(hv:v=v')(h:U ab c R H ((t,v')::st) todo):U ab c R H st todo:=by
 subst hv
 refine U.sub (λ u x hu=>?_) h
 rw [List.lookup_cons] at hu
 split at hu
 ·rename_i e; rw [beq_iff_eq] at e; subst e; rw [hx]; exact hu
 ·exact hu
theorem aJ.is(t:Nat){v v':Value}{todo:List Item}(hx:st.lookup t=some v)(hv:v=v')(h:aJ J c ((t,v')::st) todo):aJ J c st todo:=by
 subst hv
 refine aJ.sub (λ u x hu=>?_) h
 rw [List.lookup_cons] at hu
 split at hu
 ·rename_i e; rw [beq_iff_eq] at e; subst e; rw [hx]; exact hu
 ·exact hu
theorem aJ.rg(is:List Nat){id:Nat}{ops:Array Oper}(h:aJ J c st (.inRegion ops is::k))(hn:ops.size=is.length:=by rfl)(mC:List.range is.length=is:=by rfl):aJ J c st (.code (.region id ops false)::k):=aJ.region hn mC h
def kW(P:Program)(J K:Goroutine→Prop)(f:FuncId)(vs:List Value):Prop :=
 ∀ fr cs,K (aV (Frame.finish fr (iM [])) cs)→J (aV (Frame.enter P f vs.toArray .normal) (fr::cs))
variable {ops:Array Oper} {i:Nat} {rest:List Nat} {o:Oper} {f:FuncId} {as:Array Operand} {iT:Array TypeId} {vs:List Value} {K:Goroutine→Prop}
theorem U.xF(ho:ops[i]? = some o)(hw:cM ops st o=some true)(gj:(c.kind == CallKind.early)=false)(au:o.op = .call ⟨.value (.func f),as,iT⟩)(ha:ji st as.toList=some vs)(he:bn P f)(hd:cj o.dst c.n)
  (hf:kW P (ab.J R H) K f vs) (h:∀ aW,cX c.n (cx o.dst (iM []) st) aW→K (aV (aU c aW (.inRegion ops rest::k)) c.cs)):U ab c R H st (.inRegion ops (i::rest)::k):=λ tmps ht=>by
 obtain ⟨fn,h1,h2,h3⟩:=he.ex
 have hv:ai P (execOp (aU c tmps (.inRegion ops (i::rest)::k)).eval o) (.enter f vs.toArray):=by
  rw [FR au ht ha]
  exact ET h1 h2 h3
 refine Jd.ctl rfl (λ w=>?_) (hf (aU c tmps (.inRegion ops (i::rest)::k)) c.cs ?_)
 ·rw [qz ho (kQ ht hw) (by rw [au]; rfl),IT rfl (by simpa [aU] using gj) (hv w).1,(hv w).2]
  rfl
 ·rw [qT ho]
  exact h _ (ht.put _ hd)
theorem kW.oC{fn:Func}{body:Code}{n:Nat}(hf:P.funcs[f]? = some fn)(hb:fn.body=some body)(qd:fn.ntmps=n)(hn:Nat.ble vs.length n=true)
  (h:∀ fr cs,K (aV (Frame.finish fr (iM [])) cs)→U ab ⟨f,.normal,none,n,[],fr::cs⟩ R H (uL 0 vs) [.code body]):kW P (ab.J R H) K f vs:=λ fr cs hk=>Jd.enter hf hb qd hn (h fr cs hk)
theorem U.qQ{m:Nat}{fn:Func}{fr:Frame}{cs:List Frame}{todo:List Item}(hf:P.funcs[f]? = some fn)(hr:fn.results.toList=[])(hj:ab.J R H (aV (fr.finish (iM [])) cs))(hm:todo=[]∨∃ k,todo = .code .ret::k):U ab ⟨f,.normal,none,m,[],fr::cs⟩ R H st todo:=by
 have key:∀ tmps todo,cX m st tmps→ab.J R H (aV (jB ⟨f,.normal,none,m,[],fr::cs⟩ tmps todo) (fr::cs)):=λ tmps todo ht=>Jd.back hf ht (by rw [hr]; rfl) hj
 rcases hm with rfl | ⟨k,rfl⟩
 ·exact U.toEnd rfl λ tmps ht=>key tmps _ ht
 ·exact U.abC rfl λ tmps ht=>key tmps _ ht
end
section
variable {P:Program} {main:Bool} {c:Ctx} {st:St} {k:List Item} {ops:Array Oper} {i:Nat} {rest:List Nat} {o:Oper} {f:FuncId} {as:Array Operand} {iT:Array TypeId} {vs:List Value}
theorem aJG{tmps:Array Value}{w:World}(ho:ops[i]? = some o)(hw:cM ops st o=some true)(gj:(c.kind == CallKind.early)=false)(au:o.op = .call ⟨.value (.func f),as,iT⟩)(hf:gM P f Extern.OsHooks.nano)(hq:(P.funcs[f]?).any (·.norace)=true)(ht:cX c.n st tmps)(ha:ji st as.toList=some vs) :
  stepG P main (aV (aU c tmps (.inRegion ops (i::rest)::k)) c.cs) w = .go (aV (aU c (fJ o.dst (.int .i64 ((w.os.mono+w.tick:Nat):Int)) tmps) (.inRegion ops rest::k)) c.cs) w.later #[]:=by
 obtain ⟨fn,h1,h2,h3,h4,h5⟩:=hf.ex
 have kJ:(Extern.OsHooks.nano vs.toArray).run P w = .ok (.int .i64 ((w.os.mono+w.tick:Nat):Int)) w.later:=rfl
 rw [qz ho (kQ ht hw) (by rw [au]; rfl),← qT (rest:=rest) (k:=k) (c:=c) (tmps:=tmps) (v:=.int .i64 ((w.os.mono+w.tick:Nat):Int)) ho,FR au ht ha]
 have hr:(callFunc f vs.toArray).run P w = .ok (.value (.int .i64 ((w.os.mono+w.tick:Nat):Int))) w.later:=by rw [run_callFunc_extern h1 h2 h3 h4 h5,kJ]; rfl
 rw [Cv (by simpa [aU] using gj) hr]
 congr 1
 rw [events_callFunc_extern h1 h2 h3 h4 h5]
 simp only [List.push_toArray,List.nil_append]
 have j7:(Extern.OsHooks.nano vs.toArray).events P w #[⟨.mark (.extern f),false,true⟩]=#[⟨.mark (.extern f),false,true⟩]++#[⟨.output,true,false⟩]:=rfl
 rw [j7,seen_entry_out _ _ hq]
end
section
variable {F:Fx} {c:Ctx} {R:az} {H:ah} {st:St} {kk:List Item} {ops:Array Oper} {i:Nat} {rest:List Nat} {o:Oper} {f:FuncId} {as:Array Operand} {iT:Array TypeId} {vs:List Value} {n k j:Nat} {T:Lp}
theorem KW.nano(hB:∀ w:World,F.B.os w.os→F.B.os w.later.os)(ho:ops[i]? = some o)(hw:cM ops st o=some true)(gj:(c.kind == CallKind.early)=false)(au:o.op = .call ⟨.value (.func f),as,iT⟩)(hf:gM F.P f Extern.OsHooks.nano)(hq:(F.P.funcs[f]?).any (·.norace)=true)(ha:ji st as.toList=some vs)(hd:cj o.dst c.n)
  (hT:T ≠ .us∧T ≠ .d4) (j7:FQ F T #[])
  (h:ri F.N T→∀ z:Int,∃ T',(∀ s,dp T s T' s)∧zP F j T T'∧∀ aW,cX c.n (cx o.dst (.int .i64 z) st) aW→yv F (KW F n k) k j T T' R H (aV (aU c aW (.inRegion ops rest::kk)) c.cs)) :
  ∀ tmps,cX c.n st tmps→KW F (n+1) k j T R H (aV (aU c tmps (.inRegion ops (i::rest)::kk)) c.cs):=by
 intro tmps ht ot
 refine ⟨rfl,rfl,λ e=>by rcases e with e | e; exact absurd e hT.1; exact absurd e hT.2,λ w s yN bp yR mD=>.inr ?_⟩
 obtain ⟨T',h1,h2,h3⟩:=h ot ((w.os.mono+w.tick:Nat):Int)
 exact ⟨_,w.later,#[],T',s,h1 s,h2,j7,aJG ho hw gj au hf hq ht ha,cB.later bp (hB w),h3 _ (ht.put _ hd)⟩
end
section
variable {F:Fx} {c:Ctx} {R:az} {H:ah} {st:St} {todo:List Item} {n k j:Nat} {T T':Lp} {T0:Mp}
theorem U.aJI(h:∀ m,m < n→∀ tmps,cX c.n st tmps→KW F (m+1) k j T R H (aV (aU c tmps todo) c.cs)):U (Mz F.P F.B false (KW F n k j T)) c R H st todo:=λ tmps ht=>by
 cases n with
 | zero=>exact Own.stop _ _ _ _ trivial
 | succ n=>exact Own.stop _ _ _ _ (h n (Nat.lt_succ_self n) tmps ht)
theorem U.aJH(h:∀ m,m < n→∀ tmps,cX c.n st tmps→KM F (m+1) T0 R H (aV (aU c tmps todo) c.cs)):U (Mz F.P F.B true (KM F n T0)) c R H st todo:=λ tmps ht=>by
 cases n with
 | zero=>exact Own.stop _ _ _ _ trivial
 | succ n=>exact Own.stop _ _ _ _ (h n (Nat.lt_succ_self n) tmps ht)
theorem py(h:T ≠ .ue):zP F j T T':=by unfold zP; split <;> first | trivial | exact absurd rfl h
theorem aun(c:Lc):hd c = .sq c∨hd c = .c2 c:=by unfold hd; split; exact .inl rfl; exact .inr rfl
theorem aJo(c:Lc):jC c = .c1 c∨jC c = .r1 c:=by unfold jC; split; exact .inl rfl; exact .inr rfl
theorem azB(m:Wd):hu m = .ue∨hu m = .uc m:=by unfold hu; split; exact .inl rfl; exact .inr rfl
theorem QS{K:Nat→Lp→az→ah→Goroutine→Prop}{c:Lc}{g:Goroutine}(h:Own F.P F.B false (K j (hd c)) R H g):yv F K k j T (hd c) R H g:=by rcases aun c with e | e <;> rw [e] at h ⊢ <;> exact h
theorem aGY{K:Nat→Lp→az→ah→Goroutine→Prop}{c:Lc}{g:Goroutine}(h:Own F.P F.B false (K j (jC c)) R H g):yv F K k j T (jC c) R H g:=by rcases aJo c with e | e <;> rw [e] at h ⊢ <;> exact h
theorem ah1{K:Nat→Lp→az→ah→Goroutine→Prop}{m:Wd}{g:Goroutine}(h:Own F.P F.B false (K j (hu m)) R H g):yv F K k j T (hu m) R H g:=by rcases azB m with e | e <;> rw [e] at h ⊢ <;> exact h
end
section
variable {P:Program} {B:Base} {main:Bool} {ab:Jd P B main} {c:Ctx} {R:az} {H:ah} {st st':St} {k:List Item} {ops:Array Oper} {i:Nat} {rest:List Nat} {o:Oper} {f:FuncId} {as:Array Operand} {iT:Array TypeId} {e:Array Value→Sem Value} {vs:List Value} {v:Value}
theorem U.ext(ho:ops[i]? = some o)(hw:cM ops st o=some true)(gj:(c.kind == CallKind.early)=false)(au:o.op = .call ⟨.value (.func f),as,iT⟩)(hd:cj o.dst c.n)(hf:gM P f e)(ha:ji st as.toList=some vs)
  (hE:∀ w,nG P (e vs.toArray) f w v w #[]) (hs:aI (cx o.dst v st) st') (h:U ab c R H st' (.inRegion ops rest::k)):U ab c R H st (.inRegion ops (i::rest)::k):=λ _ ht =>
 Jd.ctl rfl (λ w=>MT ho hw gj au hf ht ha (hE w)) (h _ ((ht.put v hd).sub hs))
theorem UW{w:World}:nG P (pure v) f w v w #[]:=⟨rfl,rfl,by simp⟩
theorem U.join{x:Operand}{th el:Code}{b:Bool}(hx:bj st x=some (.bool b))(h1:b=true→U ab c R H st' k→U ab c R H st (.code th::k))(h2:b=false→U ab c R H st' k→U ab c R H st (.code el::k))(h:U ab c R H st' k):U ab c R H st (.code (.cond x th el)::k):=by
 cases b
 ·exact U.eF hx rfl (h2 rfl h)
 ·exact U.fI hx rfl (h1 rfl h)
theorem U.head{X:Type}{Jn:Nat→X→Jd P B main}{S:X→St}{ok:X→Prop}{todo:List Item}(step:∀ n,(∀ m,m < n→∀ x,ok x→U (Jn m x) c R H (S x) todo)→∀ x,ok x→U (Jn n x) c R H (S x) todo)(n:Nat)(x:X)(hx:ok x):U (Jn n x) c R H (S x) todo:=by
 induction n using Nat.strongRecOn generalizing x with
 | _ n ih=>exact step n (λ m hm x hx=>ih m hm x hx) x hx
end
open Go.ChangeShapes Go.RowKit
open Go.ConcM (OsLater)
section
variable {P:Program} {B:Base} {PW:Value→World→Prop} {R:az} {H:ah} {st:St} {k:List Item}
theorem jg.aoQ{g:Goroutine}(hs:g.status = .running)(h:∀ w,Fits B R H w→∃ v w' es R' H',stepG P true g w = .ended (.done v) w' es∧(∀ e∈es,iD R H w.heap.size w'.heap.size e)∧gf B R H w R' H' w'∧PW v w'):jg P B PW R H g:=by
 refine jg.pick hs λ gs w sl rq d t q dd h0 hA cU=>?_
 obtain ⟨v,w',es,R',H',h1,h2,hu,h3⟩:=h _ hA.fits
 have Kw:=runT_many_ended (P:=P) (sl:=rq) (i:=0) h0 (show stepG P (0 == 0) g (w.at d)=_ from h1)
 have Pw:=MA hA.mem aaM aaL hA.tr (i:=0) rfl (.inl rfl) h2 (.inl rfl) hu g.frame.fn g.frame.place
 rw [QZ] at Pw
 refine lF.end (cU.trans Kw) ⟨v,rfl,h3,Pw.2.clean,Pw.2.handed,⟨λ x hx=>?_,rfl⟩,λ j x hx hj=>?_⟩
 ·obtain ⟨j,hj⟩:=List.mem_iff_getElem?.1 hx
  rw [List.getElem?_drop] at hj
  exact ⟨_,(hA.lv (1+j) x (by omega) (by simpa [Go.Conc.crowd] using hj)).leaves⟩
 ·have hq:=hA.lv j x (by omega) hx
  refine ⟨q j,?_⟩
  have e:Trace.deaf _ j _=dd j:=Pw.2.deaf j
  rw [e]
  exact hq.hears _
def NJ(P:Program)(B:Base)(PW:Value→World→Prop)(f:FuncId)(args:Array Value)(R:az)(H:ah)(Post:Value→az→ah→Prop):Prop :=
 (∀ v R' H' w,Post v R' H'→Fits B R' H' w→PW v w)→jg P B PW R H (aV (Frame.enter P f args .normal) [])
theorem NJ.oC{f:FuncId}{fn:Func}{body:Code}{args:List Value}{n:Nat}{Post:Value→az→ah→Prop}(hf:P.funcs[f]? = some fn)(hb:fn.body=some body)(qd:fn.ntmps=n)(hn:Nat.ble args.length n=true)
  (h:(∀ v R' H' w,Post v R' H'→Fits B R' H' w→PW v w)→U (Ev P B PW) ⟨f,.normal,none,n,[],[]⟩ R H (uL 0 args) [.code body]):NJ P B PW f args.toArray R H Post:=by
 subst qd
 intro hk
 have hn:args.length≤fn.ntmps:=by simpa [Nat.ble_eq] using hn
 have:=h hk (args.toArray++Array.replicate (fn.ntmps - args.length) undef) ⟨by simp; omega,λ t v ht=>?_⟩
 ·have e:Frame.enter P f args.toArray .normal=aU ⟨f,.normal,none,fn.ntmps,[],[]⟩ (args.toArray++Array.replicate (fn.ntmps - args.length) undef) [.code body]:=by
   simp [Frame.enter,aU,hf,hb]
  rw [e]
  exact this
 ·obtain ⟨_,h2⟩:=IU args 0 t v ht
  have bK:t < args.length:=by
   have:=(iC.1 h2).1
   simpa using this
  rw [Array.getElem?_append_left (by simpa using bK)]
  simpa using h2
theorem U.zF{H':ah}{f:FuncId}{n:Nat}{fn:Func}{vs:List Value}{Post:Value→az→ah→Prop}(hf:P.funcs[f]? = some fn)(hi:P.inits.idxOf? f=none)(hr:pP P R H st fn.results.toList vs)(hs:List.Sublist H' H)
  (hk:∀ v R' H' w,Post v R' H'→Fits B R' H' w→PW v w) (hp:Post (iM vs) R H'):U (Ev P B PW) ⟨f,.normal,none,n,[],[]⟩ R H st (.code .ret::k):=λ tmps ht=>by
 refine Jd.ctl (g':=aV { (aU ⟨f,.normal,none,n,[],[]⟩ tmps (.code .ret::k)) with mode:=.returning } []) rfl (λ w=>by simp [stepG,stepG.exec,aV,aU])
  (jg.aoQ rfl λ w hw=>?_)
 obtain ⟨v,w',R',H2,h1,h2,h3,rfl,rfl,rfl⟩:=Rz (P:=P) ht hr w hw
 refine ⟨iM vs,w',seen P f ((results fn tmps).events P w #[]),_,_,?_,λ e he=>h2 e (mem_seen he),h3,hk _ _ _ _ hp (RO hs h3.fits).fits⟩
 simp [stepG,unwind,doReturn,aV,aU,hf,h1,GStep.after,hi]
end
def rW(W:World):az:=λ b=>W.heap[b]?
def FI(W:World):Base:=⟨OsLater W.os,W.tape,W.output⟩
theorem aup(W:World):Fits (FI W) (rW W) [] W:=⟨λ _ _ h=>h,by simp,by simp,by simp,OsLater.refl _,rfl,rfl⟩
theorem anT{W w:World}(h:(FI W).os w.os):(FI W).os w.later.os:=OsLater.trans h ⟨w.tick,rfl⟩
theorem aGS{P:Program}{PW:Value→World→Prop}{W:World}{g:Goroutine}(h:jg P (FI W) PW (rW W) [] g) :
  ∃ M last o w' t',runNT P (M+1) (solo g W) #[]=(.ended o w',t')∧runN P M (solo g W) = .next last∧step P last = .ended o w'∧Conc.Good P PW last o w' t':=by
 have nt:∀ k a,touchAt (#[]:Trace) k=some a→False:=λ k a hk=>by simp [touchAt,Trace.act?] at hk
 refine h #[g] W none #[] (λ _=>0) (λ _=>0) rfl ⟨⟨λ i x hx=>?_,λ i j x y rY hx hy=>?_,by simp,by simp⟩,⟨λ i x hx b o hb k a hk=>(nt k a hk).elim,λ i x hx b o hb k a hk=>(nt k a hk).elim,λ b hb=>(by cases hb),λ b hb=>(by cases hb),by simp,λ k a hk=>(nt k a hk).elim,λ i=>rfl,λ a i hi=>(by simp [Trace.act?] at hi),λ said=>?_,λ k a hk=>(nt k a hk).elim⟩,rfl,λ _ _=>rfl,λ i g' hi hg=>?_⟩
 ·unfold only at hx
  split at hx
  ·cases hx; exact aup W
  ·cases hx
 ·unfold only at hx hy
  split at hx
  ·split at hy
   ·omega
   ·cases hy
  ·cases hx
 ·rintro ⟨i,j,_,⟨a,b,h1,_⟩,_⟩
  exact nt i a h1
 ·have:i < 1:=(Array.getElem?_eq_some_iff.1 hg).1
  omega
theorem anU{W w:World}{R:az}{H:ah}(h:Fits (FI W) R H w)(hR:aO (rW W) R):Below W.heap.size W { w with os:=W.os }:=by
 have hb:∀ k,k < W.heap.size→w.heap[k]? = W.heap[k]? := λ k hk=>by
  have e:W.heap[k]? = some W.heap[k]:=qG hk
  rw [e]
  exact h.r k _ (hR k _ e)
 refine ⟨rfl,h.tape,h.out,?_,hb⟩
 by_cases hz:W.heap.size=0
 ·omega
 ·have h1:=hb (W.heap.size - 1) (by omega)
  rw [qG (xs:=W.heap) (by omega)] at h1
  have:=(Array.getElem?_eq_some_iff.1 h1).1
  show W.heap.size≤w.heap.size
  omega
structure im (P:Program) (t:TypeId) {α:Type} (C:cG α) (k:Nat):Prop where
 size:P.cellsOf t=k
 rd:∀ (W:World) (T:Type) (enc:TypeId × Value→T) (sp:Nat→Bool) (held:Bool) (fuel:Nat) (cs:List Value) (x:DataW T × List MemPlace),DataW.trod enc P W 0 sp held fuel t cs=some x→cs.length=k∧∃ a,C (rW W) a cs
theorem im.int{P:Program}{t:TypeId}{kd:IntKind}(hs:P.cellsOf t=1)(ht:P.underlying t=some (.int kd)):im P t (CI kd) 1:=⟨hs,λ W T enc sp held fuel cs x h=>by
 obtain ⟨n,rfl,_,_⟩:=DataW.trod_int ht h
 exact ⟨rfl,n,rfl⟩⟩
theorem im.str{P:Program}{t:TypeId}(hs:P.cellsOf t=1)(ht:P.underlying t=some .string):im P t CS 1:=⟨hs,λ W T enc sp held fuel cs x h=>by
 obtain ⟨s,rfl,_,_⟩:=DataW.trod_string ht h
 exact ⟨rfl,s,rfl⟩⟩
theorem amF(a:Addr)(i j:Nat)(h:a.spot=none):(a.add i).add j=⟨a.block,a.off+(i+j),none⟩:=by
 obtain ⟨b,o,s⟩:=a
 cases h
 rw [s7,s7,Nat.add_assoc]
theorem im.slice{P:Program}{t e:TypeId}{α:Type}{C:cG α}{k:Nat}(hs:P.cellsOf t=1)(ht:P.underlying t=some (.slice e))(hk:0 < k)(he:im P e C k):im P t (cq C k) 1:=⟨hs,λ W T enc sp held fuel cs x h=>by
 rcases DataW.trod_slice ht h with ⟨rfl,_⟩ | ⟨a,len,cap,elems,rest,n,_,rfl,_,_,hl,_,hlen,l6,_⟩
 ·exact ⟨rfl,[],_,rfl,aa.nil⟩
 refine ⟨rfl,?_⟩
 rw [he.size] at l6
 have each:∀ i:Fin len,∃ (p:α × List Value),C (rW W) p.1 p.2∧p.2.length=k∧∀ j w,p.2[j]? = some w→W.cell? ((a.add (i * k)).add j)=some w:=λ i=>by
  have h1:=l6 i i.2
  rw [oa (by omega),Option.bind_eq_some_iff] at h1
  obtain ⟨ch,h2,h3⟩:=h1
  obtain ⟨h4,y,hy⟩:=he.rd _ _ _ _ _ _ _ _ h3
  refine ⟨(y,ch),hy,h4,λ j w hj=>?_⟩
  have h5:=(World.cells?_some h2).2.2 j (by have:=(iC.1 hj).1; simp only at this; omega)
  rw [h5]
  exact hj
 have agk:0 < len→a.spot=none:=λ jv=>by
  obtain ⟨p,_,h2,h3⟩:=each ⟨0,jv⟩
  have h4:=h3 0 p.2[0] (oa (by omega))
  simpa [Addr.add] using World.cell?_spot h4
 let f:Fin len→α × List Value:=λ i=>(each i).choose
 have hf:∀ i,_:=λ i=>(each i).choose_spec
 let xs:List α:=List.ofFn λ i=>(f i).1
 let es:List Value:=(List.range (len * k)).map λ m=>(W.cell? ⟨a.block,a.off+m,none⟩).getD undef
 have Qb:xs.length=len:=by simp [xs]
 have cell:∀ i j w (hi:i < len),(f ⟨i,hi⟩).2[j]? = some w→W.cell? ⟨a.block,a.off+(i * k+j),none⟩=some w:=λ i j w hi hj=>by
  have:=(hf ⟨i,hi⟩).2.2 j w hj
  rwa [amF _ _ _ (agk (by omega))] at this
 have idx:∀ i j,i < len→j < k→i * k+j < len * k:=λ i j hi hj=>by
  have:(i+1) * k≤len * k:=Nat.mul_le_mul_right k hi
  rw [Nat.add_mul] at this
  omega
 refine ⟨xs,_,rfl,some a,cap,es,by rw [Qb],⟨by simp [es,Qb],λ i x hx=>?_⟩,by omega,λ eP=>?_⟩
 ·have hi:i < len:=by rw [← Qb]; exact (iC.1 hx).1
  have hxe:x=(f ⟨i,hi⟩).1:=by
   simp only [xs,List.getElem?_ofFn,hi,dif_pos,iS] at hx
   exact hx.symm
  subst hxe
  refine ⟨(f ⟨i,hi⟩).2,(hf ⟨i,hi⟩).1,(hf ⟨i,hi⟩).2.1,λ j w hj=>?_⟩
  have nW:j < k:=by have:=(iC.1 hj).1; rw [(hf ⟨i,hi⟩).2.1] at this; exact this
  simp only [es,List.getElem?_map,List.getElem?_range (idx i j hi nW),Option.map_some,cell i j w hi hj,oT]
 ·have jv:0 < len:=by rw [← Qb]; exact List.length_pos_iff.2 eP
  obtain ⟨b,o,s⟩:=a
  obtain rfl:s=none:=agk jv
  have all:∀ m,m < len * k→∃ w,W.cell? ⟨b,o+m,none⟩=some w:=λ m hm=>by
   have hi:m / k < len:=Nat.div_lt_of_lt_mul (by rw [Nat.mul_comm]; exact hm)
   have hj:m % k < (f ⟨m / k,hi⟩).2.length:=by rw [(hf ⟨m / k,hi⟩).2.1]; exact Nat.mod_lt _ hk
   have:=cell (m / k) (m % k) _ hi (oa hj)
   rw [show m / k * k+m % k=m by rw [Nat.mul_comm]; exact Nat.div_add_mod m k] at this
   exact ⟨_,this⟩
  have h0:∃ arr e fz,W.heap[b]? = some (.cells arr e fz):=by
   obtain ⟨w,hw⟩:=all 0 (Nat.mul_pos jv hk)
   unfold World.cell? at hw
   simp only at hw
   split at hw
   ·rename_i c e' fz hb
    exact ⟨c,e',fz,hb⟩
   ·cases hw
  obtain ⟨arr,e',fz,hb⟩:=h0
  refine ⟨b,o,arr,e',fz,rfl,hb,λ j w hj=>?_⟩
  have yP:j < len * k:=by have:=(iC.1 hj).1; simpa [es] using this
  obtain ⟨w',PY⟩:=all j yP
  simp only [es,List.getElem?_map,List.getElem?_range yP,Option.map_some,PY,oT,iS] at hj
  subst hj
  simpa [World.cell?,hb] using PY⟩
theorem im.field{P:Program}{t:TypeId}{α:Type}{C:cG α}{k:Nat}(hC:im P t C k){W:World}{T:Type}{enc:TypeId × Value→T}{sp:Nat→Bool}{held:Bool}{n:Nat}{cs:List Value}{xs:List (DataW T × List MemPlace)}{i m:Nat}{f:Field}(es:List Value)(hx:xs.length=m)
  (h:DataW.trod enc P W 0 sp held n f.type ((cs.drop f.offset).take (P.cellsOf f.type))=xs[i]?) (hi:Nat.blt i m=true:=by rfl) (hf:f.type=t:=by rfl) (he:(cs.drop f.offset).take k=es:=by rfl):∃ a,C (rW W) a es:=by
 rw [hf,hC.size,he,oa (by rw [hx]; simpa [Nat.blt_eq] using hi)] at h
 exact (hC.rd _ _ _ _ _ _ _ _ h).2
theorem ajo{T:Type}{enc:TypeId × Value→T}{P:Program}(hl:laidOutB P=true){W W':World}(hb:Below W.heap.size W W') :
  ∀ {ts:List TypeId} {vs:List Value} {ds:List (DataW T)} {ps:List MemPlace},(ts.all λ t=>P.readableRec t && decide (t < P.types.size))=true→DataW.TrodAll enc P W 0 (λ _=>true) true ts vs ds ps→(∀ x∈ps,x.block < W.heap.size) →
   DataW.TrodAll enc P W' 0 (λ b=>decide (b < W.heap.size)) true ts vs ds ps
 | [],[],[],_,_,h,_=>h
 | t::ts,v::vs,d::ds,_,hr,⟨p,q,h1,h2,e⟩,bK=>by
  subst e
  simp only [List.all_cons,fy,decide_eq_true_eq] at hr
  exact ⟨p,q,Below.trod hl hr.1.1 hr.1.2 h1 hb (λ x hx=>bK x (by simp [hx])),ajo hl hb hr.2 h2 (λ x hx=>bK x (by simp [hx])),rfl⟩
 | [],[],_::_,_,_,h,_=>h.elim
 | [],_::_,_,_,_,h,_=>h.elim
 | _::_,[],_,_,_,h,_=>h.elim
 | _::_,_::_,[],_,_,h,_=>h.elim
theorem aK5{T:Type}{enc:TypeId × Value→T}{C:Checked}{os:Os}{f:FuncId}{fn:Func}{s:ChangeSpec}{conds:List PathCond}{apart:Bool}{X:World→Array Value→Prop}(w0:World)(args:Array Value)(fuel:Nat)(yR:w0.os=os)
  (bp:(w0.forCall (λ _ _=>0) ⟨#[],args,[]⟩).Shaped C.prog)
  (gQ:Input.okWideB C.prog (w0.forCall (λ _ _=>0) ⟨#[],args,[]⟩) f ⟨#[],args,[]⟩=true)
  (Xe:s.preB enc C.prog fn conds apart (w0.forCall (λ _ _=>0) ⟨#[],args,[]⟩).memory args fuel=true)
  (fX:s.sizedB enc C.prog fn apart (w0.forCall (λ _ _=>0) ⟨#[],args,[]⟩).memory args fuel=true)
  (hx:X (w0.forCall (λ _ _=>0) ⟨#[],args,[]⟩).memory args) :
  ∃ (w:World) (tape:Tape) (i:Input),w.os=os∧(w.forCall tape i).Shaped C.prog∧i.vars=[]∧Input.okWide C.prog (w.forCall tape i) .any w.heap.size f i ∧
   ((s.pre enc C.prog fn conds apart (w.forCall tape i).memory i.args∧X (w.forCall tape i).memory i.args)∧sizedMet enc C.prog fn (OpenSpec.ofChange s) apart (w.forCall tape i).memory i.args)∧({ calm:=true }:Assume).holds C.prog (lone (Frame.enter C.prog f i.args .normal) [] (w.forCall tape i)) :=
 ⟨w0,λ _ _=>0,⟨#[],args,[]⟩,yR,bp,(Input.okWide_of_okWideB (base:=0) gQ).1,(Input.okWide_of_okWideB gQ).2,⟨⟨ChangeSpec.pre_of_preB Xe,hx⟩,sizedMet_of_sizedB fX⟩,by
  simp only [Assume.holds]
  exact ⟨by simp,λ _ _ _ _=>rfl,by simp,by simp,by simp⟩⟩
theorem aD7{T:Type}{enc:TypeId × Value→T}{a:Assume}{C:Checked}{os:Os}{f:FuncId}{fn:Func}{s:ChangeSpec}{F:Stop.Interp}{conds:List PathCond}{apart fresh handsOn:Bool}{X:World→Array Value→Prop}
  (hX:∀ (w w':World) (args:Array Value),w.heap=w'.heap→X w args→X w' args)
  (own:ownKnob C.prog.godebug=none) (started:os.Started) (Wx:C.prog.funcs[f]? = some fn)
  (witness:∃ (w:World) (tape:Tape) (i:Input),w.os=os∧(w.forCall tape i).Shaped C.prog∧i.vars=[]∧Input.okWide C.prog (w.forCall tape i) .any w.heap.size f i ∧
   ((s.pre enc C.prog fn conds apart (w.forCall tape i).memory i.args∧X (w.forCall tape i).memory i.args)∧sizedMet enc C.prog fn (OpenSpec.ofChange s) apart (w.forCall tape i).memory i.args)∧a.holds C.prog (lone (Frame.enter C.prog f i.args .normal) [] (w.forCall tape i)))
  (runs:∀ (W:World) (base:Nat) (args:Array Value) (ds gs:List (DataW T)) (before:List MemPlace),
   (∀ (j:Nat) t v,fn.params[j]? = some t→args[j]? = some v→Value.okWide C.prog W .any base t v) →
   DataW.Whole enc C.prog fn.params.toList s.vars apart W args.toList ds gs before→X W args →
   ∃ M last o w' t',runNT C.prog (M+1) (solo (aV (Frame.enter C.prog f args .normal) []) W) #[]=(.ended o w',t')∧runN C.prog M (solo (aV (Frame.enter C.prog f args .normal) []) W) = .next last ∧
    Go.step C.prog last = .ended o w'∧Conc.Good C.prog (λ v W'=>s.post enc C.prog fn apart fresh handsOn false W args v { W' with os:=W.os }∧OsLater W.os W'.os) last o w' t') :
  ReturnsInLeavingWide a C os f .any (λ w args=>(s.pre enc C.prog fn conds apart w args∧X w args)∧sizedMet enc C.prog fn (OpenSpec.ofChange s) apart w args) ((OpenSpec.ofChange s).postWith enc C.prog fn F (outsideKept [.timePasses]) apart fresh handsOn):=by
 refine returnsInLeavingWide_of_good own started witness ?_
 intro w tape i _ _ _ gQ Xe _
 obtain ⟨_,_,_,FU,auJ,_,_,_,_,PX⟩:=gQ
 have e:FU=fn:=lV (auJ.symm.trans Wx)
 subst e
 obtain ⟨⟨⟨ds,gs,before,hw,hc⟩,hx⟩,_⟩:=Xe
 have PY:=DataW.Whole.of_heap (w':=w.forCall tape i) (by rfl) hw
 obtain ⟨M,last,o,w',t',h1,h2,h3,h4⟩:=runs (w.forCall tape i) w.heap.size i.args ds gs before PX PY (hX _ _ _ (by rfl) hx)
 exact ⟨M,last,o,w',t',h1,h2,h3,h4.mono λ v hp=>postWith_blind (postWith_of_post hp.1 hp.2)⟩
theorem aH5{T:Type}{enc:TypeId × Value→T}{P:Program}{fn:Func}{s:ChangeSpec}{apart fresh handsOn again:Bool}{W w:World}{args:Array Value}{ds gs:List (DataW T)}{before:List MemPlace}{tb:TypeId}
  (hl:laidOutB P=true) (hr:(fn.params.toList.all λ t=>P.readableRec t && decide (t < P.types.size))=true) (hv:s.vars=[]) (awW:fn.resultTypes=#[tb]) (htb:P.underlying tb=some .bool)
  (hW:DataW.Whole enc P fn.params.toList s.vars apart W args.toList ds gs before) (hag:again=false) (hb:Below W.heap.size W w)
  (h1:(s.fn T (ds++[])).results=[.lit (.bool true)]) (h2:(s.fn T (ds++[])).args=ds) (h3:(s.fn T (ds++[])).vars=[]):s.post enc P fn apart fresh handsOn again W args (.bool true) w:=by
 have O8:=hW
 have bK:∀ x∈before,x.block < W.heap.size:=λ x hx=>by simpa using O8.lt x hx
 obtain ⟨p,q,hA,hV,e,_,_⟩:=hW
 rw [hv] at hV
 obtain ⟨e1,e2⟩:=trodVars_none hV
 subst e1 e2 e
 refine ⟨ds,[],p++[],[],p,[],O8,?_,?_,by rw [hv,h3]; rfl,hb.frame _,λ h=>by rw [hag] at h; cases h⟩
 ·rw [h1,awW]
  exact trodAll_mk1 (shut_bool htb true)
 ·rw [h2]
  exact ajo hl hb hr hA (λ x hx=>bK x (by simp [hx]))
theorem aok{W:World}{b o:Nat}{v:Value}(h:W.cell? ⟨b,o,none⟩=some v):Cell (rW W) [] ⟨b,o,none⟩ v:=by
 unfold World.cell? at h
 simp only at h
 split at h
 ·rename_i c e fz hb
  exact ⟨rfl,c,e,fz,.inl hb,by simpa using h⟩
 ·cases h
end Go.Lg
