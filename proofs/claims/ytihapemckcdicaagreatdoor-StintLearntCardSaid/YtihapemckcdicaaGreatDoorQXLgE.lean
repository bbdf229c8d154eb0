/- What enters and leaves the machine; the run of a row. Conditions: none. -/
import Derived.Test.YtihapemckcdicaaGreatDoorQXLgC
import Derived.Test.YtihapemckcdicaaGreatDoorQXLgB
import Derived.Test.YtihapemckcdicaaGreatDoorQXLgD
import Derived.Conc.AtomicLaws2
import Derived.Conc.ClockLaws
import Derived.Conc.EventLaws
import Derived.Laws.LoneSync
import Derived.Conc.SmallLaws
import Derived.Conc.LeavingOf
import Derived.Conc.HoldsTime
import Derived.Handed
import Derived.LaidMore
import Derived.Below
import Derived.Carry
import Derived.SizedLaws
namespace Go.Lg
open Go.Conc Go.ConcN
structure gT (P:Program) (f:FuncId) (e:Array Value→Sem Value):Prop where
 ex:∃ fn,P.funcs[f]? = some fn∧(fn.name == "runtime.NumGoroutine")=false∧fn.body.isNone=true∧Extern.findNext fn=none∧Extern.find fn=some e
def nT(P:Program)(s:Sem Value)(f:FuncId)(w:World)(v:Value)(w':World)(nB:Array Event):Prop :=
 s.run P w = .ok v w'∧s.events P w #[⟨.mark (.extern f),false,true⟩]=#[⟨.mark (.extern f),false,true⟩]++nB∧∀ x∈nB,x.sync=true∧∀ g,x.loc ≠ .mark (.extern g)
section
variable {P:Program} {main:Bool} {c:Ctx} {st:St} {k:List Item} {ops:Array Oper} {i:Nat} {rest:List Nat} {o:Oper} {f:FuncId} {as:Array Operand} {ji:Array TypeId} {e:Array Value→Sem Value} {vs:List Value} {tmps:Array Value} {w w':World} {v:Value} {nB:Array Event}
theorem Hj{tmps:Array Value}(an:o.op = .call ⟨.value (.func f),as,ji⟩)(ht:dh c.n st tmps)(ha:jG st as.toList=some vs):execOp (aX c tmps (.inRegion ops (i::rest)::k)).eval o=callFunc f vs.toArray:=by
 have hk:=ht.knows c (.inRegion ops (i::rest)::k)
 have ef:(aX c tmps (.inRegion ops (i::rest)::k)).eval (.func f) = .func (.func f) #[] #[]:=rfl
 have e2:as.map (aX c tmps (.inRegion ops (i::rest)::k)).eval=vs.toArray:=by apply Array.ext'; simpa using DG hk _ _ ha
 unfold execOp
 simp [an,resolve,Deferred.ofValue,invoke,ef,e2]
theorem Nm(ho:ops[i]? = some o)(hw:cY ops st o=some true)(gw:(c.kind == CallKind.early)=false)(an:o.op = .call ⟨.value (.func f),as,ji⟩)(hf:gT P f e)(ht:dh c.n st tmps)(ha:jG st as.toList=some vs)(hE:nT P (e vs.toArray) f w v w' nB) :
  stepG P main (aY (aX c tmps (.inRegion ops (i::rest)::k)) c.cs) w = .go (aY (aX c (gd o.dst v tmps) (.inRegion ops rest::k)) c.cs) w' nB:=by
 obtain ⟨fn,h1,h2,h3,h4,h5⟩:=hf.ex
 obtain ⟨lf,kM,hs⟩:=hE
 rw [qS ho (lu ht hw) (by rw [an]; rfl),← ru (rest:=rest) (k:=k) (c:=c) (tmps:=tmps) (v:=v) ho,Hj an ht ha]
 have hr:(callFunc f vs.toArray).run P w = .ok (.value v) w':=by rw [run_callFunc_extern h1 h2 h3 h4 h5,lf]; rfl
 rw [DF (by simpa [aX] using gw) hr]
 congr 1
 rw [events_callFunc_extern h1 h2 h3 h4 h5]
 simp only [List.push_toArray,List.nil_append]
 rw [kM,seen_entry _ _ _ hs]
theorem akf(ho:ops[i]? = some o)(hw:cY ops st o=some true)(an:o.op = .call ⟨.value (.func f),as,ji⟩)(hf:gT P f e)(ht:dh c.n st tmps)(ha:jG st as.toList=some vs)(lf:(e vs.toArray).run P w = .halt .blocked w) :
  stepG P main (aY (aX c tmps (.inRegion ops (i::rest)::k)) c.cs) w = .go { aY (aX c tmps (.inRegion ops (i::rest)::k)) c.cs with status:=.blocked } w #[]:=by
 obtain ⟨fn,h1,h2,h3,h4,h5⟩:=hf.ex
 rw [qS ho (lu ht hw) (by rw [an]; rfl),Hj an ht ha]
 have hr:(callFunc f vs.toArray).run P w = .halt .blocked w:=by rw [run_callFunc_extern h1 h2 h3 h4 h5,lf]; rfl
 simp [stepG.apply,hr,aY,GStep.after,seen_none]
theorem aOo(ho:ops[i]? = some o)(an:o.op = .call ⟨.value (.func f),as,ji⟩)(hf:gT P f e):mayWake P (aY (aX c tmps (.inRegion ops (i::rest)::k)) c.cs)=true:=by
 obtain ⟨fn,h1,_,h3,_⟩:=hf.ex
 have h3':fn.body.isSome=false:=by cases hb:fn.body <;> simp_all
 simp [mayWake,aY,aX,ho,an,Frame.eval,h1,h3']
end
section
variable {P:Program} {f:FuncId} {w:World} {ad:Addr} {k:IntKind}
theorem sb{m:Mark}(hm:∀ g,m ≠ .extern g):nT P (do mark m; pure Extern.Race.none_) f w (.tuple #[]) w (said m) :=
 ⟨by simp [Extern.Race.none_],by simp [said],λ x hx=>by
  simp [said] at hx; subst hx; exact ⟨rfl,λ g h=>hm g (by cases h; rfl)⟩⟩
theorem DN{mk:Addr→Mark}(hm:∀ ad g,mk ad ≠ .extern g){vs:List Value}(hv:vs[0]? = some (.pointer (some ad))):nT P (Extern.Race.marked mk vs.toArray) f w (.tuple #[]) w (said (mk ad)) :=
 ⟨by simp [Extern.Race.marked,Extern.Race.at_,hv,Extern.Race.none_],by simp [Extern.Race.marked,Extern.Race.at_,hv,said],λ x hx=>by
  simp [said] at hx; subst hx; exact ⟨rfl,λ g h=>hm ad g (Loc.mark.inj h)⟩⟩
def atR(ad:Addr):Array Event:=#[⟨.cell ad,false,true⟩]
def Ka(ad:Addr):Array Event:=#[⟨.cell ad,true,true⟩]
def Oz(ad:Addr):Array Event:=#[⟨.cell ad,false,true⟩,⟨.cell ad,true,true⟩]
theorem He{v n:Int}(hc:w.cell? ad=some (.int k v))(hz:w.frozen? ad=false):nT P (Extern.Atomic.casT (.int k) #[.pointer (some ad),.int k v,.int k n]) f w (.bool true) (w.setCell ad (.int k n)) (Oz ad) :=
 ⟨by rw [casT_eq]; exact run_cas_hit_entry hc hz,by rw [casT_eq,events_cas_hit_entry hc hz]; rfl,sync_rw ad⟩
theorem Ky{v old n:Int}(hc:w.cell? ad=some (.int k v))(hz:w.frozen? ad=false)(da:¬ v=old):nT P (Extern.Atomic.casT (.int k) #[.pointer (some ad),.int k old,.int k n]) f w (.bool false) w (atR ad) :=
 ⟨by rw [casT_eq]; exact run_cas_miss_entry hc hz da,by rw [casT_eq,events_cas_miss_entry hc hz da]; rfl,sync_r ad⟩
theorem Bq{v d:Int}(hc:w.cell? ad=some (.int k v))(hz:w.frozen? ad=false):nT P (Extern.Atomic.update (Op.intArith .add) k true #[.pointer (some ad),.int k d]) f w (.int k (k.wrap (v+d))) (w.setCell ad (.int k (k.wrap (v+d)))) (Oz ad) :=
 ⟨run_add_entry hc hz,by rw [events_add_entry hc hz]; rfl,sync_rw ad⟩
theorem Pk{v:Int}(hc:w.cell? ad=some (.int k v)):nT P (Extern.Atomic.loadT (.int k) #[.pointer (some ad)]) f w (.int k v) w (atR ad):=by
 have e:Extern.Atomic.loadT (.int k) #[.pointer (some ad)]=(do Extern.Atomic.read (.int k) (← asAddr (.pointer (some ad)))):=rfl
 refine ⟨?_,?_,sync_r ad⟩
 ·rw [e]; simp [Extern.Atomic.read,asAddr,hc]
 ·rw [e]; simp [Extern.Atomic.read,asAddr,hc,events_load,atR]
theorem aqZ{v:Int}{u:Value}(hc:w.cell? ad=some u)(hz:w.frozen? ad=false):nT P (Extern.Atomic.storeT #[.pointer (some ad),.int k v]) f w (.tuple #[]) (w.setCell ad (.int k v)) (Ka ad):=by
 have e:Extern.Atomic.storeT #[.pointer (some ad),.int k v]=(do store (← asAddr (.pointer (some ad))) (.int k v) .atomic; pure Extern.Atomic.none_):=rfl
 refine ⟨?_,?_,λ x hx=>by simp [Ka] at hx; subst hx; exact ⟨rfl,λ g h=>by cases h⟩⟩
 ·rw [e]; simp [asAddr,hc,hz,run_store P w ad (.int k v) .atomic rfl,Extern.Atomic.none_]
 ·rw [e]; simp [asAddr,hc,hz,events_store P w _ ad (.int k v) .atomic rfl,Ka]
theorem afr{n:Int}{vs:List Value}(hv:vs[0]? = some (.pointer (some ad)))(hc:w.cell? ad=some (.int .u32 n))(Ei:n≠0)(hz:w.frozen? ad=false):nT P (Extern.Sync.semacquire vs.toArray) f w (.tuple #[]) (w.setCell ad (.int .u32 (n - 1))) (semEvents ad) :=
 ⟨by simp [Extern.Sync.semacquire,Extern.Sync.count,hv,hc,Ei,hz,Extern.Sync.none_,run_store P w ad (.int .u32 (n - 1)) .atomic rfl,Result.andThen],
  by simp [Extern.Sync.semacquire,Extern.Sync.count,hv,hc,Ei,hz,semEvents,events_load,events_store P w _ ad (.int .u32 (n - 1)) .atomic rfl,run_store P w ad (.int .u32 (n - 1)) .atomic rfl,Result.evThen],semEvents_sync ad⟩
theorem ads{vs:List Value}(hv:vs[0]? = some (.pointer (some ad)))(hc:w.cell? ad=some (.int .u32 0)):(Extern.Sync.semacquire vs.toArray).run P w = .halt .blocked w:=by
 simp [Extern.Sync.semacquire,Extern.Sync.count,hv,hc]
theorem VG{n:Int}{vs:List Value}(hv:vs[0]? = some (.pointer (some ad)))(hc:w.cell? ad=some (.int .u32 n))(hz:w.frozen? ad=false):nT P (Extern.Sync.semrelease vs.toArray) f w (.tuple #[]) (w.setCell ad (.int .u32 (IntKind.u32.wrap (n+1)))) (semEvents ad) :=
 ⟨by simp [Extern.Sync.semrelease,Extern.Sync.count,hv,hc,hz,Extern.Sync.none_,Op.intArith,run_store P w ad (.int .u32 (IntKind.u32.wrap (n+1))) .atomic rfl,Result.andThen],
  by simp [Extern.Sync.semrelease,Extern.Sync.count,hv,hc,hz,semEvents,Op.intArith,events_load,events_store P w _ ad (.int .u32 (IntKind.u32.wrap (n+1))) .atomic rfl,run_store P w ad (.int .u32 (IntKind.u32.wrap (n+1))) .atomic rfl,Result.evThen],semEvents_sync ad⟩
theorem aqY{n:Int}(h4:4≤n):nT P (Extern.Sync.canSpin #[.int k n]) f w (.bool false) w #[] :=
 ⟨by rw [canSpin_eq,if_pos h4]; rfl,by rw [canSpin_eq,if_pos h4]; rfl,by simp⟩
theorem afs{n:Int}(h4:n < 4):nT P (Extern.Sync.canSpin #[.int k n]) f w (.bool w.spins) w.asked #[]:=by
 have h4':¬ (n ≥ 4):=by omega
 exact ⟨by rw [canSpin_eq,if_neg h4']; rfl,by rw [canSpin_eq,if_neg h4']; rfl,by simp⟩
end
section
variable {F:Fx} {s s':Sh} {w:World}
theorem fW.cm(h:fW F s w):w.cell? (am F)=some (.int .i32 s.mu.val):=by simp [World.cell?,am,h.m,qJ]
theorem fW.OZ(h:fW F s w):w.cell? ⟨F.bm,1,none⟩=some (.int .u32 (s.ms:Int)):=by simp [World.cell?,h.m,qJ]
theorem fW.cg(h:fW F s w):w.cell? (aw F)=some (.int .u64 (AG s)):=by simp [World.cell?,aw,h.g,qU]
theorem fW.OX(h:fW F s w):w.cell? (rY F)=some (.int .u32 (s.ws:Int)):=by simp [World.cell?,rY,h.g,qU]
theorem fW.zm(h:fW F s w)(i:Nat):w.frozen? ⟨F.bm,i,none⟩=false:=by simp [World.frozen?,h.m,qJ]
theorem fW.zg(h:fW F s w)(i:Nat):w.frozen? ⟨F.bw,i,none⟩=false:=by simp [World.frozen?,h.g,qU]
theorem cH.refl(h:fW F s w):cH F s w w:=⟨rfl,λ _ _ _=>rfl,h,id,rfl,rfl⟩
theorem cH.asked(h:fW F s w):cH F s w w.asked:=⟨rfl,λ _ _ _=>rfl,⟨h.m,h.g⟩,id,rfl,rfl⟩
theorem cH.later(h:fW F s w)(zf:F.B.os w.os→F.B.os w.later.os):cH F s w w.later:=⟨rfl,λ _ _ _=>rfl,⟨h.m,h.g⟩,zf,rfl,rfl⟩
theorem ajT{w:World}{a:Addr}{cs:Array Value}{t:TypeId}{v:Value}(h:w.heap[a.block]? = some (.cells cs t (0,0)))(ha:a.spot=none):w.setCell a v={ w with heap:=w.heap.setIfInBounds a.block (.cells (cs.setIfInBounds a.off v) t (0,0)) }:=by
 simp only [World.setCell]
 congr 1
 apply Array.ext_getElem?
 intro i
 rw [Array.getElem?_modify]
 by_cases hi:a.block=i
 ·subst hi
  rw [uT (mg h),h]
  simp [ha]
 ·simp [hi,nq hi]
theorem cH.bm{v:Value}{i:Nat}(h:fW F s w)(ho:qJ F.tm s' = .cells (#[.int .i32 s.mu.val,.int .u32 (s.ms:Int)].setIfInBounds i v) F.tm (0,0))(hg:qU F.tw s'=qU F.tw s):cH F s' w (w.setCell ⟨F.bm,i,none⟩ v):=by
 rw [ajT (a:=⟨F.bm,i,none⟩) h.m rfl]
 refine ⟨by simp,λ b h1 h2=>nq (Ne.symm h1),⟨?_,?_⟩,id,rfl,rfl⟩
 ·rw [ho]; exact uT (mg h.m)
 ·rw [hg]
  show (w.heap.setIfInBounds _ _)[F.bw]? = _
  rw [nq F.ho.1]; exact h.g
theorem cH.bw{v:Value}{i:Nat}(h:fW F s w)(ho:qU F.tw s' = .cells (#[.int .u64 (AG s),.int .u32 (s.ws:Int)].setIfInBounds i v) F.tw (0,0))(hg:qJ F.tm s'=qJ F.tm s):cH F s' w (w.setCell ⟨F.bw,i,none⟩ v):=by
 rw [ajT (a:=⟨F.bw,i,none⟩) h.g rfl]
 refine ⟨by simp,λ b h1 h2=>nq (Ne.symm h2),⟨?_,?_⟩,id,rfl,rfl⟩
 ·rw [hg]
  show (w.heap.setIfInBounds _ _)[F.bm]? = _
  rw [nq (Ne.symm F.ho.1)]; exact h.m
 ·rw [ho]; exact uT (mg h.g)
theorem cH.mu{m:Wd}(h:fW F s w):cH F { s with mu:=m } w (w.setCell (am F) (.int .i32 m.val)):=cH.bm h rfl rfl
theorem cH.ms{n:Nat}(h:fW F s w):cH F { s with ms:=n } w (w.setCell ⟨F.bm,1,none⟩ (.int .u32 (n:Int))):=cH.bm h rfl rfl
theorem cH.wg{v u:Nat}(h:fW F s w):cH F { s with v:=v,w:=u } w (w.setCell (aw F) (.int .u64 (4294967296 * v+u))):=cH.bw h rfl rfl
theorem cH.ws{n:Nat}(h:fW F s w):cH F { s with ws:=n } w (w.setCell (rY F) (.int .u32 (n:Int))):=cH.bw h rfl rfl
theorem yQ{a:Addr}(h:a.block=F.bm∨a.block=F.bw):q9 F (atR a):=.inl λ e he=>by simp [atR] at he; subst he; exact ⟨a,false,rfl,h⟩
theorem aoo{a:Addr}(h:a.block=F.bm∨a.block=F.bw):q9 F (Ka a):=.inl λ e he=>by simp [Ka] at he; subst he; exact ⟨a,true,rfl,h⟩
theorem rk{a:Addr}(h:a.block=F.bm∨a.block=F.bw):q9 F (Oz a):=.inl λ e he=>by simp [Oz] at he; rcases he with rfl | rfl <;> exact ⟨a,_,rfl,h⟩
theorem rj:q9 F #[]:=.inl λ e he=>by simp at he
theorem J9{a:Addr}(h:a.block=F.bm∨a.block=F.bw):q9 F (semEvents a):=.inr ⟨a,h,rfl⟩
end
section
variable {F:Fx} {c:Ctx} {R:az} {H:ah} {st:St} {kk:List Item} {ops:Array Oper} {i:Nat} {rest:List Nat} {o:Oper} {f:FuncId} {as:Array Operand} {ji:Array TypeId} {e:Array Value→Sem Value} {vs:List Value} {n k j:Nat} {T:Lp} {T0:Mp}
theorem KW.ext(ho:ops[i]? = some o)(hw:cY ops st o=some true)(gw:(c.kind == CallKind.early)=false)(an:o.op = .call ⟨.value (.func f),as,ji⟩)(hf:gT F.P f e)(ha:jG st as.toList=some vs)(hd:cx o.dst c.n)
  (h:rN F.N T→∀ w s,Fits F.B R H w→fW F s w→FH F.N T s→okW F.N T s →
   ((∃ c,T = .s1 c)∧s.ms=0∧(e vs.toArray).run F.P w = .halt .blocked w) ∨
   ∃ v w' nB T' s',nT F.P (e vs.toArray) f w v w' nB∧dK T s T' s'∧Aq F j T T'∧Hh F T nB∧cH F s' w w'∧∀ aZ,dh c.n (cB o.dst v st) aZ→yO F (KW F n k) k j T T' R H (aY (aX c aZ (.inRegion ops rest::kk)) c.cs)) :
  ∀ tmps,dh c.n st tmps→KW F (n+1) k j T R H (aY (aX c tmps (.inRegion ops (i::rest)::kk)) c.cs):=by
 intro tmps ht ot
 refine ⟨rfl,rfl,λ _=>aOo ho an hf,λ w s zc bp zf mY=>?_⟩
 rcases h ot w s zc bp zf mY with ⟨h1,h2,h3⟩ | ⟨v,w',nB,T',s',hE,h2,h3,h4,h5,h6⟩
 ·exact .inl ⟨h1,h2,akf ho hw an hf ht ha h3⟩
 ·exact .inr ⟨_,w',nB,T',s',h2,h3,h4,Nm ho hw gw an hf ht ha hE,h5,h6 _ (ht.put v hd)⟩
theorem KM.ext(ho:ops[i]? = some o)(hw:cY ops st o=some true)(gw:(c.kind == CallKind.early)=false)(an:o.op = .call ⟨.value (.func f),as,ji⟩)(hf:gT F.P f e)(ha:jG st as.toList=some vs)(hd:cx o.dst c.n)(h1:∀ r,T0 ≠ .go r)(h2:T0 ≠ .wq)
  (h:∀ w s,Fits F.B R H w→fW F s w→pR F.N T0 s→(T0 = .w3∧s.ws=0∧(e vs.toArray).run F.P w = .halt .blocked w) ∨
   ∃ v w' nB T' s',nT F.P (e vs.toArray) f w v w' nB∧gV T0 s T' s'∧DR F T0 nB∧cH F s' w w'∧∀ aZ,dh c.n (cB o.dst v st) aZ→Own F.P F.B true (KM F n T') R H (aY (aX c aZ (.inRegion ops rest::kk)) c.cs)) :
  ∀ tmps,dh c.n st tmps→KM F (n+1) T0 R H (aY (aX c tmps (.inRegion ops (i::rest)::kk)) c.cs):=by
 intro tmps ht
 have key:∀ w s,Fits F.B R H w→fW F s w→pR F.N T0 s→(T0 = .w3∧s.ws=0∧stepG F.P true (aY (aX c tmps (.inRegion ops (i::rest)::kk)) c.cs) w = .go { aY (aX c tmps (.inRegion ops (i::rest)::kk)) c.cs with status:=.blocked } w #[]) ∨
   ∃ g' w' es T' s',gV T0 s T' s'∧DR F T0 es∧stepG F.P true (aY (aX c tmps (.inRegion ops (i::rest)::kk)) c.cs) w = .go g' w' es∧cH F s' w w'∧Own F.P F.B true (KM F n T') R H g':=λ w s zc bp gY=>by
  rcases h w s zc bp gY with ⟨h1,h2,h3⟩ | ⟨v,w',nB,T',s',hE,h3,h4,h5,h6⟩
  ·exact .inl ⟨h1,h2,akf ho hw an hf ht ha h3⟩
  ·exact .inr ⟨_,w',nB,T',s',h3,h4,Nm ho hw gw an hf ht ha hE,h5,h6 _ (ht.put v hd)⟩
 refine ⟨rfl,rfl,?_⟩
 cases T0 <;> first | exact absurd rfl (h1 _) | exact absurd rfl h2 | exact key
theorem KM.acq(ho:ops[i]? = some o)(hw:cY ops st o=some true)(gw:(c.kind == CallKind.early)=false)(an:o.op = .call ⟨.value (.func f),as,ji⟩)(hf:gT F.P f (Extern.Race.marked .acquire))(ha:jG st as.toList=some vs)(hv:vs[0]? = some (.pointer (some (aw F))))(hd:cx o.dst c.n)
  (h:∀ js,(∀ k,k < F.N→js k=F.J)→∀ aZ,dh c.n (cB o.dst (.tuple #[]) st) aZ→F.mj R ((F.bo,F.cont js)::H) (aY (aX c aZ (.inRegion ops rest::kk)) c.cs)) :
  ∀ tmps,dh c.n st tmps→KM F (n+1) .wq R H (aY (aX c tmps (.inRegion ops (i::rest)::kk)) c.cs):=λ tmps ht =>
 ⟨rfl,rfl,λ w s _ bp _=>⟨_,w,Nm ho hw gw an hf ht ha (DN (λ _ _=>by simp) hv),cH.refl bp,λ js iT=>h js iT _ (ht.put _ hd)⟩⟩
end
def uZ(P:Program)(c:Ctx)(o:Oper)(st:St)(v:Value):Prop:=nG o.op=false∧cx o.dst c.n∧∀ ρ,Knows st ρ→ai P (execOp ρ o) (.value v)
section
variable {P:Program} {B:Base} {main:Bool} {ab:Jd P B main} {c:Ctx} {R:az} {H:ah} {st st':St} {k:List Item} {ops:Array Oper} {i:Nat} {rest:List Nat} {o:Oper} {v:Value} {x y z:Operand}
theorem At.val(ho:ops[i]? = some o)(hw:cY ops st o=some true)(hk:(c.kind == CallKind.early)=false)(hv:uZ P c o st v)(hs:aB (cB o.dst v st) st')(h:At ab c R H st' (.inRegion ops rest::k)):At ab c R H st (.inRegion ops (i::rest)::k) :=
 At.jv ho hw hk (Ox.val hv.1 hv.2.1 hv.2.2 hs h)
theorem OV.move(an:o.op = .move x)(hd:cx o.dst c.n)(hx:bl st x=some v):uZ P c o st v:=⟨by rw [an]; rfl,hd,λ ρ bj=>by simp only [execOp,an,bj x v hx]; exact ai.bF _⟩
theorem OV.assign(an:o.op = .assign x)(hd:cx o.dst c.n)(hx:bl st x=some v):uZ P c o st v:=⟨by rw [an]; rfl,hd,λ ρ bj=>by simp only [execOp,an,bj x v hx]; exact ai.bF _⟩
theorem OV.aLI(an:o.op = .pick x y z)(hd:cx o.dst c.n)(hx:bl st x=some (.bool true))(hy:bl st y=some v):uZ P c o st v:=⟨by rw [an]; rfl,hd,λ ρ bj=>by
 simp only [execOp,an,bj x _ hx,bj y v hy,asBool]; exact ai.bL (ai.bF true) (ai.bF _)⟩
theorem OV.aLH(an:o.op = .pick x y z)(hd:cx o.dst c.n)(hx:bl st x=some (.bool false))(hz:bl st z=some v):uZ P c o st v:=⟨by rw [an]; rfl,hd,λ ρ bj=>by
 simp only [execOp,an,bj x _ hx,bj z v hz,asBool]; exact ai.bL (ai.bF false) (ai.bF _)⟩
theorem OV.nilCheck{a:Addr}(an:o.op = .nilCheck x)(hd:cx o.dst c.n)(hx:bl st x=some (.pointer (some a))):uZ P c o st (.pointer (some a)):=⟨by rw [an]; rfl,hd,λ ρ bj=>by
 simp only [execOp,an,bj x _ hx]; exact ai.bL (ai.bF _) (ai.bF _)⟩
theorem OV.fieldAddr{s f off b n:Nat}(an:o.op = .fieldAddr s x f)(hd:cx o.dst c.n)(hx:bl st x=some (.pointer (some ⟨b,n,none⟩)))(hf:gU P s f off):uZ P c o st (.pointer (some ⟨b,n+off,none⟩)):=⟨by rw [an]; rfl,hd,λ ρ bj=>by
 simp only [execOp,an,bj x _ hx]; exact ai.bL (hf b n) (ai.bF _)⟩
theorem OV.bin{bo:BinOp}{t u:TypeId}{ka kb:IntKind}{a b:Int}(an:o.op = .binOp bo t x y u)(hd:cx o.dst c.n)(hx:bl st x=some (.int ka a))(hy:bl st y=some (.int kb b))(hv:ai P (binOp bo t (.int ka a) (.int kb b)) v):uZ P c o st v:=⟨by rw [an]; rfl,hd,λ ρ bj=>by
 simp only [execOp,an,bj x _ hx,bj y _ hy]; exact ai.bL (ai.bL (Da _ _ _ _ _ _ _ _) hv) (ai.bF _)⟩
theorem OV.not{t:TypeId}{a:Bool}(an:o.op = .unOp .not t x)(hd:cx o.dst c.n)(hx:bl st x=some (.bool a)):uZ P c o st (.bool (!a)):=⟨by rw [an]; rfl,hd,λ ρ bj=>by
 simp only [execOp,an,bj x _ hx]; exact ai.bL (ai.bF _) (ai.bF _)⟩
end
structure QJ (P:Program) where
 Q:Goroutine→Prop
 step:∀ {g g':Goroutine},g.status = .running→(∀ w,stepG P false g w = .go g' w #[])→Q g'→Q g
def toJ(P:Program)(K:Goroutine→Prop):QJ P:=⟨λ g=>∃ q,Dx P K q g,λ hs h ⟨q,hq⟩=>⟨q+1,.inr ⟨hs,_,h,hq⟩⟩⟩
def Ae(P:Program)(d:Nat):QJ P:=⟨λ g=>∃ q,QuitsD P q d g,λ hs h ⟨q,hq⟩=>⟨q+1,QuitsD.ctl hs h hq⟩⟩
section
variable {P:Program} (J:QJ P)
def aC(c:Ctx)(st:St)(todo:List Item):Prop:=∀ tmps,dh c.n st tmps→J.Q (aY (aX c tmps todo) c.cs)
variable {J} {c:Ctx} {st st':St} {k:List Item} {ops:Array Oper} {i:Nat} {rest:List Nat} {o:Oper} {v:Value}
theorem aC.sub{todo:List Item}(hs:aB st st')(h:aC J c st' todo):aC J c st todo:=λ tmps ht=>h tmps (ht.sub hs)
theorem aC.skip(h:aC J c st k):aC J c st (.code .skip::k):=λ tmps ht=>J.step rfl (λ w=>by simp [stepG,stepG.exec,aY,aX]) (h tmps ht)
theorem aC.inBlock{id:Nat}(h:aC J c st k):aC J c st (.inBlock id::k):=λ tmps ht=>J.step rfl (λ w=>by simp [stepG,stepG.exec,aY,aX]) (h tmps ht)
theorem aC.seq{x y:Code}(h:aC J c st (.code x :: .code y::k)):aC J c st (.code (.seq x y)::k):=λ tmps ht=>J.step rfl (λ w=>by simp [stepG,stepG.exec,aY,aX]) (h tmps ht)
theorem aC.block{id:Nat}{x:Code}(h:aC J c st (.code x :: .inBlock id::k)):aC J c st (.code (.block id x)::k):=λ tmps ht=>J.step rfl (λ w=>by simp [stepG,stepG.exec,aY,aX]) (h tmps ht)
theorem aC.enterLoop{x:Code}(h:aC J c st (.code x :: .inLoop x::k)):aC J c st (.code (.loop x)::k):=λ tmps ht=>J.step rfl (λ w=>by simp [stepG,stepG.exec,aY,aX]) (h tmps ht)
theorem aC.inLoop{x:Code}(h:aC J c st (.code x :: .inLoop x::k)):aC J c st (.inLoop x::k):=λ tmps ht=>J.step rfl (λ w=>by simp [stepG,stepG.exec,aY,aX]) (h tmps ht)
theorem aC.exit{id:Nat}{k':List Item}(he:exitTo id k=some k')(h:aC J c st k'):aC J c st (.code (.exit id)::k):=λ tmps ht=>J.step rfl (λ w=>by simp [stepG,stepG.exec,aY,aX,he]) (h tmps ht)
theorem aC.region{id n:Nat}{is:List Nat}(hn:ops.size=n)(mX:List.range n=is)(h:aC J c st (.inRegion ops is::k)):aC J c st (.code (.region id ops false)::k):=by
 subst hn; subst mX
 exact λ tmps ht=>J.step rfl (λ w=>by simp [stepG,stepG.exec,aY,aX]) (h tmps ht)
theorem aC.aV(h:aC J c st k):aC J c st (.inRegion ops []::k):=λ tmps ht=>J.step rfl (λ w=>by simp [stepG,stepG.exec,aY,aX]) (h tmps ht)
theorem aC.gb{x:Operand}{th el:Code}(hx:bl st x=some (.bool true))(h:aC J c st (.code th::k)):aC J c st (.code (.cond x th el)::k):=λ tmps ht=>by
 have he:=ht.knows c (.code (.cond x th el)::k) x _ hx
 exact J.step rfl (λ w=>by simp only [aX] at he; simp [stepG,stepG.exec,aY,aX,he]) (h tmps ht)
theorem aC.eX{x:Operand}{th el:Code}(hx:bl st x=some (.bool false))(h:aC J c st (.code el::k)):aC J c st (.code (.cond x th el)::k):=λ tmps ht=>by
 have he:=ht.knows c (.code (.cond x th el)::k) x _ hx
 exact J.step rfl (λ w=>by simp only [aX] at he; simp [stepG,stepG.exec,aY,aX,he]) (h tmps ht)
theorem aC.unwanted(ho:ops[i]? = some o)(hw:cY ops st o=some false)(mD:cx o.dst c.n)(hs:aB (cB o.dst undef st) st')(h:aC J c st' (.inRegion ops rest::k)):aC J c st (.inRegion ops (i::rest)::k) :=
 λ _ ht=>J.step rfl (λ _=>abR ho (lu ht hw)) (h _ ((ht.put undef mD).sub hs))
theorem aC.val(ho:ops[i]? = some o)(hw:cY ops st o=some true)(hk:(c.kind == CallKind.early)=false)(hv:uZ P c o st v)(hs:aB (cB o.dst v st) st')(h:aC J c st' (.inRegion ops rest::k)):aC J c st (.inRegion ops (i::rest)::k):=λ tmps ht=>by
 refine J.step rfl (λ w=>?_) (h _ ((ht.put v hv.2.1).sub hs))
 have hr:=hv.2.2 _ (ht.knows c (.inRegion ops (i::rest)::k)) w
 rw [qS ho (lu ht hw) hv.1,← ru (rest:=rest) (k:=k) (c:=c) (tmps:=tmps) (v:=v) ho,DF (by simpa [aX] using hk) hr.1,hr.2]
 rfl
theorem aC.ext{f:FuncId}{as:Array Operand}{ji:Array TypeId}{e:Array Value→Sem Value}{vs:List Value}(ho:ops[i]? = some o)(hw:cY ops st o=some true)(hk:(c.kind == CallKind.early)=false)(an:o.op = .call ⟨.value (.func f),as,ji⟩)(hd:cx o.dst c.n)(hf:gT P f e)(ha:jG st as.toList=some vs)
  (hE:∀ w,nT P (e vs.toArray) f w v w #[]) (hs:aB (cB o.dst v st) st') (h:aC J c st' (.inRegion ops rest::k)):aC J c st (.inRegion ops (i::rest)::k):=λ _ ht =>
 J.step rfl (λ w=>Nm ho hw hk an hf ht ha (hE w)) (h _ ((ht.put v hd).sub hs))
theorem aC.enter{f:FuncId}{fn:Func}{body:Code}{as:Array Operand}{ji:Array TypeId}{vs:List Value}{n:Nat}(ho:ops[i]? = some o)(hw:cY ops st o=some true)(hk:(c.kind == CallKind.early)=false)(an:o.op = .call ⟨.value (.func f),as,ji⟩)(ha:jG st as.toList=some vs)
  (hf:P.funcs[f]? = some fn) (LA:(fn.name == "runtime.NumGoroutine")=false) (hb:fn.body=some body) (qz:fn.ntmps=n) (hn:Nat.ble vs.length n=true)
  (h:∀ tmps,dh c.n st tmps→aC J ⟨f,.normal,none,n,[],aX c tmps (.inRegion ops (i::rest)::k)::c.cs⟩ (u7 0 vs) [.code body]):aC J c st (.inRegion ops (i::rest)::k):=λ tmps ht=>by
 have hv:ai P (execOp (aX c tmps (.inRegion ops (i::rest)::k)).eval o) (.enter f vs.toArray):=by
  rw [Hj an ht ha]
  exact F9 hf LA (by rw [hb]; rfl)
 subst qz
 have zd:vs.length≤fn.ntmps:=by simpa [Nat.ble_eq] using hn
 have e:Frame.enter P f vs.toArray .normal=aX ⟨f,.normal,none,fn.ntmps,[],aX c tmps (.inRegion ops (i::rest)::k)::c.cs⟩ (vs.toArray++Array.replicate (fn.ntmps - vs.length) undef) [.code body]:=by
  simp [Frame.enter,aX,hf,hb]
 refine J.step rfl (λ w=>?_) (h tmps ht (vs.toArray++Array.replicate (fn.ntmps - vs.length) undef) ⟨by simp; omega,λ t v bn=>?_⟩)
 ·rw [qS ho (lu ht hw) (by rw [an]; rfl),J7 rfl (by simpa [aX] using hk) (hv w).1,(hv w).2,e]
  rfl
 ·obtain ⟨_,h2⟩:=J8 vs 0 t v bn
  have bV:t < vs.length:=by
   have:=(iO.1 h2).1
   simpa using this
  rw [Array.getElem?_append_left (by simpa using bV)]
  simpa using h2
def j0(c:Ctx)(tmps:Array Value)(todo:List Item):Frame:={ aX c tmps todo with mode:=.returning }
theorem QJ.back{fr:Frame}{cs:List Frame}{f:FuncId}{n:Nat}{fn:Func}{vs:List Value}{tmps:Array Value}{todo:List Item}(hf:P.funcs[f]? = some fn)(ht:dh n st tmps)(hr:Ag st fn.results.toList=some vs)(hj:J.Q (aY (fr.finish (iY vs)) cs)) :
  J.Q (aY (j0 ⟨f,.normal,none,n,[],fr::cs⟩ tmps todo) (fr::cs)) :=
 J.step rfl (λ w=>by
  have hv:=aca (P:=P) ht hr
  simp [j0,stepG,unwind,doReturn,aY,aX,hf,(hv w).1,(hv w).2,GStep.after,seen_none]) hj
theorem QJ.adW{fr:Frame}{cs:List Frame}{f:FuncId}{n:Nat}{fn:Func}{vs:List Value}{tmps:Array Value}{todo:List Item}(hf:P.funcs[f]? = some fn)(ht:dh n st tmps)(hr:Ag st fn.results.toList=some vs)(hm:fr.mode = .returning∨fr.mode = .panicking [goexitEntry])(hj:J.Q (aY fr cs)) :
  J.Q (aY (j0 ⟨f,.deferred,none,n,[],fr::cs⟩ tmps todo) (fr::cs)) :=
 J.step rfl (λ w=>by
  have hv:=aca (P:=P) ht hr
  rcases hm with hm | hm <;> simp [j0,stepG,unwind,doReturn,aY,aX,hf,(hv w).1,(hv w).2,GStep.after,seen_none,hm,goexitEntry]) hj
theorem aC.ret(lb:c.ro=none)(h:∀ tmps,dh c.n st tmps→J.Q (aY (j0 c tmps (.code .ret::k)) c.cs)):aC J c st (.code .ret::k):=λ tmps ht =>
 J.step rfl (λ w=>by simp [stepG,stepG.exec,aY,aX,j0,lb]) (h tmps ht)
theorem aC.Vl(lb:c.ro=none)(h:∀ tmps,dh c.n st tmps→J.Q (aY (j0 c tmps []) c.cs)):aC J c st []:=λ tmps ht =>
 J.step rfl (λ w=>by simp [stepG,stepG.exec,aY,aX,j0,lb]) (h tmps ht)
theorem aC.resume{c':Ctx}{tmps:Array Value}(ho:ops[i]? = some o)(ht:dh c.n st tmps)(hd:cx o.dst c.n)(hs:aB (cB o.dst v st) st')(h:aC J c st' (.inRegion ops rest::k))(_:c'.cs=aX c tmps (.inRegion ops (i::rest)::k)::c.cs) :
  J.Q (aY ((aX c tmps (.inRegion ops (i::rest)::k)).finish v) c.cs):=by
 rw [ru ho]
 exact h _ ((ht.put v hd).sub hs)
end
section
variable {P:Program} {B:Base} {main:Bool} {ab:Jd P B main} {c:Ctx} {R:az} {H:ah} {st st':St} {k:List Item} {ops:Array Oper} {i:Nat} {rest:List Nat} {o:Oper} {f:FuncId} {as:Array Operand} {ji:Array TypeId} {vs:List Value}
theorem step_defer{tmps:Array Value}{w:World}(ho:ops[i]? = some o)(hw:cY ops st o=some true)(gw:(c.kind == CallKind.early)=false)(lb:c.ro=none)(an:o.op = .defer ⟨.value (.func f),as,ji⟩)(ht:dh c.n st tmps)(ha:jG st as.toList=some vs) :
  stepG P main (aY (aX c tmps (.inRegion ops (i::rest)::k)) c.cs) w = .go (aY (aX { c with defers:=dcall f vs.toArray::c.defers } (gd o.dst undef tmps) (.inRegion ops rest::k)) c.cs) w #[]:=by
 have hk:=ht.knows c (.inRegion ops (i::rest)::k)
 have ef:(aX c tmps (.inRegion ops (i::rest)::k)).eval (.func f) = .func (.func f) #[] #[]:=rfl
 have e2:as.map (aX c tmps (.inRegion ops (i::rest)::k)).eval=vs.toArray:=by apply Array.ext'; simpa using DG hk _ _ ha
 have hr:(execOp (aX c tmps (.inRegion ops (i::rest)::k)).eval o).run P w = .ok (.defer (dcall f vs.toArray)) w:=by
  unfold execOp
  simp [an,resolve,Deferred.ofValue,ef,e2,dcall]
 have he:(execOp (aX c tmps (.inRegion ops (i::rest)::k)).eval o).events P w #[]=#[]:=by
  unfold execOp
  simp [an,resolve,Deferred.ofValue,ef]
 have Zo:=lu ht hw
 obtain ⟨Hk,kind,ro,n,defers,cs⟩:=c
 simp only at lb gw
 subst lb
 have e0:stepG P main (aY (aX ⟨Hk,kind,none,n,defers,cs⟩ tmps (.inRegion ops (i::rest)::k)) cs) w=stepG.apply P true (aX ⟨Hk,kind,none,n,defers,cs⟩ tmps (.inRegion ops (i::rest)::k)) cs none (execOp (aX ⟨Hk,kind,none,n,defers,cs⟩ tmps (.inRegion ops (i::rest)::k)).eval o) w:=by
  simp [aY,stepG,stepG.exec,stepG.oper,Frame.oper?,aX,ho,Zo]
 refine e0.trans ?_
 unfold stepG.apply
 rw [show (execOp (aX ⟨Hk,kind,none,n,defers,cs⟩ tmps (.inRegion ops (i::rest)::k)).eval o).runT P w #[]=(.ok (.defer (dcall f vs.toArray)) w,#[]) by rw [Sem.runT_eq,hr,he]]
 cases od:o.dst <;> simp [GStep.after,seen_none,aY,aX,Frame.finish,ho,od,gd,gw]
end
section
variable {F:Fx} {c:Ctx} {R:az} {H:ah} {st:St} {kk:List Item} {ops:Array Oper} {i:Nat} {rest:List Nat} {o:Oper} {n k j:Nat} {T:Lp} {T0:Mp}
theorem aNf{main:Bool}{t:TypeId}{x:Operand}{tmps:Array Value}{w:World}{s:Sh}(ho:ops[i]? = some o)(hw:cY ops st o=some true)(gw:(c.kind == CallKind.early)=false)(an:o.op = .load t x)(hx:bl st x=some (.pointer (some (am F))))(ht:dh c.n st tmps)(XG:gN F.P t)(hq:(F.P.funcs[c.fn]?).any (·.norace)=true)(bp:fW F s w) :
  stepG F.P main (aY (aX c tmps (.inRegion ops (i::rest)::kk)) c.cs) w = .go (aY (aX c (gd o.dst (.int .i32 s.mu.val) tmps) (.inRegion ops rest::kk)) c.cs) w #[]:=by
 have hk:=ht.knows c (.inRegion ops (i::rest)::kk)
 have hR:(execOp (aX c tmps (.inRegion ops (i::rest)::kk)).eval o).run F.P w = .ok (.value (.int .i32 s.mu.val)) w∧(execOp (aX c tmps (.inRegion ops (i::rest)::kk)).eval o).events F.P w #[]=#[⟨.cell (am F),false,false⟩]:=by
  simp only [execOp,an,hk x _ hx]
  have h1:=XG.1 w
  have hc:=bp.cm
  constructor
  ·simp [Instr.loadAt,Instr.sureAddr,loadVar,h1.1,hc]
  ·simp [Instr.loadAt,Instr.sureAddr,loadVar,h1.1,h1.2,hc,events_load]
 rw [qS ho (lu ht hw) (by rw [an]; rfl),← ru (rest:=rest) (k:=kk) (c:=c) (tmps:=tmps) (v:=.int .i32 s.mu.val) ho,DF (by simpa [aX] using gw) hR.1,hR.2]
 congr 1
 rw [seen_def]
 simp [seenStep,aX,hq]
theorem KW.look{t:TypeId}{x:Operand}(ho:ops[i]? = some o)(hw:cY ops st o=some true)(gw:(c.kind == CallKind.early)=false)(an:o.op = .load t x)(hx:bl st x=some (.pointer (some (am F))))(XG:gN F.P t)(hq:(F.P.funcs[c.fn]?).any (·.norace)=true)(hd:cx o.dst c.n)(hu:T ≠ .us∧T ≠ .d4)
  (kM:∀ es,q9 F es→Hh F T es)
  (h:rN F.N T→∀ s,FH F.N T s→∃ T',dK T s T' s∧Aq F j T T'∧∀ aZ,dh c.n (cB o.dst (.int .i32 s.mu.val) st) aZ→yO F (KW F n k) k j T T' R H (aY (aX c aZ (.inRegion ops rest::kk)) c.cs)) :
  ∀ tmps,dh c.n st tmps→KW F (n+1) k j T R H (aY (aX c tmps (.inRegion ops (i::rest)::kk)) c.cs):=by
 intro tmps ht ot
 refine ⟨rfl,rfl,λ e=>by rcases e with e | e; exact absurd e hu.1; exact absurd e hu.2,λ w s zc bp zf mY=>.inr ?_⟩
 obtain ⟨T',h2,h3,h6⟩:=h ot s zf
 exact ⟨_,w,#[],T',s,h2,h3,kM _ rj,aNf ho hw gw an hx ht XG hq bp,cH.refl bp,h6 _ (ht.put _ hd)⟩
def GV(P:Program)(src dst:TypeId):Prop:=∃ t,P.underlying src=some (.pointer t)∧P.underlying dst=some .unsafePointer∧(P.info? t).map (λ i=>decide (i.size=0))=some false
theorem ake{src dst:TypeId}{x:Operand}{a:Addr}{v:Value}{w:World}{main:Bool}{tmps:Array Value}(ho:ops[i]? = some o)(hw:cY ops st o=some true)(gw:(c.kind == CallKind.early)=false)(an:o.op = .convert src dst x)(hx:bl st x=some (.pointer (some a)))(ht:dh c.n st tmps)(hu:GV F.P src dst)(hc:w.cell? a=some v) :
  stepG F.P main (aY (aX c tmps (.inRegion ops (i::rest)::kk)) c.cs) w = .go (aY (aX c (gd o.dst (.pointer (some a)) tmps) (.inRegion ops rest::kk)) c.cs) w #[]:=by
 obtain ⟨t,u1,u2,u3⟩:=hu
 have hk:=ht.knows c (.inRegion ops (i::rest)::kk)
 have h1:=run_convert_to_unsafe u1 u2 u3 hc
 have h2:=events_convert_to_unsafe u1 u2 u3 hc #[]
 have hR:(execOp (aX c tmps (.inRegion ops (i::rest)::kk)).eval o).run F.P w = .ok (.value (.pointer (some a))) w∧(execOp (aX c tmps (.inRegion ops (i::rest)::kk)).eval o).events F.P w #[]=#[]:=by
  simp only [execOp,an,hk x _ hx]
  constructor
  ·simp [h1]
  ·simp [h2]
 rw [qS ho (lu ht hw) (by rw [an]; rfl),← ru (rest:=rest) (k:=kk) (c:=c) (tmps:=tmps) (v:=.pointer (some a)) ho,DF (by simpa [aX] using gw) hR.1,hR.2,seen_none]
theorem KW.conv{src dst:TypeId}{x:Operand}{a:Addr}(ho:ops[i]? = some o)(hw:cY ops st o=some true)(gw:(c.kind == CallKind.early)=false)(an:o.op = .convert src dst x)(hx:bl st x=some (.pointer (some a)))(hu:GV F.P src dst)(hd:cx o.dst c.n)
  (hc:∀ s w,fW F s w→∃ v,w.cell? a=some v) {T':Lp} (hT:T ≠ .us∧T ≠ .d4) (kM:Hh F T #[]) (dQ:∀ s,dK T s T' s) (B2:Aq F j T T')
  (h:∀ aZ,dh c.n (cB o.dst (.pointer (some a)) st) aZ→yO F (KW F n k) k j T T' R H (aY (aX c aZ (.inRegion ops rest::kk)) c.cs)) :
  ∀ tmps,dh c.n st tmps→KW F (n+1) k j T R H (aY (aX c tmps (.inRegion ops (i::rest)::kk)) c.cs):=by
 intro tmps ht ot
 refine ⟨rfl,rfl,λ e=>by rcases e with e | e; exact absurd e hT.1; exact absurd e hT.2,λ w s zc bp zf mY=>.inr ?_⟩
 obtain ⟨v,hv⟩:=hc s w bp
 exact ⟨_,w,#[],T',s,dQ s,B2,kM,ake ho hw gw an hx ht hu hv,cH.refl bp,h _ (ht.put _ hd)⟩
theorem KM.conv{src dst:TypeId}{x:Operand}{a:Addr}{T0 T':Mp}(ho:ops[i]? = some o)(hw:cY ops st o=some true)(gw:(c.kind == CallKind.early)=false)(an:o.op = .convert src dst x)(hx:bl st x=some (.pointer (some a)))(hu:GV F.P src dst)(hd:cx o.dst c.n)
  (hc:∀ s w,fW F s w→∃ v,w.cell? a=some v) (h1:∀ r,T0 ≠ .go r) (h2:T0 ≠ .wq) (kM:DR F T0 #[]) (dQ:∀ s,gV T0 s T' s)
  (h:∀ aZ,dh c.n (cB o.dst (.pointer (some a)) st) aZ→Own F.P F.B true (KM F n T') R H (aY (aX c aZ (.inRegion ops rest::kk)) c.cs)) :
  ∀ tmps,dh c.n st tmps→KM F (n+1) T0 R H (aY (aX c tmps (.inRegion ops (i::rest)::kk)) c.cs):=by
 intro tmps ht
 have key:∀ w s,Fits F.B R H w→fW F s w→pR F.N T0 s→(T0 = .w3∧s.ws=0∧stepG F.P true (aY (aX c tmps (.inRegion ops (i::rest)::kk)) c.cs) w = .go { aY (aX c tmps (.inRegion ops (i::rest)::kk)) c.cs with status:=.blocked } w #[]) ∨
   ∃ g' w' es T' s',gV T0 s T' s'∧DR F T0 es∧stepG F.P true (aY (aX c tmps (.inRegion ops (i::rest)::kk)) c.cs) w = .go g' w' es∧cH F s' w w'∧Own F.P F.B true (KM F n T') R H g':=λ w s zc bp gY=>by
  obtain ⟨v,hv⟩:=hc s w bp
  exact .inr ⟨_,w,#[],T',s,dQ s,kM,ake ho hw gw an hx ht hu hv,cH.refl bp,h _ (ht.put _ hd)⟩
 refine ⟨rfl,rfl,?_⟩
 cases T0 <;> first | exact absurd rfl (h1 _) | exact absurd rfl h2 | exact key
theorem Uj:∀ s w,fW F s w→∃ v,w.cell? (am F)=some v:=λ _ _ h=>⟨_,h.cm⟩
theorem Uk:∀ s w,fW F s w→∃ v,w.cell? (aw F)=some v:=λ _ _ h=>⟨_,h.cg⟩
theorem adM:∀ s w,fW F s w→∃ v,w.cell? (rY F)=some v:=λ _ _ h=>⟨_,h.OX⟩
section
variable {P:Program} {B:Base} {main:Bool} {ab:Jd P B main} {tmps:Array Value} {todo:List Item} {f:FuncId} {ds:List Deferred} {args:Array Value}
theorem At.abZ(lb:c.ro=none)(h:∀ tmps,dh c.n st tmps→ab.J R H (aY (j0 c tmps (.code .ret::kk)) c.cs)):At ab c R H st (.code .ret::kk):=λ tmps ht =>
 Jd.ctl rfl (λ w=>by simp [stepG,stepG.exec,aY,aX,j0,lb]) (h tmps ht)
theorem At.toEnd(lb:c.ro=none)(h:∀ tmps,dh c.n st tmps→ab.J R H (aY (j0 c tmps []) c.cs)):At ab c R H st []:=λ tmps ht =>
 Jd.ctl rfl (λ w=>by simp [stepG,stepG.exec,aY,aX,j0,lb]) (h tmps ht)
theorem Jd.unwind{fn:Func}(hd:c.defers=dcall f args::ds)(hf:P.funcs[f]? = some fn)(LA:(fn.name == "runtime.NumGoroutine")=false)(hb:fn.body.isNone=false)
  (h:ab.J R H (aY (Frame.enter P f args .deferred) (j0 { c with defers:=ds } tmps todo::c.cs))):ab.J R H (aY (j0 c tmps todo) c.cs):=by
 have hv:=F9 (P:=P) (args:=args) hf LA hb
 refine Jd.ctl rfl (λ w=>?_) h
 simp [j0,aY,aX,stepG,Go.unwind,callDeferred,hd,dcall,invoke,(hv w).1,(hv w).2,GStep.after,seen_none]
theorem Jd.back{fr:Frame}{cs:List Frame}{g:FuncId}{m:Nat}{fn:Func}{vs:List Value}(hf:P.funcs[g]? = some fn)(ht:dh m st tmps)(hr:Ag st fn.results.toList=some vs)(hj:ab.J R H (aY (fr.finish (iY vs)) cs)):ab.J R H (aY (j0 ⟨g,.normal,none,m,[],fr::cs⟩ tmps todo) (fr::cs)):=by
 have hv:=aca (P:=P) ht hr
 refine Jd.ctl rfl (λ w=>?_) hj
 simp [j0,stepG,Go.unwind,doReturn,aY,aX,hf,(hv w).1,(hv w).2,GStep.after,seen_none]
theorem At.defer{as:Array Operand}{ji:Array TypeId}{vs:List Value}{st':St}(ho:ops[i]? = some o)(hw:cY ops st o=some true)(gw:(c.kind == CallKind.early)=false)(lb:c.ro=none)(an:o.op = .defer ⟨.value (.func f),as,ji⟩)(ha:jG st as.toList=some vs)(hd:cx o.dst c.n)(hs:aB (cB o.dst undef st) st')
  (h:At ab { c with defers:=dcall f vs.toArray::c.defers } R H st' (.inRegion ops rest::kk)):At ab c R H st (.inRegion ops (i::rest)::kk):=λ _ ht =>
 Jd.ctl rfl (λ _=>step_defer ho hw gw lb an ht ha) (h _ ((ht.put undef hd).sub hs))
theorem aC.defer{J:QJ P}{as:Array Operand}{ji:Array TypeId}{vs:List Value}{st':St}(ho:ops[i]? = some o)(hw:cY ops st o=some true)(gw:(c.kind == CallKind.early)=false)(lb:c.ro=none)(an:o.op = .defer ⟨.value (.func f),as,ji⟩)(ha:jG st as.toList=some vs)(hd:cx o.dst c.n)(hs:aB (cB o.dst undef st) st')
  (h:aC J { c with defers:=dcall f vs.toArray::c.defers } st' (.inRegion ops rest::kk)):aC J c st (.inRegion ops (i::rest)::kk):=λ _ ht =>
 J.step rfl (λ _=>step_defer ho hw gw lb an ht ha) (h _ ((ht.put undef hd).sub hs))
theorem akg{e:Array Value→Sem Value}{w w':World}{v:Value}{nB:Array Event}(hd:c.defers=dcall f args::ds)(hf:gT P f e)(hE:nT P (e args) f w v w' nB) :
  stepG P main (aY (j0 c tmps todo) c.cs) w = .go (aY (j0 { c with defers:=ds } tmps todo) c.cs) w' nB:=by
 obtain ⟨fn,h1,h2,h3,h4,h5⟩:=hf.ex
 obtain ⟨lf,kM,hs⟩:=hE
 have hr:(callFunc f args).run P w = .ok (.value v) w':=by rw [run_callFunc_extern h1 h2 h3 h4 h5,lf]; rfl
 have hl:seen P c.fn ((callFunc f args).events P w #[])=nB:=by
  rw [events_callFunc_extern h1 h2 h3 h4 h5]
  simp only [List.push_toArray,List.nil_append]
  rw [kM,seen_entry _ _ _ hs]
 simp [j0,aY,aX,stepG,Go.unwind,callDeferred,hd,dcall,invoke,hr,GStep.after] at hl ⊢
 exact hl
theorem aLR{d:Nat}(hd:c.defers=dcall f args::ds)(hf:gT P f (λ _=>do mark .enable; pure Extern.Race.none_))(h:∃ q,QuitsD P q (d - 1) (aY (j0 { c with defers:=ds } tmps todo) c.cs)):∃ q,QuitsD P q d (aY (j0 c tmps todo) c.cs):=by
 obtain ⟨q,hq⟩:=h
 exact ⟨q+1,QuitsD.said ⟨.mark .enable,false,true⟩ rfl rfl (λ w=>akg hd hf (sb (by simp))) hq⟩
end
theorem KM.unwind{f:FuncId}{args:Array Value}{ds:List Deferred}{tmps:Array Value}{todo:List Item}{r:Nat}(hd:c.defers=dcall f args::ds)(hf:gT F.P f (λ _=>do mark .enable; pure Extern.Race.none_))
  (h:Own F.P F.B true (KM F n (.go r)) R H (aY (j0 { c with defers:=ds } tmps todo) c.cs)):KM F (n+1) (.ke r) R H (aY (j0 c tmps todo) c.cs) :=
 ⟨rfl,rfl,λ w s _ bp _=>.inr ⟨_,w,_,_,s,.ke,rfl,akg hd hf (sb (by simp)),cH.refl bp,h⟩⟩
section
variable {P:Program} {B:Base} {main:Bool}
def AH(P:Program):Frame:={ (default:Frame) with fn:=P.funcs.size,defers:=[],mode:=.panicking [goexitEntry] }
def Ki(P:Program)(d:Deferred):Goroutine:={ frame:={ (default:Frame) with fn:=P.funcs.size,defers:=[d],mode:=.panicking [goexitEntry] },callers:=[],status:=.running,dying:=none }
theorem aNt{cl:Call}{d:Deferred}{tmps:Array Value}{w:World}(ho:ops[i]? = some o)(hw:cY ops st o=some true)(an:o.op = .go cl)(ht:dh c.n st tmps)(hr:∀ ρ,Knows st ρ→ai P (resolve ρ cl o.type) d)(hd:(d.target matches .nil)=false) :
  stepG P main (aY (aX c tmps (.inRegion ops (i::rest)::kk)) c.cs) w = .spawn (aY (aX c (gd o.dst undef tmps) (.inRegion ops rest::kk)) c.cs) (Ki P d) w #[]:=by
 rw [qS ho (lu ht hw) (by rw [an]; rfl)]
 have hk:=ht.knows c (.inRegion ops (i::rest)::kk)
 have:ai P (execOp (aX c tmps (.inRegion ops (i::rest)::kk)).eval o) (.spawn d):=by
  simp only [execOp,an]
  exact ai.bL (hr _ hk) (ai.bF _)
 have h:=this w
 rw [← ru (rest:=rest) (k:=kk) (c:=c) (tmps:=tmps) (v:=undef) ho]
 clear hr this
 obtain ⟨tg,aol⟩:=d
 cases tg <;> simp_all [stepG.apply,aY,GStep.after,seen_none,Ki]
theorem Own.child{K:az→ah→Goroutine→Prop}{f:FuncId}{args:Array Value}{d:Deferred}(hd:(d.target matches .nil)=false)(hv:ai P (invoke d.target d.args) (.enter f args))(h:Own P B false K R H (aY (Frame.enter P f args .deferred) [AH P])):Own P B false K R H (Ki P d):=by
 refine (M5 P B false K).step rfl λ w hw=>⟨_,w,#[],R,H,?_,by simp,gv.refl hw,h⟩
 have hc:(match d.target with | .collected _=>false | _=>true)=true:=by
  cases ht:d.target with
  | collected b =>
   rw [ht] at hv
   have:=(hv w).1
   simp [invoke] at this
  | _=>rfl
 have hvw:=hv w
 obtain ⟨tg,aol⟩:=d
 simp only at hc hvw hd
 unfold stepG Ki
 simp only
 unfold Go.unwind
 cases tg with
 | collected b=>cases hc
 | _=>simp_all [callDeferred,Sem.runT_eq,GStep.after,seen_none,aY,AH]
theorem aNP{f:FuncId}{captured args:Array Value}(he:bq P f):ai P (invoke (.fn (.func f) captured) args) (.enter f (args++captured)):=by
 obtain ⟨fn,h1,h2,h3⟩:=he.ex
 simp only [invoke]
 exact F9 h1 h2 h3
theorem aMa{x:Operand}{cl:Call}{f:FuncId}{cap:Array Value}{t:TypeId}(hc:cl.callee = .value x)(ha:cl.args=#[])(hx:bl st x=some (.func (.func f) #[] cap))(ρ:Operand→Value)(bj:Knows st ρ):ai P (resolve ρ cl t) ⟨.fn (.func f) cap,#[]⟩:=by
 simp only [resolve,hc,ha,bj x _ hx,Deferred.ofValue]
 have e:(#[]:Array Value)++Array.map ρ #[]=#[]:=by simp
 rw [e]
 exact ai.bF _
theorem aq1{f:FuncId}{fn:Func}{body:Code}{args:List Value}{m:Nat}{kd:CallKind}{cs:List Frame}(hf:P.funcs[f]? = some fn)(hb:fn.body=some body)(qz:fn.ntmps=m)(hn:Nat.ble args.length m=true) :
  ∃ tmps,dh m (u7 0 args) tmps∧Frame.enter P f args.toArray kd=aX ⟨f,kd,none,m,[],cs⟩ tmps [.code body]:=by
 subst qz
 have hn:args.length≤fn.ntmps:=by simpa [Nat.ble_eq] using hn
 refine ⟨args.toArray++Array.replicate (fn.ntmps - args.length) undef,⟨by simp; omega,λ t v ht=>?_⟩,by simp [Frame.enter,aX,hf,hb]⟩
 obtain ⟨_,h2⟩:=J8 args 0 t v ht
 have bV:t < args.length:=by
  have:=(iO.1 h2).1
  simpa using this
 rw [Array.getElem?_append_left (by simpa using bV)]
 simpa using h2
theorem Jd.enter{ab:Jd P B main}{f:FuncId}{fn:Func}{body:Code}{args:List Value}{m:Nat}{kd:CallKind}{cs:List Frame}(hf:P.funcs[f]? = some fn)(hb:fn.body=some body)(qz:fn.ntmps=m)(hn:Nat.ble args.length m=true)
  (h:At ab ⟨f,kd,none,m,[],cs⟩ R H (u7 0 args) [.code body]):ab.J R H (aY (Frame.enter P f args.toArray kd) cs):=by
 obtain ⟨tmps,ht,e⟩:=aq1 (kd:=kd) (cs:=cs) hf hb qz hn
 rw [e]; exact h tmps ht
theorem aLS:QuitsD P 1 0 (aY (AH P) []):=by
 refine .inr ⟨rfl,{ aY (AH P) [] with status:=.finished },#[],by simp,λ w=>?_,rfl,rfl⟩
 have e:(default:Frame).todo=[]:=rfl
 simp [stepG,Go.unwind,aY,AH,goexitEntry,Frame.catches,e]
end
theorem KM.spawn{cl:Call}{d:Deferred}{r:Nat}(ho:ops[i]? = some o)(hw:cY ops st o=some true)(an:o.op = .go cl)(hr:∀ ρ,Knows st ρ→ai F.P (resolve ρ cl o.type) d)(hd:(d.target matches .nil)=false)(mD:cx o.dst c.n)
  (hc:Own F.P F.B false (KW F n (F.N - (r+1)) 0 .ld) R [] (Ki F.P d)) (h:∀ aZ,dh c.n (cB o.dst undef st) aZ→Own F.P F.B true (KM F n (ln r)) R H (aY (aX c aZ (.inRegion ops rest::kk)) c.cs)) :
  ∀ tmps,dh c.n st tmps→KM F (n+1) (.go r) R H (aY (aX c tmps (.inRegion ops (i::rest)::kk)) c.cs):=λ _ ht =>
 ⟨rfl,rfl,λ _ _ _ _ _=>⟨_,_,aNt ho hw an ht hr hd,hc,h _ (ht.put undef mD)⟩⟩
end
def s0:Sh:=⟨.zero,0,0,0,0⟩
theorem jD.crowd{F:Fx}{Post:Value→World→Prop}{R:az}{H0:ah}{g:Goroutine}{r:Nat}(tZ:F.mj=jD F.P F.B Post)(hN:F.N=r+1)(h:∀ n,Own F.P F.B true (KM F n (.ka r)) R H0 g) :
  jD F.P F.B Post R ((F.bo,F.cont λ _=>0)::(F.bw,qU F.tw s0)::(F.bm,qJ F.tm s0)::H0) g:=by
 intro gs w sl t q dd h0 hA
 have bV:=EX h0
 have hf:=hA.fits
 have dR:=hf.nd
 simp only [List.map_cons,List.nodup_cons,fy,not_or,List.mem_map,not_exists] at dR
 have mo:(F.bo,F.cont λ _=>0)∈(F.bo,F.cont λ _=>0)::(F.bw,qU F.tw s0)::(F.bm,qJ F.tm s0)::H0:=by simp
 have mw:(F.bw,qU F.tw s0)∈(F.bo,F.cont λ _=>0)::(F.bw,qU F.tw s0)::(F.bm,qJ F.tm s0)::H0:=by simp
 have mm:(F.bm,qJ F.tm s0)∈(F.bo,F.cont λ _=>0)::(F.bw,qU F.tw s0)::(F.bm,qJ F.tm s0)::H0:=by simp
 have out:∀ b,(b=F.bo∨b=F.bw∨b=F.bm)→R b=none∧∀ o',(b,o') ∉ H0:=λ b hb=>by
  rcases hb with rfl | rfl | rfl
  ·exact ⟨hf.dj _ _ mo,λ o' fj=>dR.1.2.2 (F.bo,o') ⟨fj,rfl⟩⟩
  ·exact ⟨hf.dj _ _ mw,λ o' fj=>dR.2.1.2 (F.bw,o') ⟨fj,rfl⟩⟩
  ·exact ⟨hf.dj _ _ mm,λ o' fj=>dR.2.2.1 (F.bm,o') ⟨fj,rfl⟩⟩
 have hc:∀ n,cnt (cO (λ _=>.no) 0 (.mn (.ka r))) n = .zero:=λ n=>by
  have z:∀ f:Cn→Nat,f .zero=0→dE n (λ i=>f (cA (cO (λ _=>.no) 0 (.mn (.ka r)) i)))=0:=λ f hf=>by
   have e:∀ i,f (cA (cO (λ _=>.no) 0 (.mn (.ka r)) i))=0:=λ i=>by
    unfold cO; split <;> exact hf
   have:=SF (b:=0) (f:=λ i=>f (cA (cO (λ _=>.no) 0 (.mn (.ka r)) i))) (λ i=>by rw [e]; exact dr _) n
   omega
  unfold cnt
  simp only [z (·.ow) rfl,z (·.hl) rfl,z (·.pu) rfl,z (·.pc) rfl,z (·.al) rfl,z (·.z) rfl,z (·.a1) rfl,z (·.ak) rfl,z (·.ux) rfl,z (·.wk) rfl,z (·.lv) rfl,z (·.dw) rfl,z (·.d4) rfl]
  rfl
 have Ej:∀ i k j T,cO (λ _=>.no) 0 (.mn (.ka r)) i ≠ .wk k j T:=λ i k j T e=>by
  unfold cO at e; split at e <;> cases e
 have mV:Bk F (31 * (gs.size+F.N)+1) (.ka r) (cO (λ _=>.no) 0 (.mn (.ka r))) (λ _=>0) s0 gs.size:=by
  refine ⟨ko _ _ _,by simp,bV,λ i hi=>fY (by omega),λ i T hT=>?_,?_,?_,λ i k j T e=>absurd e (Ej i k j T),λ i i' k j j' T T' e=>absurd e (Ej i k j T),λ k hk=>?_,λ k hk=>rfl,by simp only [rem,hN]; omega⟩
  ·apply Classical.byContradiction
   intro hn
   rw [fY hn] at hT; cases hT
  ·rw [hc]; constructor <;> simp [Cn.zero,s0,Wd.zero]
  ·rw [hc]; refine ⟨by simp [lE,Cn.zero,s0],by simp [Cn.zero,Cn.km],by simp [Cn.zero,Cn.km,rem,hN]⟩
  ·simp only [rem,hN] at hk; omega
 have hd0:=hA.d0
 obtain ⟨T,hT⟩:=h (MM F (31 * (gs.size+F.N)+1) (cO (λ _=>.no) 0 (.mn (.ka r))) s0 gs.size)
 refine MI.runs (F:=F) (Q:=31 * (gs.size+F.N)+1) (T0:=.ka r) (D:=cO (λ _=>.no) 0 (.mn (.ka r))) (m:=λ i=>if i=0 then some T else some (s6 (q i))) (js:=λ _=>0) (s:=s0) (th:=only ⟨R,H0⟩) (mu:=λ _=>false) (dd:=dd) tZ ⟨?_,?_,λ i x hx=>?_,λ i hi=>⟨?_,rfl,hA.dz i hi⟩,mV⟩
 ·rw [hc]
  have sub:∀ i x,only ⟨R,H0⟩ i=some x→i=0∧x=⟨R,H0⟩:=λ i x hx=>by
   unfold only at hx; split at hx
   ·cases hx; exact ⟨‹_›,rfl⟩
   ·cases hx
  refine ⟨λ i x hx=>?_,λ i j x y gg hx hy=>?_,λ c o BH=>?_,λ c o BH i x hx=>?_⟩
  ·obtain ⟨rfl,rfl⟩:=sub i x hx
   exact ⟨hf.r,λ b o hb=>hf.h b o (by simp [hb]),dR.2.2.2,λ b o hb=>hf.dj b o (by simp [hb]),hf.os,hf.tape,hf.out⟩
  ·obtain ⟨rfl,_⟩:=sub i x hx
   obtain ⟨rfl,_⟩:=sub j y hy
   exact absurd rfl gg
  ·rcases FD BH with ⟨rfl,rfl⟩ | ⟨rfl,rfl⟩ | ⟨rfl,rfl,_⟩
   ·exact hf.h _ _ mm
   ·exact hf.h _ _ mw
   ·exact hf.h _ _ mo
  ·obtain ⟨rfl,rfl⟩:=sub i x hx
   rcases FD BH with ⟨rfl,rfl⟩ | ⟨rfl,rfl⟩ | ⟨rfl,rfl,_⟩
   ·exact out _ (.inr (.inr rfl))
   ·exact out _ (.inr (.inl rfl))
   ·exact out _ (.inl rfl)
 ·rw [hc]
  refine dk.share (bs:=[F.bm,F.bw]) (b:=F.bo) hA.tr (λ c BH=>?_) (λ x hx=>by simp [hx]) _ _
  simp only [fy,List.not_mem_nil,or_false] at BH
  rcases BH with rfl | rfl | rfl
  ·exact ⟨_,mo⟩
  ·exact ⟨_,mm⟩
  ·exact ⟨_,mw⟩
 ·by_cases hi:i=0
  ·subst hi
   rw [h0] at hx; cases hx
   rw [ko]
   exact ⟨rfl,hd0,rfl,⟨R,H0⟩,_,rfl,dr _,.inl ⟨T,by simp,hT⟩⟩
  ·rw [fY hi]
   refine ⟨by simp [only,hi],by omega,q i,by simp [hi],hA.lv i x (by omega) hx⟩
 ·have:i≠0:=by omega
  simp [only,this]
theorem aNl:∀ (l w s:Fin 2) (n:Fin 6),let v:Int:=(l.1:Int)+2 * w.1+4 * s.1+8 * n.1;
  fP .and .i32 v 1=some (l.1:Int)∧fP .and .i32 v 2=some (2 * w.1:Int)∧fP .and .i32 v 3=some ((l.1:Int)+2 * w.1)∧fP .and .i32 v 4=some (4 * s.1:Int)∧fP .and .i32 v 5=some ((l.1:Int)+4 * s.1) ∧
  fP .and .i32 v 7=some ((l.1:Int)+2 * w.1+4 * s.1)∧fP .or .i32 v 1=some (1+2 * w.1+4 * s.1+8 * n.1:Int)∧fP .or .i32 v 2=some ((l.1:Int)+2+4 * s.1+8 * n.1)∧fP .or .i32 v 4=some ((l.1:Int)+2 * w.1+4+8 * n.1) ∧
  fP .andNot .i32 v 2=some ((l.1:Int)+4 * s.1+8 * n.1)∧lT .i32 v 3=some (n.1:Int):=by decide +kernel
section
variable {m:Wd} (h:m.ok 5)
include h
theorem Wd.uL:fP .and .i32 m.val 1=some (m.l:Int)∧fP .and .i32 m.val 2=some (2 * m.w:Int)∧fP .and .i32 m.val 3=some ((m.l:Int)+2 * m.w)∧fP .and .i32 m.val 4=some (4 * m.s:Int)∧fP .and .i32 m.val 5=some ((m.l:Int)+4 * m.s) ∧
  fP .and .i32 m.val 7=some ((m.l:Int)+2 * m.w+4 * m.s)∧fP .or .i32 m.val 1=some (Wd.val { m with l:=1 })∧fP .or .i32 m.val 2=some (Wd.val { m with w:=1 })∧fP .or .i32 m.val 4=some (Wd.val { m with s:=1 }) ∧
  fP .andNot .i32 m.val 2=some (Wd.val { m with w:=0 })∧lT .i32 m.val 3=some (m.n:Int):=by
 obtain ⟨l,w,s,n⟩:=m
 obtain ⟨h1,h2,h3,h4⟩:=h
 have:=aNl ⟨l,by simp only at h1; omega⟩ ⟨w,by simp only at h2; omega⟩ ⟨s,by simp only at h3; omega⟩ ⟨n,by simp only at h4; omega⟩
 simpa [Wd.val] using this
theorem Wd.fit:0≤m.val∧m.val≤47:=by
 obtain ⟨h1,h2,h3,h4⟩:=h
 unfold Wd.val; omega
end
theorem wrap_i32{z:Int}(h1 : -2147483648≤z)(h2:z≤2147483647):IntKind.i32.wrap z=z:=by
 unfold IntKind.wrap
 simp [IntKind.signed,IntKind.bits]
 omega
theorem wrap_u32{z:Int}(h1:0≤z)(h2:z≤4294967295):IntKind.u32.wrap z=z:=by
 unfold IntKind.wrap
 simp [IntKind.signed,IntKind.bits]
 omega
theorem alk{z:Int}(h1:0≤z)(h2:z≤18446744073709551615):IntKind.u64.wrap z=z:=by
 unfold IntKind.wrap
 simp [IntKind.signed,IntKind.bits]
 omega
theorem aOx{z:Int}(h1:4294967296≤z)(h2:z≤18446744073709551615):IntKind.u64.wrap (z+18446744069414584320)=z - 4294967296:=by
 unfold IntKind.wrap
 simp [IntKind.signed,IntKind.bits]
 omega
theorem aNk:∀ (v:Fin 6) (w:Fin 2),let z:Int:=4294967296 * (v.1:Int)+w.1;
  fP .and .u64 z 2147483648=some 0∧fP .and .u64 z 2147483647=some (w.1:Int)∧lT .u64 z 32=some (v.1:Int):=by decide +kernel
theorem acn{v w:Nat}(hv:v≤5)(hw:w≤1):fP .and .u64 (4294967296 * (v:Int)+w) 2147483648=some 0∧fP .and .u64 (4294967296 * (v:Int)+w) 2147483647=some (w:Int)∧lT .u64 (4294967296 * (v:Int)+w) 32=some (v:Int):=by
 simpa using aNk ⟨v,by omega⟩ ⟨w,by omega⟩
class uY (P:Program) where
 ki:Nat→Option IntKind
 ok:∀ t k,ki t=some k→P.underlying t=some (.int k)
def UE(bo:BinOp)(kd:IntKind)(a b:Int):Option Value :=
 match bo with
 | .eql=>some (.bool (a == b))
 | .neq=>some (.bool (a != b))
 | .lss=>some (.bool (decide (a < b)))
 | .leq=>some (.bool (decide (a≤b)))
 | .gtr=>some (.bool (decide (a > b)))
 | .geq=>some (.bool (decide (a ≥ b)))
 | .add=>some (.int kd (kd.wrap (a+b)))
 | .sub=>some (.int kd (kd.wrap (a - b)))
 | .and=>some (.int kd ((fP .and kd a b).getD 0))
 | .or=>some (.int kd ((fP .or kd a b).getD 0))
 | .andNot=>some (.int kd ((fP .andNot kd a b).getD 0))
 | _=>none
def Rg(fo:Nat→Nat→Option Nat)(ki:Nat→Option IntKind)(st:St)(o:Oper):Option Value :=
 match o.op with
 | .move x=>bl st x
 | .assign x=>bl st x
 | .nilCheck x=>match bl st x with
  | some (.pointer (some a))=>some (.pointer (some a))
  | _=>none
 | .pick x y z=>match bl st x with
  | some (.bool true)=>bl st y
  | some (.bool false)=>bl st z
  | _=>none
 | .unOp .not _ x=>match bl st x with
  | some (.bool a)=>some (.bool (!a))
  | _=>none
 | .binOp .shr _ x y _=>match bl st x,bl st y with
  | some (.int kd a),some (.int _ b)=>if b < 0 then none else some (.int kd (a.fdiv (2 ^ (min b.toNat kd.bits))))
  | _,_=>none
 | .binOp .shl _ x y _=>match bl st x,bl st y with
  | some (.int kd a),some (.int _ b)=>if b < 0 then none else some (.int kd (kd.wrap (a * 2 ^ (min b.toNat kd.bits))))
  | _,_=>none
 | .binOp bo _ x y _=>match bl st x,bl st y with
  | some (.int kd a),some (.int EU b)=>if kd=EU then UE bo kd a b else none
  | _,_=>none
 | .convert s d x=>match bl st x,ki s,ki d with
  | some (.int _ a),some _,some kd=>some (.int kd (kd.wrap a))
  | _,_,_=>none
 | .fieldAddr s x f=>match bl st x,fo s f with
  | some (.pointer (some ⟨b,n,none⟩)),some off=>some (.pointer (some ⟨b,n+off,none⟩))
  | _,_=>none
 | _=>none
section
variable {P:Program} [nz P] [uY P] {B:Base} {main:Bool} {ab:Jd P B main} {J:QJ P} {c:Ctx} {R:az} {H:ah} {st st':St} {o:Oper} {k:List Item}
omit [nz P] [uY P] in
theorem akD{kd yk:IntKind}{a b:Int}{t:TypeId}(hb:¬ b < 0):ai P (binOp .shr t (.int kd a) (.int yk b)) (.int kd (a.fdiv (2 ^ (min b.toNat kd.bits))))∧ai P (binOp .shl t (.int kd a) (.int yk b)) (.int kd (kd.wrap (a * 2 ^ (min b.toNat kd.bits)))):=by
 constructor <;> (simp only [binOp,Op.shift,if_false,hb]; exact ai.bF _)
omit [nz P] [uY P] in
theorem aNG{bo:BinOp}{kd:IntKind}{a b:Int}{t:TypeId}{v:Value}(h:UE bo kd a b=some v):ai P (binOp bo t (.int kd a) (.int kd b)) v:=by
 unfold UE at h
 cases bo <;> simp only [j8,reduceCtorEq] at h <;> subst h <;> simp only [binOp,ne_eq,kY,if_false,Op.intArith,Op.intBits,fP,oz] <;> exact ai.bF _
theorem ahO{v:Value}(h:Rg (nz.off P) (uY.ki P) st o=some v)(hd:cx o.dst c.n):uZ P c o st v:=by
 unfold Rg at h
 split at h
 ·rename_i x an; exact OV.move an hd h
 ·rename_i x an; exact OV.assign an hd h
 ·rename_i x an
  split at h
  ·rename_i hx; cases h; exact OV.nilCheck an hd hx
  ·cases h
 ·rename_i x y z an
  split at h
  ·rename_i hx; exact OV.aLI an hd hx h
  ·rename_i hx; exact OV.aLH an hd hx h
  ·cases h
 ·rename_i t x an
  split at h
  ·rename_i hx; cases h; exact OV.not an hd hx
  ·cases h
 ·rename_i t x y u an
  split at h
  ·rename_i kd a EU b hx hy
   split at h
   ·cases h
   ·rename_i hb; cases h; exact OV.bin an hd hx hy (akD hb).1
  ·cases h
 ·rename_i t x y u an
  split at h
  ·rename_i kd a EU b hx hy
   split at h
   ·cases h
   ·rename_i hb; cases h; exact OV.bin an hd hx hy (akD hb).2
  ·cases h
 ·rename_i bo t x y u _ _ an
  split at h
  ·rename_i kd a EU b hx hy
   split at h
   ·rename_i e; subst e; exact OV.bin an hd hx hy (aNG h)
   ·cases h
  ·cases h
 ·rename_i s d x an
  split at h
  ·rename_i ks a k0 kd hx hs hk
   cases h
   refine ⟨by rw [an]; rfl,hd,λ ρ bj=>?_⟩
   simp only [execOp,an,bj x _ hx]
   refine ai.bL ?_ (ai.bF _)
   unfold convert
   exact ai.bL (ai.underlying (uY.ok _ _ hs)) (ai.bL (ai.underlying (uY.ok _ _ hk)) (ai.bF _))
  ·cases h
 ·rename_i s x f an
  split at h
  ·rename_i hx hf; cases h; exact OV.fieldAddr an hd hx (nz.ok s f _ hf)
  ·cases h
 ·cases h
def abS(fo:Nat→Nat→Option Nat)(ki:Nat→Option IntKind)(ops:Array Oper)(n:Nat)(st:St)(i:Nat):Option St :=
 match ops[i]? with
 | none=>none
 | some o=>match cY ops st o with
  | some true=>match Rg fo ki st o,o.dst with
   | some v,some d=>if Nat.blt d n=true then some ((d,v)::st) else none
   | _,_=>none
  | some false=>match nG o.op,o.dst with
   | false,some d=>if Nat.blt d n=true then some ((d,undef)::st) else none
   | false,none=>some st
   | _,_=>none
  | none=>none
def ti(fo:Nat→Nat→Option Nat)(ki:Nat→Option IntKind)(ops:Array Oper)(n:Nat):List Nat→St→Option St
 | [],st=>some st
 | i::is,st=>match abS fo ki ops n st i with
  | some st'=>ti fo ki ops n is st'
  | none=>none
theorem akb{ops:Array Oper}{n i:Nat}{fo:Nat→Nat→Option Nat}{ki:Nat→Option IntKind}(h:abS fo ki ops n st i=some st'):∃ o,ops[i]? = some o ∧
  ((cY ops st o=some true∧∃ v d,Rg fo ki st o=some v∧o.dst=some d∧cx (some d) n∧st'=(d,v)::st) ∨
   (cY ops st o=some false∧nG o.op=false∧cx o.dst n∧st'=cB o.dst undef st)):=by
 unfold abS at h
 split at h
 ·cases h
 ·rename_i o ho
  refine ⟨o,ho,?_⟩
  split at h
  ·rename_i hw
   split at h
   ·rename_i v d hv hd
    split at h
    ·rename_i hl; cases h; exact .inl ⟨hw,v,d,hv,hd,hl,rfl⟩
    ·cases h
   ·cases h
  ·rename_i hw
   split at h
   ·rename_i d mW hd
    split at h
    ·rename_i hl; cases h; exact .inr ⟨hw,mW,by rw [hd]; exact hl,by rw [hd]; rfl⟩
    ·cases h
   ·rename_i mW hd
    cases h; exact .inr ⟨hw,mW,by rw [hd]; rfl,by rw [hd]; rfl⟩
   ·cases h
  ·cases h
theorem At.ti{ops:Array Oper}(hk:(c.kind == CallKind.early)=false):∀ {is rest:List Nat} {st:St},Go.Lg.ti (nz.off P) (uY.ki P) ops c.n is st=some st'→At ab c R H st' (.inRegion ops rest::k)→At ab c R H st (.inRegion ops (is++rest)::k)
 | [],rest,st,h,ha=>by cases h; exact ha
 | i::is,rest,st,h,ha=>by
  unfold Go.Lg.ti at h
  split at h
  ·rename_i ng h1
   have ih:=At.ti hk h ha
   obtain ⟨o,ho,⟨hw,v,d,hv,hd,hl,rfl⟩ | ⟨hw,mW,hl,rfl⟩⟩:=akb h1
   ·exact At.val ho hw hk (ahO hv (by rw [hd]; exact hl)) (by rw [hd]; exact aB.refl _) ih
   ·exact At.unwanted ho hw hl (aB.refl _) ih
  ·cases h
theorem aC.ti{ops:Array Oper}(hk:(c.kind == CallKind.early)=false):∀ {is rest:List Nat} {st:St},Go.Lg.ti (nz.off P) (uY.ki P) ops c.n is st=some st'→aC J c st' (.inRegion ops rest::k)→aC J c st (.inRegion ops (is++rest)::k)
 | [],rest,st,h,ha=>by cases h; exact ha
 | i::is,rest,st,h,ha=>by
  unfold Go.Lg.ti at h
  split at h
  ·rename_i ng h1
   have ih:=aC.ti hk h ha
   obtain ⟨o,ho,⟨hw,v,d,hv,hd,hl,rfl⟩ | ⟨hw,mW,hl,rfl⟩⟩:=akb h1
   ·exact aC.val ho hw hk (ahO hv (by rw [hd]; exact hl)) (by rw [hd]; exact aB.refl _) ih
   ·exact aC.unwanted ho hw hl (aB.refl _) ih
  ·cases h
theorem At.lv(m:Nat){ops:Array Oper}{is sR:List Nat}(ha:At ab c R H st' (.inRegion ops sR::k))(h:Go.Lg.ti (nz.off P) (uY.ki P) ops c.n (is.take m) st=some st':=by rfl)(hr:is.drop m=sR:=by rfl)(hk:(c.kind == CallKind.early)=false:=by rfl):At ab c R H st (.inRegion ops is::k):=by
 subst hr
 have:=At.ti (rest:=is.drop m) hk h ha
 rwa [List.take_append_drop] at this
theorem aC.lv(m:Nat){ops:Array Oper}{is sR:List Nat}(ha:aC J c st' (.inRegion ops sR::k))(h:Go.Lg.ti (nz.off P) (uY.ki P) ops c.n (is.take m) st=some st':=by rfl)(hr:is.drop m=sR:=by rfl)(hk:(c.kind == CallKind.early)=false:=by rfl):aC J c st (.inRegion ops is::k):=by
 subst hr
 have:=aC.ti (rest:=is.drop m) hk h ha
 rwa [List.take_append_drop] at this
end
section
variable {P:Program} {B:Base} {main:Bool} {ab:Jd P B main} {J:QJ P} {c:Ctx} {R:az} {H:ah} {st st':St} {k:List Item}
theorem At.is(t:Nat){v v':Value}{todo:List Item}(hx:st.lookup t=some v)(hv:v=v')(h:At ab c R H ((t,v')::st) todo):At ab c R H st todo:=by
 subst hv
 refine At.sub (λ u x hu=>?_) h
 rw [List.lookup_cons] at hu
 split at hu
 ·rename_i e; rw [beq_iff_eq] at e; subst e; rw [hx]; exact hu
 ·exact hu
theorem aC.is(t:Nat){v v':Value}{todo:List Item}(hx:st.lookup t=some v)(hv:v=v')(h:aC J c ((t,v')::st) todo):aC J c st todo:=by
 subst hv
 refine aC.sub (λ u x hu=>?_) h
 rw [List.lookup_cons] at hu
 split at hu
 ·rename_i e; rw [beq_iff_eq] at e; subst e; rw [hx]; exact hu
 ·exact hu
theorem aC.rg(is:List Nat){id:Nat}{ops:Array Oper}(h:aC J c st (.inRegion ops is::k))(hn:ops.size=is.length:=by rfl)(mX:List.range is.length=is:=by rfl):aC J c st (.code (.region id ops false)::k):=aC.region hn mX h
def lD(P:Program)(J K:Goroutine→Prop)(f:FuncId)(vs:List Value):Prop :=
 ∀ fr cs,K (aY (Frame.finish fr (iY [])) cs)→J (aY (Frame.enter P f vs.toArray .normal) (fr::cs))
variable {ops:Array Oper} {i:Nat} {rest:List Nat} {o:Oper} {f:FuncId} {as:Array Operand} {ji:Array TypeId} {vs:List Value} {K:Goroutine→Prop}
theorem At.xZ(ho:ops[i]? = some o)(hw:cY ops st o=some true)(gw:(c.kind == CallKind.early)=false)(an:o.op = .call ⟨.value (.func f),as,ji⟩)(ha:jG st as.toList=some vs)(he:bq P f)(hd:cx o.dst c.n)
  (hf:lD P (ab.J R H) K f vs) (h:∀ aZ,dh c.n (cB o.dst (iY []) st) aZ→K (aY (aX c aZ (.inRegion ops rest::k)) c.cs)):At ab c R H st (.inRegion ops (i::rest)::k):=λ tmps ht=>by
 obtain ⟨fn,h1,h2,h3⟩:=he.ex
 have hv:ai P (execOp (aX c tmps (.inRegion ops (i::rest)::k)).eval o) (.enter f vs.toArray):=by
  rw [Hj an ht ha]
  exact F9 h1 h2 h3
 refine Jd.ctl rfl (λ w=>?_) (hf (aX c tmps (.inRegion ops (i::rest)::k)) c.cs ?_)
 ·rw [qS ho (lu ht hw) (by rw [an]; rfl),J7 rfl (by simpa [aX] using gw) (hv w).1,(hv w).2]
  rfl
 ·rw [ru ho]
  exact h _ (ht.put _ hd)
theorem lD.oX{fn:Func}{body:Code}{n:Nat}(hf:P.funcs[f]? = some fn)(hb:fn.body=some body)(qz:fn.ntmps=n)(hn:Nat.ble vs.length n=true)
  (h:∀ fr cs,K (aY (Frame.finish fr (iY [])) cs)→At ab ⟨f,.normal,none,n,[],fr::cs⟩ R H (u7 0 vs) [.code body]):lD P (ab.J R H) K f vs:=λ fr cs hk=>Jd.enter hf hb qz hn (h fr cs hk)
theorem At.rp{m:Nat}{fn:Func}{fr:Frame}{cs:List Frame}{todo:List Item}(hf:P.funcs[f]? = some fn)(hr:fn.results.toList=[])(hj:ab.J R H (aY (fr.finish (iY [])) cs))(hm:todo=[]∨∃ k,todo = .code .ret::k):At ab ⟨f,.normal,none,m,[],fr::cs⟩ R H st todo:=by
 have key:∀ tmps todo,dh m st tmps→ab.J R H (aY (j0 ⟨f,.normal,none,m,[],fr::cs⟩ tmps todo) (fr::cs)):=λ tmps todo ht=>Jd.back hf ht (by rw [hr]; rfl) hj
 rcases hm with rfl | ⟨k,rfl⟩
 ·exact At.toEnd rfl λ tmps ht=>key tmps _ ht
 ·exact At.abZ rfl λ tmps ht=>key tmps _ ht
end
section
variable {P:Program} {main:Bool} {c:Ctx} {st:St} {k:List Item} {ops:Array Oper} {i:Nat} {rest:List Nat} {o:Oper} {f:FuncId} {as:Array Operand} {ji:Array TypeId} {vs:List Value}
theorem aNg{tmps:Array Value}{w:World}(ho:ops[i]? = some o)(hw:cY ops st o=some true)(gw:(c.kind == CallKind.early)=false)(an:o.op = .call ⟨.value (.func f),as,ji⟩)(hf:gT P f Extern.OsHooks.nano)(hq:(P.funcs[f]?).any (·.norace)=true)(ht:dh c.n st tmps)(ha:jG st as.toList=some vs) :
  stepG P main (aY (aX c tmps (.inRegion ops (i::rest)::k)) c.cs) w = .go (aY (aX c (gd o.dst (.int .i64 ((w.os.mono+w.tick:Nat):Int)) tmps) (.inRegion ops rest::k)) c.cs) w.later #[]:=by
 obtain ⟨fn,h1,h2,h3,h4,h5⟩:=hf.ex
 have lf:(Extern.OsHooks.nano vs.toArray).run P w = .ok (.int .i64 ((w.os.mono+w.tick:Nat):Int)) w.later:=rfl
 rw [qS ho (lu ht hw) (by rw [an]; rfl),← ru (rest:=rest) (k:=k) (c:=c) (tmps:=tmps) (v:=.int .i64 ((w.os.mono+w.tick:Nat):Int)) ho,Hj an ht ha]
 have hr:(callFunc f vs.toArray).run P w = .ok (.value (.int .i64 ((w.os.mono+w.tick:Nat):Int))) w.later:=by rw [run_callFunc_extern h1 h2 h3 h4 h5,lf]; rfl
 rw [DF (by simpa [aX] using gw) hr]
 congr 1
 rw [events_callFunc_extern h1 h2 h3 h4 h5]
 simp only [List.push_toArray,List.nil_append]
 have kM:(Extern.OsHooks.nano vs.toArray).events P w #[⟨.mark (.extern f),false,true⟩]=#[⟨.mark (.extern f),false,true⟩]++#[⟨.output,true,false⟩]:=rfl
 rw [kM,seen_entry_out _ _ hq]
end
section
variable {F:Fx} {c:Ctx} {R:az} {H:ah} {st:St} {kk:List Item} {ops:Array Oper} {i:Nat} {rest:List Nat} {o:Oper} {f:FuncId} {as:Array Operand} {ji:Array TypeId} {vs:List Value} {n k j:Nat} {T:Lp}
theorem KW.nano(hB:∀ w:World,F.B.os w.os→F.B.os w.later.os)(ho:ops[i]? = some o)(hw:cY ops st o=some true)(gw:(c.kind == CallKind.early)=false)(an:o.op = .call ⟨.value (.func f),as,ji⟩)(hf:gT F.P f Extern.OsHooks.nano)(hq:(F.P.funcs[f]?).any (·.norace)=true)(ha:jG st as.toList=some vs)(hd:cx o.dst c.n)
  (hT:T ≠ .us∧T ≠ .d4) (kM:Hh F T #[])
  (h:rN F.N T→∀ z:Int,∃ T',(∀ s,dK T s T' s)∧Aq F j T T'∧∀ aZ,dh c.n (cB o.dst (.int .i64 z) st) aZ→yO F (KW F n k) k j T T' R H (aY (aX c aZ (.inRegion ops rest::kk)) c.cs)) :
  ∀ tmps,dh c.n st tmps→KW F (n+1) k j T R H (aY (aX c tmps (.inRegion ops (i::rest)::kk)) c.cs):=by
 intro tmps ht ot
 refine ⟨rfl,rfl,λ e=>by rcases e with e | e; exact absurd e hT.1; exact absurd e hT.2,λ w s zc bp zf mY=>.inr ?_⟩
 obtain ⟨T',h1,h2,h3⟩:=h ot ((w.os.mono+w.tick:Nat):Int)
 exact ⟨_,w.later,#[],T',s,h1 s,h2,kM,aNg ho hw gw an hf hq ht ha,cH.later bp (hB w),h3 _ (ht.put _ hd)⟩
end
section
variable {F:Fx} {c:Ctx} {R:az} {H:ah} {st:St} {todo:List Item} {n k j:Nat} {T T':Lp} {T0:Mp}
theorem At.aNi(h:∀ m,m < n→∀ tmps,dh c.n st tmps→KW F (m+1) k j T R H (aY (aX c tmps todo) c.cs)):At (M5 F.P F.B false (KW F n k j T)) c R H st todo:=λ tmps ht=>by
 cases n with
 | zero=>exact Own.stop _ _ _ _ trivial
 | succ n=>exact Own.stop _ _ _ _ (h n (Nat.lt_succ_self n) tmps ht)
theorem At.aNh(h:∀ m,m < n→∀ tmps,dh c.n st tmps→KM F (m+1) T0 R H (aY (aX c tmps todo) c.cs)):At (M5 F.P F.B true (KM F n T0)) c R H st todo:=λ tmps ht=>by
 cases n with
 | zero=>exact Own.stop _ _ _ _ trivial
 | succ n=>exact Own.stop _ _ _ _ (h n (Nat.lt_succ_self n) tmps ht)
theorem pY(h:T ≠ .ue):Aq F j T T':=by unfold Aq; split <;> first | trivial | exact absurd rfl h
theorem ava(c:Lc):hd c = .sq c∨hd c = .c2 c:=by unfold hd; split; exact .inl rfl; exact .inr rfl
theorem aM1(c:Lc):j4 c = .c1 c∨j4 c = .r1 c:=by unfold j4; split; exact .inl rfl; exact .inr rfl
theorem aBT(m:Wd):hu m = .ue∨hu m = .uc m:=by unfold hu; split; exact .inl rfl; exact .inr rfl
theorem RP{K:Nat→Lp→az→ah→Goroutine→Prop}{c:Lc}{g:Goroutine}(h:Own F.P F.B false (K j (hd c)) R H g):yO F K k j T (hd c) R H g:=by rcases ava c with e | e <;> rw [e] at h ⊢ <;> exact h
theorem aKB{K:Nat→Lp→az→ah→Goroutine→Prop}{c:Lc}{g:Goroutine}(h:Own F.P F.B false (K j (j4 c)) R H g):yO F K k j T (j4 c) R H g:=by rcases aM1 c with e | e <;> rw [e] at h ⊢ <;> exact h
theorem aiU{K:Nat→Lp→az→ah→Goroutine→Prop}{m:Wd}{g:Goroutine}(h:Own F.P F.B false (K j (hu m)) R H g):yO F K k j T (hu m) R H g:=by rcases aBT m with e | e <;> rw [e] at h ⊢ <;> exact h
end
section
variable {P:Program} {B:Base} {main:Bool} {ab:Jd P B main} {c:Ctx} {R:az} {H:ah} {st st':St} {k:List Item} {ops:Array Oper} {i:Nat} {rest:List Nat} {o:Oper} {f:FuncId} {as:Array Operand} {ji:Array TypeId} {e:Array Value→Sem Value} {vs:List Value} {v:Value}
theorem At.ext(ho:ops[i]? = some o)(hw:cY ops st o=some true)(gw:(c.kind == CallKind.early)=false)(an:o.op = .call ⟨.value (.func f),as,ji⟩)(hd:cx o.dst c.n)(hf:gT P f e)(ha:jG st as.toList=some vs)
  (hE:∀ w,nT P (e vs.toArray) f w v w #[]) (hs:aB (cB o.dst v st) st') (h:At ab c R H st' (.inRegion ops rest::k)):At ab c R H st (.inRegion ops (i::rest)::k):=λ _ ht =>
 Jd.ctl rfl (λ w=>Nm ho hw gw an hf ht ha (hE w)) (h _ ((ht.put v hd).sub hs))
theorem VF{w:World}:nT P (pure v) f w v w #[]:=⟨rfl,rfl,by simp⟩
theorem At.join{x:Operand}{th el:Code}{b:Bool}(hx:bl st x=some (.bool b))(h1:b=true→At ab c R H st' k→At ab c R H st (.code th::k))(h2:b=false→At ab c R H st' k→At ab c R H st (.code el::k))(h:At ab c R H st' k):At ab c R H st (.code (.cond x th el)::k):=by
 cases b
 ·exact At.eX hx rfl (h2 rfl h)
 ·exact At.gb hx rfl (h1 rfl h)
theorem At.head{X:Type}{Jn:Nat→X→Jd P B main}{S:X→St}{ok:X→Prop}{todo:List Item}(step:∀ n,(∀ m,m < n→∀ x,ok x→At (Jn m x) c R H (S x) todo)→∀ x,ok x→At (Jn n x) c R H (S x) todo)(n:Nat)(x:X)(hx:ok x):At (Jn n x) c R H (S x) todo:=by
 induction n using Nat.strongRecOn generalizing x with
 | _ n ih=>exact step n (λ m hm x hx=>ih m hm x hx) x hx
end
open Go.ChangeShapes Go.RowKit
open Go.ConcM (OsLater)
section
variable {P:Program} {B:Base} {PW:Value→World→Prop} {R:az} {H:ah} {st:St} {k:List Item}
theorem jD.apE{g:Goroutine}(hs:g.status = .running)(h:∀ w,Fits B R H w→∃ v w' es R' H',stepG P true g w = .ended (.done v) w' es∧(∀ e∈es,iP R H w.heap.size w'.heap.size e)∧gv B R H w R' H' w'∧PW v w'):jD P B PW R H g:=by
 refine jD.pick hs λ gs w sl rS d t q dd h0 hA de=>?_
 obtain ⟨v,w',es,R',H',h1,h2,hu,h3⟩:=h _ hA.fits
 have LC:=runT_many_ended (P:=P) (sl:=rS) (i:=0) h0 (show stepG P (0 == 0) g (w.at d)=_ from h1)
 have Qj:=M6 hA.mem aa7 aa6 hA.tr (i:=0) rfl (.inl rfl) h2 (.inl rfl) hu g.frame.fn g.frame.place
 rw [RX] at Qj
 refine l8.end (de.trans LC) ⟨v,rfl,h3,Qj.2.clean,Qj.2.handed,⟨λ x hx=>?_,rfl⟩,λ j x hx hj=>?_⟩
 ·obtain ⟨j,hj⟩:=List.mem_iff_getElem?.1 hx
  rw [List.getElem?_drop] at hj
  exact ⟨_,(hA.lv (1+j) x (by omega) (by simpa [Go.Conc.crowd] using hj)).leaves⟩
 ·have hq:=hA.lv j x (by omega) hx
  refine ⟨q j,?_⟩
  have e:Trace.deaf _ j _=dd j:=Qj.2.deaf j
  rw [e]
  exact hq.hears _
def On(P:Program)(B:Base)(PW:Value→World→Prop)(f:FuncId)(args:Array Value)(R:az)(H:ah)(Post:Value→az→ah→Prop):Prop :=
 (∀ v R' H' w,Post v R' H'→Fits B R' H' w→PW v w)→jD P B PW R H (aY (Frame.enter P f args .normal) [])
theorem On.oX{f:FuncId}{fn:Func}{body:Code}{args:List Value}{n:Nat}{Post:Value→az→ah→Prop}(hf:P.funcs[f]? = some fn)(hb:fn.body=some body)(qz:fn.ntmps=n)(hn:Nat.ble args.length n=true)
  (h:(∀ v R' H' w,Post v R' H'→Fits B R' H' w→PW v w)→At (FE P B PW) ⟨f,.normal,none,n,[],[]⟩ R H (u7 0 args) [.code body]):On P B PW f args.toArray R H Post:=by
 subst qz
 intro hk
 have hn:args.length≤fn.ntmps:=by simpa [Nat.ble_eq] using hn
 have:=h hk (args.toArray++Array.replicate (fn.ntmps - args.length) undef) ⟨by simp; omega,λ t v ht=>?_⟩
 ·have e:Frame.enter P f args.toArray .normal=aX ⟨f,.normal,none,fn.ntmps,[],[]⟩ (args.toArray++Array.replicate (fn.ntmps - args.length) undef) [.code body]:=by
   simp [Frame.enter,aX,hf,hb]
  rw [e]
  exact this
 ·obtain ⟨_,h2⟩:=J8 args 0 t v ht
  have bV:t < args.length:=by
   have:=(iO.1 h2).1
   simpa using this
  rw [Array.getElem?_append_left (by simpa using bV)]
  simpa using h2
theorem At.IS{H':ah}{f:FuncId}{n:Nat}{fn:Func}{vs:List Value}{Post:Value→az→ah→Prop}(hf:P.funcs[f]? = some fn)(hi:P.inits.idxOf? f=none)(hr:qg P R H st fn.results.toList vs)(hs:List.Sublist H' H)
  (hk:∀ v R' H' w,Post v R' H'→Fits B R' H' w→PW v w) (hp:Post (iY vs) R H'):At (FE P B PW) ⟨f,.normal,none,n,[],[]⟩ R H st (.code .ret::k):=λ tmps ht=>by
 refine Jd.ctl (g':=aY { (aX ⟨f,.normal,none,n,[],[]⟩ tmps (.code .ret::k)) with mode:=.returning } []) rfl (λ w=>by simp [stepG,stepG.exec,aY,aX])
  (jD.apE rfl λ w hw=>?_)
 obtain ⟨v,w',R',H2,h1,h2,h3,rfl,rfl,rfl⟩:=Sv (P:=P) ht hr w hw
 refine ⟨iY vs,w',seen P f ((results fn tmps).events P w #[]),_,_,?_,λ e he=>h2 e (mem_seen he),h3,hk _ _ _ _ hp (SL hs h3.fits).fits⟩
 simp [stepG,unwind,doReturn,aY,aX,hf,h1,GStep.after,hi]
end
def sF(W:World):az:=λ b=>W.heap[b]?
def G8(W:World):Base:=⟨OsLater W.os,W.tape,W.output⟩
theorem avd(W:World):Fits (G8 W) (sF W) [] W:=⟨λ _ _ h=>h,by simp,by simp,by simp,OsLater.refl _,rfl,rfl⟩
theorem aoF{W w:World}(h:(G8 W).os w.os):(G8 W).os w.later.os:=OsLater.trans h ⟨w.tick,rfl⟩
theorem aKv{P:Program}{PW:Value→World→Prop}{W:World}{g:Goroutine}(h:jD P (G8 W) PW (sF W) [] g) :
  ∃ M last o w' t',runNT P (M+1) (solo g W) #[]=(.ended o w',t')∧runN P M (solo g W) = .next last∧step P last = .ended o w'∧Conc.Good P PW last o w' t':=by
 have nt:∀ k a,touchAt (#[]:Trace) k=some a→False:=λ k a hk=>by simp [touchAt,Trace.act?] at hk
 refine h #[g] W none #[] (λ _=>0) (λ _=>0) rfl ⟨⟨λ i x hx=>?_,λ i j x y gg hx hy=>?_,by simp,by simp⟩,⟨λ i x hx b o hb k a hk=>(nt k a hk).elim,λ i x hx b o hb k a hk=>(nt k a hk).elim,λ b hb=>(by cases hb),λ b hb=>(by cases hb),by simp,λ k a hk=>(nt k a hk).elim,λ i=>rfl,λ a i hi=>(by simp [Trace.act?] at hi),λ said=>?_,λ k a hk=>(nt k a hk).elim⟩,rfl,λ _ _=>rfl,λ i g' hi hg=>?_⟩
 ·unfold only at hx
  split at hx
  ·cases hx; exact avd W
  ·cases hx
 ·unfold only at hx hy
  split at hx
  ·split at hy
   ·omega
   ·cases hy
  ·cases hx
 ·rintro ⟨i,j,_,⟨a,b,h1,_⟩,_⟩
  exact nt i a h1
 ·have:i < 1:=(Array.getElem?_eq_some_iff.1 hg).1
  omega
theorem aoG{W w:World}{R:az}{H:ah}(h:Fits (G8 W) R H w)(hR:aS (sF W) R):Below W.heap.size W { w with os:=W.os }:=by
 have hb:∀ k,k < W.heap.size→w.heap[k]? = W.heap[k]? := λ k hk=>by
  have e:W.heap[k]? = some W.heap[k]:=q6 hk
  rw [e]
  exact h.r k _ (hR k _ e)
 refine ⟨rfl,h.tape,h.out,?_,hb⟩
 by_cases hz:W.heap.size=0
 ·omega
 ·have h1:=hb (W.heap.size - 1) (by omega)
  rw [q6 (xs:=W.heap) (by omega)] at h1
  have:=(Array.getElem?_eq_some_iff.1 h1).1
  show W.heap.size≤w.heap.size
  omega
structure iG (P:Program) (t:TypeId) {α:Type} (C:cQ α) (k:Nat):Prop where
 size:P.cellsOf t=k
 rd:∀ (W:World) (T:Type) (enc:TypeId × Value→T) (sp:Nat→Bool) (held:Bool) (fuel:Nat) (cs:List Value) (x:DataW T × List MemPlace),DataW.trod enc P W 0 sp held fuel t cs=some x→cs.length=k∧∃ a,C (sF W) a cs
theorem iG.int{P:Program}{t:TypeId}{kd:IntKind}(hs:P.cellsOf t=1)(ht:P.underlying t=some (.int kd)):iG P t (CI kd) 1:=⟨hs,λ W T enc sp held fuel cs x h=>by
 obtain ⟨n,rfl,_,_⟩:=DataW.trod_int ht h
 exact ⟨rfl,n,rfl⟩⟩
theorem iG.str{P:Program}{t:TypeId}(hs:P.cellsOf t=1)(ht:P.underlying t=some .string):iG P t CS 1:=⟨hs,λ W T enc sp held fuel cs x h=>by
 obtain ⟨s,rfl,_,_⟩:=DataW.trod_string ht h
 exact ⟨rfl,s,rfl⟩⟩
theorem ano(a:Addr)(i j:Nat)(h:a.spot=none):(a.add i).add j=⟨a.block,a.off+(i+j),none⟩:=by
 obtain ⟨b,o,s⟩:=a
 cases h
 rw [tJ,tJ,Nat.add_assoc]
theorem iG.slice{P:Program}{t e:TypeId}{α:Type}{C:cQ α}{k:Nat}(hs:P.cellsOf t=1)(ht:P.underlying t=some (.slice e))(hk:0 < k)(he:iG P e C k):iG P t (lC C k) 1:=⟨hs,λ W T enc sp held fuel cs x h=>by
 rcases DataW.trod_slice ht h with ⟨rfl,_⟩ | ⟨a,len,cap,elems,rest,n,_,rfl,_,_,hl,_,hlen,mE,_⟩
 ·exact ⟨rfl,[],_,rfl,aa.nil⟩
 refine ⟨rfl,?_⟩
 rw [he.size] at mE
 have each:∀ i:Fin len,∃ (p:α × List Value),C (sF W) p.1 p.2∧p.2.length=k∧∀ j w,p.2[j]? = some w→W.cell? ((a.add (i * k)).add j)=some w:=λ i=>by
  have h1:=mE i i.2
  rw [mN (by omega),Option.bind_eq_some_iff] at h1
  obtain ⟨ch,h2,h3⟩:=h1
  obtain ⟨h4,y,hy⟩:=he.rd _ _ _ _ _ _ _ _ h3
  refine ⟨(y,ch),hy,h4,λ j w hj=>?_⟩
  have h5:=(World.cells?_some h2).2.2 j (by have:=(iO.1 hj).1; simp only at this; omega)
  rw [h5]
  exact hj
 have ag7:0 < len→a.spot=none:=λ jS=>by
  obtain ⟨p,_,h2,h3⟩:=each ⟨0,jS⟩
  have h4:=h3 0 p.2[0] (mN (by omega))
  simpa [Addr.add] using World.cell?_spot h4
 let f:Fin len→α × List Value:=λ i=>(each i).choose
 have hf:∀ i,_:=λ i=>(each i).choose_spec
 let xs:List α:=List.ofFn λ i=>(f i).1
 let es:List Value:=(List.range (len * k)).map λ m=>(W.cell? ⟨a.block,a.off+m,none⟩).getD undef
 have Q3:xs.length=len:=by simp [xs]
 have cell:∀ i j w (hi:i < len),(f ⟨i,hi⟩).2[j]? = some w→W.cell? ⟨a.block,a.off+(i * k+j),none⟩=some w:=λ i j w hi hj=>by
  have:=(hf ⟨i,hi⟩).2.2 j w hj
  rwa [ano _ _ _ (ag7 (by omega))] at this
 have idx:∀ i j,i < len→j < k→i * k+j < len * k:=λ i j hi hj=>by
  have:(i+1) * k≤len * k:=Nat.mul_le_mul_right k hi
  rw [Nat.add_mul] at this
  omega
 refine ⟨xs,_,rfl,some a,cap,es,by rw [Q3],⟨by simp [es,Q3],λ i x hx=>?_⟩,by omega,λ da=>?_⟩
 ·have hi:i < len:=by rw [← Q3]; exact (iO.1 hx).1
  have hxe:x=(f ⟨i,hi⟩).1:=by
   simp only [xs,List.getElem?_ofFn,hi,dif_pos,j8] at hx
   exact hx.symm
  subst hxe
  refine ⟨(f ⟨i,hi⟩).2,(hf ⟨i,hi⟩).1,(hf ⟨i,hi⟩).2.1,λ j w hj=>?_⟩
  have oe:j < k:=by have:=(iO.1 hj).1; rw [(hf ⟨i,hi⟩).2.1] at this; exact this
  simp only [es,List.getElem?_map,List.getElem?_range (idx i j hi oe),Option.map_some,cell i j w hi hj,oz]
 ·have jS:0 < len:=by rw [← Q3]; exact List.length_pos_iff.2 da
  obtain ⟨b,o,s⟩:=a
  obtain rfl:s=none:=ag7 jS
  have all:∀ m,m < len * k→∃ w,W.cell? ⟨b,o+m,none⟩=some w:=λ m hm=>by
   have hi:m / k < len:=Nat.div_lt_of_lt_mul (by rw [Nat.mul_comm]; exact hm)
   have hj:m % k < (f ⟨m / k,hi⟩).2.length:=by rw [(hf ⟨m / k,hi⟩).2.1]; exact Nat.mod_lt _ hk
   have:=cell (m / k) (m % k) _ hi (mN hj)
   rw [show m / k * k+m % k=m by rw [Nat.mul_comm]; exact Nat.div_add_mod m k] at this
   exact ⟨_,this⟩
  have h0:∃ arr e fz,W.heap[b]? = some (.cells arr e fz):=by
   obtain ⟨w,hw⟩:=all 0 (Nat.mul_pos jS hk)
   unfold World.cell? at hw
   simp only at hw
   split at hw
   ·rename_i c e' fz hb
    exact ⟨c,e',fz,hb⟩
   ·cases hw
  obtain ⟨arr,e',fz,hb⟩:=h0
  refine ⟨b,o,arr,e',fz,rfl,hb,λ j w hj=>?_⟩
  have Hv:j < len * k:=by have:=(iO.1 hj).1; simpa [es] using this
  obtain ⟨w',QQ⟩:=all j Hv
  simp only [es,List.getElem?_map,List.getElem?_range Hv,Option.map_some,QQ,oz,j8] at hj
  subst hj
  simpa [World.cell?,hb] using QQ⟩
theorem iG.field{P:Program}{t:TypeId}{α:Type}{C:cQ α}{k:Nat}(hC:iG P t C k){W:World}{T:Type}{enc:TypeId × Value→T}{sp:Nat→Bool}{held:Bool}{n:Nat}{cs:List Value}{xs:List (DataW T × List MemPlace)}{i m:Nat}{f:Field}(es:List Value)(hx:xs.length=m)
  (h:DataW.trod enc P W 0 sp held n f.type ((cs.drop f.offset).take (P.cellsOf f.type))=xs[i]?) (hi:Nat.blt i m=true:=by rfl) (hf:f.type=t:=by rfl) (he:(cs.drop f.offset).take k=es:=by rfl):∃ a,C (sF W) a es:=by
 rw [hf,hC.size,he,mN (by rw [hx]; simpa [Nat.blt_eq] using hi)] at h
 exact (hC.rd _ _ _ _ _ _ _ _ h).2
theorem ako{T:Type}{enc:TypeId × Value→T}{P:Program}(hl:laidOutB P=true){W W':World}(hb:Below W.heap.size W W') :
  ∀ {ts:List TypeId} {vs:List Value} {ds:List (DataW T)} {ps:List MemPlace},(ts.all λ t=>P.readableRec t && decide (t < P.types.size))=true→DataW.TrodAll enc P W 0 (λ _=>true) true ts vs ds ps→(∀ x∈ps,x.block < W.heap.size) →
   DataW.TrodAll enc P W' 0 (λ b=>decide (b < W.heap.size)) true ts vs ds ps
 | [],[],[],_,_,h,_=>h
 | t::ts,v::vs,d::ds,_,hr,⟨p,q,h1,h2,e⟩,bV=>by
  subst e
  simp only [List.all_cons,fF,decide_eq_true_eq] at hr
  exact ⟨p,q,Below.trod hl hr.1.1 hr.1.2 h1 hb (λ x hx=>bV x (by simp [hx])),ako hl hb hr.2 h2 (λ x hx=>bV x (by simp [hx])),rfl⟩
 | [],[],_::_,_,_,h,_=>h.elim
 | [],_::_,_,_,_,h,_=>h.elim
 | _::_,[],_,_,_,h,_=>h.elim
 | _::_,_::_,[],_,_,h,_=>h.elim
theorem aOu{T:Type}{enc:TypeId × Value→T}{C:Checked}{os:Os}{f:FuncId}{fn:Func}{s:ChangeSpec}{conds:List PathCond}{apart:Bool}{X:World→Array Value→Prop}(w0:World)(args:Array Value)(fuel:Nat)(zf:w0.os=os)
  (bp:(w0.forCall (λ _ _=>0) ⟨#[],args,[]⟩).Shaped C.prog)
  (gY:Input.okWideB C.prog (w0.forCall (λ _ _=>0) ⟨#[],args,[]⟩) f ⟨#[],args,[]⟩=true)
  (XK:s.preB enc C.prog fn conds apart (w0.forCall (λ _ _=>0) ⟨#[],args,[]⟩).memory args fuel=true)
  (gp:s.sizedB enc C.prog fn apart (w0.forCall (λ _ _=>0) ⟨#[],args,[]⟩).memory args fuel=true)
  (hx:X (w0.forCall (λ _ _=>0) ⟨#[],args,[]⟩).memory args) :
  ∃ (w:World) (tape:Tape) (i:Input),w.os=os∧(w.forCall tape i).Shaped C.prog∧i.vars=[]∧Input.okWide C.prog (w.forCall tape i) .any w.heap.size f i ∧
   ((s.pre enc C.prog fn conds apart (w.forCall tape i).memory i.args∧X (w.forCall tape i).memory i.args)∧sizedMet enc C.prog fn (OpenSpec.ofChange s) apart (w.forCall tape i).memory i.args)∧({ calm:=true }:Assume).holds C.prog (lone (Frame.enter C.prog f i.args .normal) [] (w.forCall tape i)) :=
 ⟨w0,λ _ _=>0,⟨#[],args,[]⟩,zf,bp,(Input.okWide_of_okWideB (base:=0) gY).1,(Input.okWide_of_okWideB gY).2,⟨⟨ChangeSpec.pre_of_preB XK,hx⟩,sizedMet_of_sizedB gp⟩,by
  simp only [Assume.holds]
  exact ⟨by simp,λ _ _ _ _=>rfl,by simp,by simp,by simp⟩⟩
theorem aHO{T:Type}{enc:TypeId × Value→T}{a:Assume}{C:Checked}{os:Os}{f:FuncId}{fn:Func}{s:ChangeSpec}{F:Stop.Interp}{conds:List PathCond}{apart fresh handsOn:Bool}{X:World→Array Value→Prop}
  (hX:∀ (w w':World) (args:Array Value),w.heap=w'.heap→X w args→X w' args)
  (own:ownKnob C.prog.godebug=none) (started:os.Started) (W5:C.prog.funcs[f]? = some fn)
  (witness:∃ (w:World) (tape:Tape) (i:Input),w.os=os∧(w.forCall tape i).Shaped C.prog∧i.vars=[]∧Input.okWide C.prog (w.forCall tape i) .any w.heap.size f i ∧
   ((s.pre enc C.prog fn conds apart (w.forCall tape i).memory i.args∧X (w.forCall tape i).memory i.args)∧sizedMet enc C.prog fn (OpenSpec.ofChange s) apart (w.forCall tape i).memory i.args)∧a.holds C.prog (lone (Frame.enter C.prog f i.args .normal) [] (w.forCall tape i)))
  (runs:∀ (W:World) (base:Nat) (args:Array Value) (ds gs:List (DataW T)) (before:List MemPlace),
   (∀ (j:Nat) t v,fn.params[j]? = some t→args[j]? = some v→Value.okWide C.prog W .any base t v) →
   DataW.Whole enc C.prog fn.params.toList s.vars apart W args.toList ds gs before→X W args →
   ∃ M last o w' t',runNT C.prog (M+1) (solo (aY (Frame.enter C.prog f args .normal) []) W) #[]=(.ended o w',t')∧runN C.prog M (solo (aY (Frame.enter C.prog f args .normal) []) W) = .next last ∧
    Go.step C.prog last = .ended o w'∧Conc.Good C.prog (λ v W'=>s.post enc C.prog fn apart fresh handsOn false W args v { W' with os:=W.os }∧OsLater W.os W'.os) last o w' t') :
  ReturnsInLeavingWide a C os f .any (λ w args=>(s.pre enc C.prog fn conds apart w args∧X w args)∧sizedMet enc C.prog fn (OpenSpec.ofChange s) apart w args) ((OpenSpec.ofChange s).postWith enc C.prog fn F (outsideKept [.timePasses]) apart fresh handsOn):=by
 refine returnsInLeavingWide_of_good own started witness ?_
 intro w tape i _ _ _ gY XK _
 obtain ⟨_,_,_,Hk,avm,_,_,_,_,B3⟩:=gY
 have e:Hk=fn:=kz (avm.symm.trans W5)
 subst e
 obtain ⟨⟨⟨ds,gs,before,hw,hc⟩,hx⟩,_⟩:=XK
 have QQ:=DataW.Whole.of_heap (w':=w.forCall tape i) (by rfl) hw
 obtain ⟨M,last,o,w',t',h1,h2,h3,h4⟩:=runs (w.forCall tape i) w.heap.size i.args ds gs before B3 QQ (hX _ _ _ (by rfl) hx)
 exact ⟨M,last,o,w',t',h1,h2,h3,h4.mono λ v hp=>postWith_blind (postWith_of_post hp.1 hp.2)⟩
theorem aLM{T:Type}{enc:TypeId × Value→T}{P:Program}{fn:Func}{s:ChangeSpec}{apart fresh handsOn again:Bool}{W w:World}{args:Array Value}{ds gs:List (DataW T)}{before:List MemPlace}{tb:TypeId}
  (hl:laidOutB P=true) (hr:(fn.params.toList.all λ t=>P.readableRec t && decide (t < P.types.size))=true) (hv:s.vars=[]) (ay7:fn.resultTypes=#[tb]) (htb:P.underlying tb=some .bool)
  (hW:DataW.Whole enc P fn.params.toList s.vars apart W args.toList ds gs before) (hag:again=false) (hb:Below W.heap.size W w)
  (h1:(s.fn T (ds++[])).results=[.lit (.bool true)]) (h2:(s.fn T (ds++[])).args=ds) (h3:(s.fn T (ds++[])).vars=[]):s.post enc P fn apart fresh handsOn again W args (.bool true) w:=by
 have PM:=hW
 have bV:∀ x∈before,x.block < W.heap.size:=λ x hx=>by simpa using PM.lt x hx
 obtain ⟨p,q,hA,hV,e,_,_⟩:=hW
 rw [hv] at hV
 obtain ⟨e1,e2⟩:=trodVars_none hV
 subst e1 e2 e
 refine ⟨ds,[],p++[],[],p,[],PM,?_,?_,by rw [hv,h3]; rfl,hb.frame _,λ h=>by rw [hag] at h; cases h⟩
 ·rw [h1,ay7]
  exact trodAll_mk1 (shut_bool htb true)
 ·rw [h2]
  exact ako hl hb hr hA (λ x hx=>bV x (by simp [hx]))
theorem ao8{W:World}{b o:Nat}{v:Value}(h:W.cell? ⟨b,o,none⟩=some v):Cell (sF W) [] ⟨b,o,none⟩ v:=by
 unfold World.cell? at h
 simp only at h
 split at h
 ·rename_i c e fz hb
  exact ⟨rfl,c,e,fz,.inl hb,by simpa using h⟩
 ·cases h
end Go.Lg
