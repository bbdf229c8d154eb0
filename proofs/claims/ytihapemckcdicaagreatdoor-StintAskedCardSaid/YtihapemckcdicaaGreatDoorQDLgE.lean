/- What enters and leaves the machine; the run of a row. Conditions: none. -/
import Derived.Test.YtihapemckcdicaaGreatDoorQDLgC
import Derived.Test.YtihapemckcdicaaGreatDoorQDLgB
import Derived.Test.YtihapemckcdicaaGreatDoorQDLgD
import Derived.Conc.AtomicLaws2
import Derived.Conc.ClockLaws
import Derived.Conc.EventLaws
import Derived.Laws.LoneSync
import Derived.Conc.SmallLaws
import Derived.Conc.LeavingOf
import Derived.Conc.HoldsTime
import Derived.Handed
import Derived.LaidMore
import Derived.Below
import Derived.Carry
import Derived.SizedLaws
namespace Go.Lg
open Go.Conc Go.ConcN
structure fT (P:Program) (f:FuncId) (e:Array Value→Sem Value):Prop where
 ex:∃ fn,P.funcs[f]? = some fn∧(fn.name == "runtime.NumGoroutine")=false∧fn.body.isNone=true∧Extern.findNext fn=none∧Extern.find fn=some e
def mC(P:Program)(s:Sem Value)(f:FuncId)(w:World)(v:Value)(w':World)(lY:Array Event):Prop :=
 s.run P w = .ok v w'∧s.events P w #[⟨.mark (.extern f),false,true⟩]=#[⟨.mark (.extern f),false,true⟩]++lY∧∀ x∈lY,x.sync=true∧∀ g,x.loc ≠ .mark (.extern g)
section
variable {P:Program} {main:Bool} {c:Ctx} {st:St} {k:List Item} {ops:Array Oper} {i:Nat} {rest:List Nat} {o:Oper} {f:FuncId} {as:Array Operand} {gL:Array TypeId} {e:Array Value→Sem Value} {vs:List Value} {tmps:Array Value} {w w':World} {v:Value} {lY:Array Event}
theorem Cs{tmps:Array Value}(an:o.op = .call ⟨.value (.func f),as,gL⟩)(ht:cL c.n st tmps)(ha:ia st as.toList=some vs):execOp (aV c tmps (.inRegion ops (i::rest)::k)).eval o=callFunc f vs.toArray:=by
 have hk:=ht.knows c (.inRegion ops (i::rest)::k)
 have ef:(aV c tmps (.inRegion ops (i::rest)::k)).eval (.func f) = .func (.func f) #[] #[]:=rfl
 have e2:as.map (aV c tmps (.inRegion ops (i::rest)::k)).eval=vs.toArray:=by apply Array.ext'; simpa using zC hk _ _ ha
 unfold execOp
 simp [an,resolve,Deferred.ofValue,invoke,ef,e2]
theorem Ie(ho:ops[i]? = some o)(hw:cF ops st o=some true)(fy:(c.kind == CallKind.early)=false)(an:o.op = .call ⟨.value (.func f),as,gL⟩)(hf:fT P f e)(ht:cL c.n st tmps)(ha:ia st as.toList=some vs)(hE:mC P (e vs.toArray) f w v w' lY) :
  stepG P main (aX (aV c tmps (.inRegion ops (i::rest)::k)) c.cs) w = .go (aX (aV c (fg o.dst v tmps) (.inRegion ops rest::k)) c.cs) w' lY:=by
 obtain ⟨fn,h1,h2,h3,h4,h5⟩:=hf.ex
 obtain ⟨jS,jv,hs⟩:=hE
 rw [oN ho (jY ht hw) (by rw [an]; rfl),← pa (rest:=rest) (k:=k) (c:=c) (tmps:=tmps) (v:=v) ho,Cs an ht ha]
 have hr:(callFunc f vs.toArray).run P w = .ok (.value v) w':=by rw [run_callFunc_extern h1 h2 h3 h4 h5,jS]; rfl
 rw [zB (by simpa [aV] using fy) hr]
 congr 1
 rw [events_callFunc_extern h1 h2 h3 h4 h5]
 simp only [List.push_toArray,List.nil_append]
 rw [jv,seen_entry _ _ _ hs]
theorem abE(ho:ops[i]? = some o)(hw:cF ops st o=some true)(an:o.op = .call ⟨.value (.func f),as,gL⟩)(hf:fT P f e)(ht:cL c.n st tmps)(ha:ia st as.toList=some vs)(jS:(e vs.toArray).run P w = .halt .blocked w) :
  stepG P main (aX (aV c tmps (.inRegion ops (i::rest)::k)) c.cs) w = .go { aX (aV c tmps (.inRegion ops (i::rest)::k)) c.cs with status:=.blocked } w #[]:=by
 obtain ⟨fn,h1,h2,h3,h4,h5⟩:=hf.ex
 rw [oN ho (jY ht hw) (by rw [an]; rfl),Cs an ht ha]
 have hr:(callFunc f vs.toArray).run P w = .halt .blocked w:=by rw [run_callFunc_extern h1 h2 h3 h4 h5,jS]; rfl
 simp [stepG.apply,hr,aX,GStep.after,seen_none]
theorem ayw(ho:ops[i]? = some o)(an:o.op = .call ⟨.value (.func f),as,gL⟩)(hf:fT P f e):mayWake P (aX (aV c tmps (.inRegion ops (i::rest)::k)) c.cs)=true:=by
 obtain ⟨fn,h1,_,h3,_⟩:=hf.ex
 have h3':fn.body.isSome=false:=by cases hb:fn.body <;> simp_all
 simp [mayWake,aX,aV,ho,an,Frame.eval,h1,h3']
end
section
variable {P:Program} {f:FuncId} {w:World} {ad:Addr} {k:IntKind}
theorem pQ{m:Mark}(hm:∀ g,m ≠ .extern g):mC P (do mark m; pure Extern.Race.none_) f w (.tuple #[]) w (said m) :=
 ⟨by simp [Extern.Race.none_],by simp [said],λ x hx=>by
  simp [said] at hx; subst hx; exact ⟨rfl,λ g h=>hm g (by cases h; rfl)⟩⟩
theorem zH{mk:Addr→Mark}(hm:∀ ad g,mk ad ≠ .extern g){vs:List Value}(hv:vs[0]? = some (.pointer (some ad))):mC P (Extern.Race.marked mk vs.toArray) f w (.tuple #[]) w (said (mk ad)) :=
 ⟨by simp [Extern.Race.marked,Extern.Race.at_,hv,Extern.Race.none_],by simp [Extern.Race.marked,Extern.Race.at_,hv,said],λ x hx=>by
  simp [said] at hx; subst hx; exact ⟨rfl,λ g h=>hm ad g (Loc.mark.inj h)⟩⟩
def atR(ad:Addr):Array Event:=#[⟨.cell ad,false,true⟩]
def Fa(ad:Addr):Array Event:=#[⟨.cell ad,true,true⟩]
def Jl(ad:Addr):Array Event:=#[⟨.cell ad,false,true⟩,⟨.cell ad,true,true⟩]
theorem Cp{v n:Int}(hc:w.cell? ad=some (.int k v))(hz:w.frozen? ad=false):mC P (Extern.Atomic.casT (.int k) #[.pointer (some ad),.int k v,.int k n]) f w (.bool true) (w.setCell ad (.int k n)) (Jl ad) :=
 ⟨by rw [casT_eq]; exact run_cas_hit_entry hc hz,by rw [casT_eq,events_cas_hit_entry hc hz]; rfl,sync_rw ad⟩
theorem FC{v old n:Int}(hc:w.cell? ad=some (.int k v))(hz:w.frozen? ad=false)(eB:¬ v=old):mC P (Extern.Atomic.casT (.int k) #[.pointer (some ad),.int k old,.int k n]) f w (.bool false) w (atR ad) :=
 ⟨by rw [casT_eq]; exact run_cas_miss_entry hc hz eB,by rw [casT_eq,events_cas_miss_entry hc hz eB]; rfl,sync_r ad⟩
theorem xU{v d:Int}(hc:w.cell? ad=some (.int k v))(hz:w.frozen? ad=false):mC P (Extern.Atomic.update (Op.intArith .add) k true #[.pointer (some ad),.int k d]) f w (.int k (k.wrap (v+d))) (w.setCell ad (.int k (k.wrap (v+d)))) (Jl ad) :=
 ⟨run_add_entry hc hz,by rw [events_add_entry hc hz]; rfl,sync_rw ad⟩
theorem JZ{v:Int}(hc:w.cell? ad=some (.int k v)):mC P (Extern.Atomic.loadT (.int k) #[.pointer (some ad)]) f w (.int k v) w (atR ad):=by
 have e:Extern.Atomic.loadT (.int k) #[.pointer (some ad)]=(do Extern.Atomic.read (.int k) (← asAddr (.pointer (some ad)))):=rfl
 refine ⟨?_,?_,sync_r ad⟩
 ·rw [e]; simp [Extern.Atomic.read,asAddr,hc]
 ·rw [e]; simp [Extern.Atomic.read,asAddr,hc,events_load,atR]
theorem ah6{v:Int}{u:Value}(hc:w.cell? ad=some u)(hz:w.frozen? ad=false):mC P (Extern.Atomic.storeT #[.pointer (some ad),.int k v]) f w (.tuple #[]) (w.setCell ad (.int k v)) (Fa ad):=by
 have e:Extern.Atomic.storeT #[.pointer (some ad),.int k v]=(do store (← asAddr (.pointer (some ad))) (.int k v) .atomic; pure Extern.Atomic.none_):=rfl
 refine ⟨?_,?_,λ x hx=>by simp [Fa] at hx; subst hx; exact ⟨rfl,λ g h=>by cases h⟩⟩
 ·rw [e]; simp [asAddr,hc,hz,run_store P w ad (.int k v) .atomic rfl,Extern.Atomic.none_]
 ·rw [e]; simp [asAddr,hc,hz,events_store P w _ ad (.int k v) .atomic rfl,Fa]
theorem X7{n:Int}{vs:List Value}(hv:vs[0]? = some (.pointer (some ad)))(hc:w.cell? ad=some (.int .u32 n))(CD:n≠0)(hz:w.frozen? ad=false):mC P (Extern.Sync.semacquire vs.toArray) f w (.tuple #[]) (w.setCell ad (.int .u32 (n - 1))) (semEvents ad) :=
 ⟨by simp [Extern.Sync.semacquire,Extern.Sync.count,hv,hc,CD,hz,Extern.Sync.none_,run_store P w ad (.int .u32 (n - 1)) .atomic rfl,Result.andThen],
  by simp [Extern.Sync.semacquire,Extern.Sync.count,hv,hc,CD,hz,semEvents,events_load,events_store P w _ ad (.int .u32 (n - 1)) .atomic rfl,run_store P w ad (.int .u32 (n - 1)) .atomic rfl,Result.evThen],semEvents_sync ad⟩
theorem Wa{vs:List Value}(hv:vs[0]? = some (.pointer (some ad)))(hc:w.cell? ad=some (.int .u32 0)):(Extern.Sync.semacquire vs.toArray).run P w = .halt .blocked w:=by
 simp [Extern.Sync.semacquire,Extern.Sync.count,hv,hc]
theorem O1{n:Int}{vs:List Value}(hv:vs[0]? = some (.pointer (some ad)))(hc:w.cell? ad=some (.int .u32 n))(hz:w.frozen? ad=false):mC P (Extern.Sync.semrelease vs.toArray) f w (.tuple #[]) (w.setCell ad (.int .u32 (IntKind.u32.wrap (n+1)))) (semEvents ad) :=
 ⟨by simp [Extern.Sync.semrelease,Extern.Sync.count,hv,hc,hz,Extern.Sync.none_,Op.intArith,run_store P w ad (.int .u32 (IntKind.u32.wrap (n+1))) .atomic rfl,Result.andThen],
  by simp [Extern.Sync.semrelease,Extern.Sync.count,hv,hc,hz,semEvents,Op.intArith,events_load,events_store P w _ ad (.int .u32 (IntKind.u32.wrap (n+1))) .atomic rfl,run_store P w ad (.int .u32 (IntKind.u32.wrap (n+1))) .atomic rfl,Result.evThen],semEvents_sync ad⟩
theorem ah5{n:Int}(h4:4≤n):mC P (Extern.Sync.canSpin #[.int k n]) f w (.bool false) w #[] :=
 ⟨by rw [canSpin_eq,if_pos h4]; rfl,by rw [canSpin_eq,if_pos h4]; rfl,by simp⟩
theorem X8{n:Int}(h4:n < 4):mC P (Extern.Sync.canSpin #[.int k n]) f w (.bool w.spins) w.asked #[]:=by
 have YF:¬ (n ≥ 4):=by omega
 exact ⟨by rw [canSpin_eq,if_neg YF]; rfl,by rw [canSpin_eq,if_neg YF]; rfl,by simp⟩
end
section
variable {F:Fx} {s s':Sh} {w:World}
theorem eZ.cm(h:eZ F s w):w.cell? (am F)=some (.int .i32 s.mu.val):=by simp [World.cell?,am,h.m,oF]
theorem eZ.JI(h:eZ F s w):w.cell? ⟨F.bm,1,none⟩=some (.int .u32 (s.ms:Int)):=by simp [World.cell?,h.m,oF]
theorem eZ.cg(h:eZ F s w):w.cell? (aw F)=some (.int .u64 (w8 s)):=by simp [World.cell?,aw,h.g,oO]
theorem eZ.JF(h:eZ F s w):w.cell? (pM F)=some (.int .u32 (s.ws:Int)):=by simp [World.cell?,pM,h.g,oO]
theorem eZ.zm(h:eZ F s w)(i:Nat):w.frozen? ⟨F.bm,i,none⟩=false:=by simp [World.frozen?,h.m,oF]
theorem eZ.zg(h:eZ F s w)(i:Nat):w.frozen? ⟨F.bw,i,none⟩=false:=by simp [World.frozen?,h.g,oO]
theorem bV.refl(h:eZ F s w):bV F s w w:=⟨rfl,λ _ _ _=>rfl,h,id,rfl,rfl⟩
theorem bV.asked(h:eZ F s w):bV F s w w.asked:=⟨rfl,λ _ _ _=>rfl,⟨h.m,h.g⟩,id,rfl,rfl⟩
theorem bV.later(h:eZ F s w)(vJ:F.B.os w.os→F.B.os w.later.os):bV F s w w.later:=⟨rfl,λ _ _ _=>rfl,⟨h.m,h.g⟩,vJ,rfl,rfl⟩
theorem abo{w:World}{a:Addr}{cs:Array Value}{t:TypeId}{v:Value}(h:w.heap[a.block]? = some (.cells cs t (0,0)))(ha:a.spot=none):w.setCell a v={ w with heap:=w.heap.setIfInBounds a.block (.cells (cs.setIfInBounds a.off v) t (0,0)) }:=by
 simp only [World.setCell]
 congr 1
 apply Array.ext_getElem?
 intro i
 rw [Array.getElem?_modify]
 by_cases hi:a.block=i
 ·subst hi
  rw [Array.getElem?_setIfInBounds_self_of_lt (kP h),h]
  simp [ha]
 ·simp [hi,Array.getElem?_setIfInBounds_ne hi]
theorem bV.bm{v:Value}{i:Nat}(h:eZ F s w)(ho:oF F.tm s' = .cells (#[.int .i32 s.mu.val,.int .u32 (s.ms:Int)].setIfInBounds i v) F.tm (0,0))(hg:oO F.tw s'=oO F.tw s):bV F s' w (w.setCell ⟨F.bm,i,none⟩ v):=by
 rw [abo (a:=⟨F.bm,i,none⟩) h.m rfl]
 refine ⟨by simp,λ b h1 h2=>Array.getElem?_setIfInBounds_ne (Ne.symm h1),⟨?_,?_⟩,id,rfl,rfl⟩
 ·rw [ho]; exact Array.getElem?_setIfInBounds_self_of_lt (kP h.m)
 ·rw [hg]
  show (w.heap.setIfInBounds _ _)[F.bw]? = _
  rw [Array.getElem?_setIfInBounds_ne F.ho.1]; exact h.g
theorem bV.bw{v:Value}{i:Nat}(h:eZ F s w)(ho:oO F.tw s' = .cells (#[.int .u64 (w8 s),.int .u32 (s.ws:Int)].setIfInBounds i v) F.tw (0,0))(hg:oF F.tm s'=oF F.tm s):bV F s' w (w.setCell ⟨F.bw,i,none⟩ v):=by
 rw [abo (a:=⟨F.bw,i,none⟩) h.g rfl]
 refine ⟨by simp,λ b h1 h2=>Array.getElem?_setIfInBounds_ne (Ne.symm h2),⟨?_,?_⟩,id,rfl,rfl⟩
 ·rw [hg]
  show (w.heap.setIfInBounds _ _)[F.bm]? = _
  rw [Array.getElem?_setIfInBounds_ne (Ne.symm F.ho.1)]; exact h.m
 ·rw [ho]; exact Array.getElem?_setIfInBounds_self_of_lt (kP h.g)
theorem bV.mu{m:Wd}(h:eZ F s w):bV F { s with mu:=m } w (w.setCell (am F) (.int .i32 m.val)):=bV.bm h rfl rfl
theorem bV.ms{n:Nat}(h:eZ F s w):bV F { s with ms:=n } w (w.setCell ⟨F.bm,1,none⟩ (.int .u32 (n:Int))):=bV.bm h rfl rfl
theorem bV.wg{v u:Nat}(h:eZ F s w):bV F { s with v:=v,w:=u } w (w.setCell (aw F) (.int .u64 (4294967296 * v+u))):=bV.bw h rfl rfl
theorem bV.ws{n:Nat}(h:eZ F s w):bV F { s with ws:=n } w (w.setCell (pM F) (.int .u32 (n:Int))):=bV.bw h rfl rfl
theorem vo{a:Addr}(h:a.block=F.bm∨a.block=F.bw):oW F (atR a):=.inl λ e he=>by simp [atR] at he; subst he; exact ⟨a,false,rfl,h⟩
theorem afP{a:Addr}(h:a.block=F.bm∨a.block=F.bw):oW F (Fa a):=.inl λ e he=>by simp [Fa] at he; subst he; exact ⟨a,true,rfl,h⟩
theorem o6{a:Addr}(h:a.block=F.bm∨a.block=F.bw):oW F (Jl a):=.inl λ e he=>by simp [Jl] at he; rcases he with rfl | rfl <;> exact ⟨a,_,rfl,h⟩
theorem o5:oW F #[]:=.inl λ e he=>by simp at he
theorem E9{a:Addr}(h:a.block=F.bm∨a.block=F.bw):oW F (semEvents a):=.inr ⟨a,h,rfl⟩
end
section
variable {F:Fx} {c:Ctx} {R:av} {H:ai} {st:St} {kk:List Item} {ops:Array Oper} {i:Nat} {rest:List Nat} {o:Oper} {f:FuncId} {as:Array Operand} {gL:Array TypeId} {e:Array Value→Sem Value} {vs:List Value} {n k j:Nat} {T:Lp} {T0:Mp}
theorem KW.ext(ho:ops[i]? = some o)(hw:cF ops st o=some true)(fy:(c.kind == CallKind.early)=false)(an:o.op = .call ⟨.value (.func f),as,gL⟩)(hf:fT F.P f e)(ha:ia st as.toList=some vs)(hd:bQ o.dst c.n)
  (h:pv F.N T→∀ w s,Fits F.B R H w→eZ F s w→Ba F.N T s→okW F.N T s →
   ((∃ c,T = .s1 c)∧s.ms=0∧(e vs.toArray).run F.P w = .halt .blocked w) ∨
   ∃ v w' lY T' s',mC F.P (e vs.toArray) f w v w' lY∧c7 T s T' s'∧wM F j T T'∧Cq F T lY∧bV F s' w w'∧∀ aZ,cL c.n (bT o.dst v st) aZ→vl F (KW F n k) k j T T' R H (aX (aV c aZ (.inRegion ops rest::kk)) c.cs)) :
  ∀ tmps,cL c.n st tmps→KW F (n+1) k j T R H (aX (aV c tmps (.inRegion ops (i::rest)::kk)) c.cs):=by
 intro tmps ht ot
 refine ⟨rfl,rfl,λ _=>ayw ho an hf,λ w s vG bh vJ lI=>?_⟩
 rcases h ot w s vG bh vJ lI with ⟨h1,h2,h3⟩ | ⟨v,w',lY,T',s',hE,h2,h3,h4,h5,h6⟩
 ·exact .inl ⟨h1,h2,abE ho hw an hf ht ha h3⟩
 ·exact .inr ⟨_,w',lY,T',s',h2,h3,h4,Ie ho hw fy an hf ht ha hE,h5,h6 _ (ht.put v hd)⟩
theorem KM.ext(ho:ops[i]? = some o)(hw:cF ops st o=some true)(fy:(c.kind == CallKind.early)=false)(an:o.op = .call ⟨.value (.func f),as,gL⟩)(hf:fT F.P f e)(ha:ia st as.toList=some vs)(hd:bQ o.dst c.n)(h1:∀ r,T0 ≠ .go r)(h2:T0 ≠ .wq)
  (h:∀ w s,Fits F.B R H w→eZ F s w→pF F.N T0 s→(T0 = .w3∧s.ws=0∧(e vs.toArray).run F.P w = .halt .blocked w) ∨
   ∃ v w' lY T' s',mC F.P (e vs.toArray) f w v w' lY∧fV T0 s T' s'∧zJ F T0 lY∧bV F s' w w'∧∀ aZ,cL c.n (bT o.dst v st) aZ→Own F.P F.B true (KM F n T') R H (aX (aV c aZ (.inRegion ops rest::kk)) c.cs)) :
  ∀ tmps,cL c.n st tmps→KM F (n+1) T0 R H (aX (aV c tmps (.inRegion ops (i::rest)::kk)) c.cs):=by
 intro tmps ht
 have key:∀ w s,Fits F.B R H w→eZ F s w→pF F.N T0 s→(T0 = .w3∧s.ws=0∧stepG F.P true (aX (aV c tmps (.inRegion ops (i::rest)::kk)) c.cs) w = .go { aX (aV c tmps (.inRegion ops (i::rest)::kk)) c.cs with status:=.blocked } w #[]) ∨
   ∃ g' w' es T' s',fV T0 s T' s'∧zJ F T0 es∧stepG F.P true (aX (aV c tmps (.inRegion ops (i::rest)::kk)) c.cs) w = .go g' w' es∧bV F s' w w'∧Own F.P F.B true (KM F n T') R H g':=λ w s vG bh ix=>by
  rcases h w s vG bh ix with ⟨h1,h2,h3⟩ | ⟨v,w',lY,T',s',hE,h3,h4,h5,h6⟩
  ·exact .inl ⟨h1,h2,abE ho hw an hf ht ha h3⟩
  ·exact .inr ⟨_,w',lY,T',s',h3,h4,Ie ho hw fy an hf ht ha hE,h5,h6 _ (ht.put v hd)⟩
 refine ⟨rfl,rfl,?_⟩
 cases T0 <;> first | exact absurd rfl (h1 _) | exact absurd rfl h2 | exact key
theorem KM.acq(ho:ops[i]? = some o)(hw:cF ops st o=some true)(fy:(c.kind == CallKind.early)=false)(an:o.op = .call ⟨.value (.func f),as,gL⟩)(hf:fT F.P f (Extern.Race.marked .acquire))(ha:ia st as.toList=some vs)(hv:vs[0]? = some (.pointer (some (aw F))))(hd:bQ o.dst c.n)
  (h:∀ js,(∀ k,k < F.N→js k=F.J)→∀ aZ,cL c.n (bT o.dst (.tuple #[]) st) aZ→F.mj R ((F.bo,F.cont js)::H) (aX (aV c aZ (.inRegion ops rest::kk)) c.cs)) :
  ∀ tmps,cL c.n st tmps→KM F (n+1) .wq R H (aX (aV c tmps (.inRegion ops (i::rest)::kk)) c.cs):=λ tmps ht =>
 ⟨rfl,rfl,λ w s _ bh _=>⟨_,w,Ie ho hw fy an hf ht ha (zH (λ _ _=>by simp) hv),bV.refl bh,λ js gE=>h js gE _ (ht.put _ hd)⟩⟩
end
end Go.Lg
namespace Go.Lg
open Go.Conc Go.ConcN
def rP(P:Program)(c:Ctx)(o:Oper)(st:St)(v:Value):Prop:=mc o.op=false∧bQ o.dst c.n∧∀ ρ,Knows st ρ→ah P (execOp ρ o) (.value v)
section
variable {P:Program} {B:Base} {main:Bool} {ab:Jd P B main} {c:Ctx} {R:av} {H:ai} {st st':St} {k:List Item} {ops:Array Oper} {i:Nat} {rest:List Nat} {o:Oper} {v:Value} {x y z:Operand}
theorem U.val(ho:ops[i]? = some o)(hw:cF ops st o=some true)(hk:(c.kind == CallKind.early)=false)(hv:rP P c o st v)(hs:aF (bT o.dst v st) st')(h:U ab c R H st' (.inRegion ops rest::k)):U ab c R H st (.inRegion ops (i::rest)::k) :=
 U.gR ho hw hk (Ox.val hv.1 hv.2.1 hv.2.2 hs h)
theorem OV.move(an:o.op = .move x)(hd:bQ o.dst c.n)(hx:bg st x=some v):rP P c o st v:=⟨by rw [an]; rfl,hd,λ ρ ba=>by simp only [execOp,an,ba x v hx]; exact ah.pure _⟩
theorem OV.assign(an:o.op = .assign x)(hd:bQ o.dst c.n)(hx:bg st x=some v):rP P c o st v:=⟨by rw [an]; rfl,hd,λ ρ ba=>by simp only [execOp,an,ba x v hx]; exact ah.pure _⟩
theorem OV.av4(an:o.op = .pick x y z)(hd:bQ o.dst c.n)(hx:bg st x=some (.bool true))(hy:bg st y=some v):rP P c o st v:=⟨by rw [an]; rfl,hd,λ ρ ba=>by
 simp only [execOp,an,ba x _ hx,ba y v hy,asBool]; exact ah.bind (ah.pure true) (ah.pure _)⟩
theorem OV.av3(an:o.op = .pick x y z)(hd:bQ o.dst c.n)(hx:bg st x=some (.bool false))(hz:bg st z=some v):rP P c o st v:=⟨by rw [an]; rfl,hd,λ ρ ba=>by
 simp only [execOp,an,ba x _ hx,ba z v hz,asBool]; exact ah.bind (ah.pure false) (ah.pure _)⟩
theorem OV.nilCheck{a:Addr}(an:o.op = .nilCheck x)(hd:bQ o.dst c.n)(hx:bg st x=some (.pointer (some a))):rP P c o st (.pointer (some a)):=⟨by rw [an]; rfl,hd,λ ρ ba=>by
 simp only [execOp,an,ba x _ hx]; exact ah.bind (ah.pure _) (ah.pure _)⟩
theorem OV.fieldAddr{s f off b n:Nat}(an:o.op = .fieldAddr s x f)(hd:bQ o.dst c.n)(hx:bg st x=some (.pointer (some ⟨b,n,none⟩)))(hf:fU P s f off):rP P c o st (.pointer (some ⟨b,n+off,none⟩)):=⟨by rw [an]; rfl,hd,λ ρ ba=>by
 simp only [execOp,an,ba x _ hx]; exact ah.bind (hf b n) (ah.pure _)⟩
theorem OV.bin{bo:BinOp}{t u:TypeId}{ka kb:IntKind}{a b:Int}(an:o.op = .binOp bo t x y u)(hd:bQ o.dst c.n)(hx:bg st x=some (.int ka a))(hy:bg st y=some (.int kb b))(hv:ah P (binOp bo t (.int ka a) (.int kb b)) v):rP P c o st v:=⟨by rw [an]; rfl,hd,λ ρ ba=>by
 simp only [execOp,an,ba x _ hx,ba y _ hy]; exact ah.bind (ah.bind (Bu _ _ _ _ _ _ _ _) hv) (ah.pure _)⟩
theorem OV.not{t:TypeId}{a:Bool}(an:o.op = .unOp .not t x)(hd:bQ o.dst c.n)(hx:bg st x=some (.bool a)):rP P c o st (.bool (!a)):=⟨by rw [an]; rfl,hd,λ ρ ba=>by
 simp only [execOp,an,ba x _ hx]; exact ah.bind (ah.pure _) (ah.pure _)⟩
end
structure QJ (P:Program) where
 Q:Goroutine→Prop
 step:∀ {g g':Goroutine},g.status = .running→(∀ w,stepG P false g w = .go g' w #[])→Q g'→Q g
def toJ(P:Program)(K:Goroutine→Prop):QJ P:=⟨λ g=>∃ q,zw P K q g,λ hs h ⟨q,hq⟩=>⟨q+1,.inr ⟨hs,_,h,hq⟩⟩⟩
def wB(P:Program)(d:Nat):QJ P:=⟨λ g=>∃ q,QuitsD P q d g,λ hs h ⟨q,hq⟩=>⟨q+1,QuitsD.ctl hs h hq⟩⟩
section
variable {P:Program} (J:QJ P)
def ay(c:Ctx)(st:St)(todo:List Item):Prop:=∀ tmps,cL c.n st tmps→J.Q (aX (aV c tmps todo) c.cs)
variable {J} {c:Ctx} {st st':St} {k:List Item} {ops:Array Oper} {i:Nat} {rest:List Nat} {o:Oper} {v:Value}
theorem ay.sub{todo:List Item}(hs:aF st st')(h:ay J c st' todo):ay J c st todo:=λ tmps ht=>h tmps (ht.sub hs)
theorem ay.skip(h:ay J c st k):ay J c st (.code .skip::k):=λ tmps ht=>J.step rfl (λ w=>by simp [stepG,stepG.exec,aX,aV]) (h tmps ht)
theorem ay.inBlock{id:Nat}(h:ay J c st k):ay J c st (.inBlock id::k):=λ tmps ht=>J.step rfl (λ w=>by simp [stepG,stepG.exec,aX,aV]) (h tmps ht)
theorem ay.seq{x y:Code}(h:ay J c st (.code x :: .code y::k)):ay J c st (.code (.seq x y)::k):=λ tmps ht=>J.step rfl (λ w=>by simp [stepG,stepG.exec,aX,aV]) (h tmps ht)
theorem ay.block{id:Nat}{x:Code}(h:ay J c st (.code x :: .inBlock id::k)):ay J c st (.code (.block id x)::k):=λ tmps ht=>J.step rfl (λ w=>by simp [stepG,stepG.exec,aX,aV]) (h tmps ht)
theorem ay.enterLoop{x:Code}(h:ay J c st (.code x :: .inLoop x::k)):ay J c st (.code (.loop x)::k):=λ tmps ht=>J.step rfl (λ w=>by simp [stepG,stepG.exec,aX,aV]) (h tmps ht)
theorem ay.inLoop{x:Code}(h:ay J c st (.code x :: .inLoop x::k)):ay J c st (.inLoop x::k):=λ tmps ht=>J.step rfl (λ w=>by simp [stepG,stepG.exec,aX,aV]) (h tmps ht)
theorem ay.exit{id:Nat}{k':List Item}(he:exitTo id k=some k')(h:ay J c st k'):ay J c st (.code (.exit id)::k):=λ tmps ht=>J.step rfl (λ w=>by simp [stepG,stepG.exec,aX,aV,he]) (h tmps ht)
theorem ay.region{id n:Nat}{is:List Nat}(hn:ops.size=n)(lH:List.range n=is)(h:ay J c st (.inRegion ops is::k)):ay J c st (.code (.region id ops false)::k):=by
 subst hn; subst lH
 exact λ tmps ht=>J.step rfl (λ w=>by simp [stepG,stepG.exec,aX,aV]) (h tmps ht)
theorem ay.aU(h:ay J c st k):ay J c st (.inRegion ops []::k):=λ tmps ht=>J.step rfl (λ w=>by simp [stepG,stepG.exec,aX,aV]) (h tmps ht)
theorem ay.fe{x:Operand}{th el:Code}(hx:bg st x=some (.bool true))(h:ay J c st (.code th::k)):ay J c st (.code (.cond x th el)::k):=λ tmps ht=>by
 have he:=ht.knows c (.code (.cond x th el)::k) x _ hx
 exact J.step rfl (λ w=>by simp only [aV] at he; simp [stepG,stepG.exec,aX,aV,he]) (h tmps ht)
theorem ay.dW{x:Operand}{th el:Code}(hx:bg st x=some (.bool false))(h:ay J c st (.code el::k)):ay J c st (.code (.cond x th el)::k):=λ tmps ht=>by
 have he:=ht.knows c (.code (.cond x th el)::k) x _ hx
 exact J.step rfl (λ w=>by simp only [aV] at he; simp [stepG,stepG.exec,aX,aV,he]) (h tmps ht)
theorem ay.unwanted(ho:ops[i]? = some o)(hw:cF ops st o=some false)(kV:bQ o.dst c.n)(hs:aF (bT o.dst undef st) st')(h:ay J c st' (.inRegion ops rest::k)):ay J c st (.inRegion ops (i::rest)::k) :=
 λ _ ht=>J.step rfl (λ _=>T4 ho (jY ht hw)) (h _ ((ht.put undef kV).sub hs))
theorem ay.val(ho:ops[i]? = some o)(hw:cF ops st o=some true)(hk:(c.kind == CallKind.early)=false)(hv:rP P c o st v)(hs:aF (bT o.dst v st) st')(h:ay J c st' (.inRegion ops rest::k)):ay J c st (.inRegion ops (i::rest)::k):=λ tmps ht=>by
 refine J.step rfl (λ w=>?_) (h _ ((ht.put v hv.2.1).sub hs))
 have hr:=hv.2.2 _ (ht.knows c (.inRegion ops (i::rest)::k)) w
 rw [oN ho (jY ht hw) hv.1,← pa (rest:=rest) (k:=k) (c:=c) (tmps:=tmps) (v:=v) ho,zB (by simpa [aV] using hk) hr.1,hr.2]
 rfl
theorem ay.ext{f:FuncId}{as:Array Operand}{gL:Array TypeId}{e:Array Value→Sem Value}{vs:List Value}(ho:ops[i]? = some o)(hw:cF ops st o=some true)(hk:(c.kind == CallKind.early)=false)(an:o.op = .call ⟨.value (.func f),as,gL⟩)(hd:bQ o.dst c.n)(hf:fT P f e)(ha:ia st as.toList=some vs)
  (hE:∀ w,mC P (e vs.toArray) f w v w #[]) (hs:aF (bT o.dst v st) st') (h:ay J c st' (.inRegion ops rest::k)):ay J c st (.inRegion ops (i::rest)::k):=λ _ ht =>
 J.step rfl (λ w=>Ie ho hw hk an hf ht ha (hE w)) (h _ ((ht.put v hd).sub hs))
theorem ay.enter{f:FuncId}{fn:Func}{body:Code}{as:Array Operand}{gL:Array TypeId}{vs:List Value}{n:Nat}(ho:ops[i]? = some o)(hw:cF ops st o=some true)(hk:(c.kind == CallKind.early)=false)(an:o.op = .call ⟨.value (.func f),as,gL⟩)(ha:ia st as.toList=some vs)
  (hf:P.funcs[f]? = some fn) (Gi:(fn.name == "runtime.NumGoroutine")=false) (hb:fn.body=some body) (pX:fn.ntmps=n) (hn:Nat.ble vs.length n=true)
  (h:∀ tmps,cL c.n st tmps→ay J ⟨f,.normal,none,n,[],aV c tmps (.inRegion ops (i::rest)::k)::c.cs⟩ (tB 0 vs) [.code body]):ay J c st (.inRegion ops (i::rest)::k):=λ tmps ht=>by
 have hv:ah P (execOp (aV c tmps (.inRegion ops (i::rest)::k)).eval o) (.enter f vs.toArray):=by
  rw [Cs an ht ha]
  exact Bs hf Gi (by rw [hb]; rfl)
 subst pX
 have vI:vs.length≤fn.ntmps:=by simpa [Nat.ble_eq] using hn
 have e:Frame.enter P f vs.toArray .normal=aV ⟨f,.normal,none,fn.ntmps,[],aV c tmps (.inRegion ops (i::rest)::k)::c.cs⟩ (vs.toArray++Array.replicate (fn.ntmps - vs.length) undef) [.code body]:=by
  simp [Frame.enter,aV,hf,hb]
 refine J.step rfl (λ w=>?_) (h tmps ht (vs.toArray++Array.replicate (fn.ntmps - vs.length) undef) ⟨by simp; omega,λ t v bd=>?_⟩)
 ·rw [oN ho (jY ht hw) (by rw [an]; rfl),E7 rfl (by simpa [aV] using hk) (hv w).1,(hv w).2,e]
  rfl
 ·obtain ⟨_,h2⟩:=E8 vs 0 t v bd
  have bJ:t < vs.length:=by
   have:=(List.getElem?_eq_some_iff.1 h2).1
   simpa using this
  rw [Array.getElem?_append_left (by simpa using bJ)]
  simpa using h2
def iC(c:Ctx)(tmps:Array Value)(todo:List Item):Frame:={ aV c tmps todo with mode:=.returning }
theorem QJ.back{fr:Frame}{cs:List Frame}{f:FuncId}{n:Nat}{fn:Func}{vs:List Value}{tmps:Array Value}{todo:List Item}(hf:P.funcs[f]? = some fn)(ht:cL n st tmps)(hr:wD st fn.results.toList=some vs)(hj:J.Q (aX (fr.finish (gG vs)) cs)) :
  J.Q (aX (iC ⟨f,.normal,none,n,[],fr::cs⟩ tmps todo) (fr::cs)) :=
 J.step rfl (λ w=>by
  have hv:=Un (P:=P) ht hr
  simp [iC,stepG,unwind,doReturn,aX,aV,hf,(hv w).1,(hv w).2,GStep.after,seen_none]) hj
theorem QJ.WM{fr:Frame}{cs:List Frame}{f:FuncId}{n:Nat}{fn:Func}{vs:List Value}{tmps:Array Value}{todo:List Item}(hf:P.funcs[f]? = some fn)(ht:cL n st tmps)(hr:wD st fn.results.toList=some vs)(hm:fr.mode = .returning∨fr.mode = .panicking [goexitEntry])(hj:J.Q (aX fr cs)) :
  J.Q (aX (iC ⟨f,.deferred,none,n,[],fr::cs⟩ tmps todo) (fr::cs)) :=
 J.step rfl (λ w=>by
  have hv:=Un (P:=P) ht hr
  rcases hm with hm | hm <;> simp [iC,stepG,unwind,doReturn,aX,aV,hf,(hv w).1,(hv w).2,GStep.after,seen_none,hm,goexitEntry]) hj
theorem ay.ret(jR:c.ro=none)(h:∀ tmps,cL c.n st tmps→J.Q (aX (iC c tmps (.code .ret::k)) c.cs)):ay J c st (.code .ret::k):=λ tmps ht =>
 J.step rfl (λ w=>by simp [stepG,stepG.exec,aX,aV,iC,jR]) (h tmps ht)
theorem ay.OP(jR:c.ro=none)(h:∀ tmps,cL c.n st tmps→J.Q (aX (iC c tmps []) c.cs)):ay J c st []:=λ tmps ht =>
 J.step rfl (λ w=>by simp [stepG,stepG.exec,aX,aV,iC,jR]) (h tmps ht)
theorem ay.resume{c':Ctx}{tmps:Array Value}(ho:ops[i]? = some o)(ht:cL c.n st tmps)(hd:bQ o.dst c.n)(hs:aF (bT o.dst v st) st')(h:ay J c st' (.inRegion ops rest::k))(_:c'.cs=aV c tmps (.inRegion ops (i::rest)::k)::c.cs) :
  J.Q (aX ((aV c tmps (.inRegion ops (i::rest)::k)).finish v) c.cs):=by
 rw [pa ho]
 exact h _ ((ht.put v hd).sub hs)
end
section
variable {P:Program} {B:Base} {main:Bool} {ab:Jd P B main} {c:Ctx} {R:av} {H:ai} {st st':St} {k:List Item} {ops:Array Oper} {i:Nat} {rest:List Nat} {o:Oper} {f:FuncId} {as:Array Operand} {gL:Array TypeId} {vs:List Value}
theorem step_defer{tmps:Array Value}{w:World}(ho:ops[i]? = some o)(hw:cF ops st o=some true)(fy:(c.kind == CallKind.early)=false)(jR:c.ro=none)(an:o.op = .defer ⟨.value (.func f),as,gL⟩)(ht:cL c.n st tmps)(ha:ia st as.toList=some vs) :
  stepG P main (aX (aV c tmps (.inRegion ops (i::rest)::k)) c.cs) w = .go (aX (aV { c with defers:=dcall f vs.toArray::c.defers } (fg o.dst undef tmps) (.inRegion ops rest::k)) c.cs) w #[]:=by
 have hk:=ht.knows c (.inRegion ops (i::rest)::k)
 have ef:(aV c tmps (.inRegion ops (i::rest)::k)).eval (.func f) = .func (.func f) #[] #[]:=rfl
 have e2:as.map (aV c tmps (.inRegion ops (i::rest)::k)).eval=vs.toArray:=by apply Array.ext'; simpa using zC hk _ _ ha
 have hr:(execOp (aV c tmps (.inRegion ops (i::rest)::k)).eval o).run P w = .ok (.defer (dcall f vs.toArray)) w:=by
  unfold execOp
  simp [an,resolve,Deferred.ofValue,ef,e2,dcall]
 have he:(execOp (aV c tmps (.inRegion ops (i::rest)::k)).eval o).events P w #[]=#[]:=by
  unfold execOp
  simp [an,resolve,Deferred.ofValue,ef]
 have R8:=jY ht hw
 obtain ⟨Ct,kind,ro,n,defers,cs⟩:=c
 simp only at jR fy
 subst jR
 have e0:stepG P main (aX (aV ⟨Ct,kind,none,n,defers,cs⟩ tmps (.inRegion ops (i::rest)::k)) cs) w=stepG.apply P true (aV ⟨Ct,kind,none,n,defers,cs⟩ tmps (.inRegion ops (i::rest)::k)) cs none (execOp (aV ⟨Ct,kind,none,n,defers,cs⟩ tmps (.inRegion ops (i::rest)::k)).eval o) w:=by
  simp [aX,stepG,stepG.exec,stepG.oper,Frame.oper?,aV,ho,R8]
 refine e0.trans ?_
 unfold stepG.apply
 rw [show (execOp (aV ⟨Ct,kind,none,n,defers,cs⟩ tmps (.inRegion ops (i::rest)::k)).eval o).runT P w #[]=(.ok (.defer (dcall f vs.toArray)) w,#[]) by rw [Sem.runT_eq,hr,he]]
 cases nJ:o.dst <;> simp [GStep.after,seen_none,aX,aV,Frame.finish,ho,nJ,fg,fy]
end
end Go.Lg
namespace Go.Lg
open Go.Conc Go.ConcN
section
variable {F:Fx} {c:Ctx} {R:av} {H:ai} {st:St} {kk:List Item} {ops:Array Oper} {i:Nat} {rest:List Nat} {o:Oper} {n k j:Nat} {T:Lp} {T0:Mp}
theorem axu{main:Bool}{t:TypeId}{x:Operand}{tmps:Array Value}{w:World}{s:Sh}(ho:ops[i]? = some o)(hw:cF ops st o=some true)(fy:(c.kind == CallKind.early)=false)(an:o.op = .load t x)(hx:bg st x=some (.pointer (some (am F))))(ht:cL c.n st tmps)(Qs:gB F.P t)(hq:(F.P.funcs[c.fn]?).any (·.norace)=true)(bh:eZ F s w) :
  stepG F.P main (aX (aV c tmps (.inRegion ops (i::rest)::kk)) c.cs) w = .go (aX (aV c (fg o.dst (.int .i32 s.mu.val) tmps) (.inRegion ops rest::kk)) c.cs) w #[]:=by
 have hk:=ht.knows c (.inRegion ops (i::rest)::kk)
 have hR:(execOp (aV c tmps (.inRegion ops (i::rest)::kk)).eval o).run F.P w = .ok (.value (.int .i32 s.mu.val)) w∧(execOp (aV c tmps (.inRegion ops (i::rest)::kk)).eval o).events F.P w #[]=#[⟨.cell (am F),false,false⟩]:=by
  simp only [execOp,an,hk x _ hx]
  have h1:=Qs.1 w
  have hc:=bh.cm
  constructor
  ·simp [Instr.loadAt,Instr.sureAddr,loadVar,h1.1,hc]
  ·simp [Instr.loadAt,Instr.sureAddr,loadVar,h1.1,h1.2,hc,events_load]
 rw [oN ho (jY ht hw) (by rw [an]; rfl),← pa (rest:=rest) (k:=kk) (c:=c) (tmps:=tmps) (v:=.int .i32 s.mu.val) ho,zB (by simpa [aV] using fy) hR.1,hR.2]
 congr 1
 rw [seen_def]
 simp [seenStep,aV,hq]
theorem KW.look{t:TypeId}{x:Operand}(ho:ops[i]? = some o)(hw:cF ops st o=some true)(fy:(c.kind == CallKind.early)=false)(an:o.op = .load t x)(hx:bg st x=some (.pointer (some (am F))))(Qs:gB F.P t)(hq:(F.P.funcs[c.fn]?).any (·.norace)=true)(hd:bQ o.dst c.n)(hu:T ≠ .us∧T ≠ .d4)
  (jv:∀ es,oW F es→Cq F T es)
  (h:pv F.N T→∀ s,Ba F.N T s→∃ T',c7 T s T' s∧wM F j T T'∧∀ aZ,cL c.n (bT o.dst (.int .i32 s.mu.val) st) aZ→vl F (KW F n k) k j T T' R H (aX (aV c aZ (.inRegion ops rest::kk)) c.cs)) :
  ∀ tmps,cL c.n st tmps→KW F (n+1) k j T R H (aX (aV c tmps (.inRegion ops (i::rest)::kk)) c.cs):=by
 intro tmps ht ot
 refine ⟨rfl,rfl,λ e=>by rcases e with e | e; exact absurd e hu.1; exact absurd e hu.2,λ w s vG bh vJ lI=>.inr ?_⟩
 obtain ⟨T',h2,h3,h6⟩:=h ot s vJ
 exact ⟨_,w,#[],T',s,h2,h3,jv _ o5,axu ho hw fy an hx ht Qs hq bh,bV.refl bh,h6 _ (ht.put _ hd)⟩
def B9(P:Program)(src dst:TypeId):Prop:=∃ t,P.underlying src=some (.pointer t)∧P.underlying dst=some .unsafePointer∧(P.info? t).map (λ i=>decide (i.size=0))=some false
theorem abD{src dst:TypeId}{x:Operand}{a:Addr}{v:Value}{w:World}{main:Bool}{tmps:Array Value}(ho:ops[i]? = some o)(hw:cF ops st o=some true)(fy:(c.kind == CallKind.early)=false)(an:o.op = .convert src dst x)(hx:bg st x=some (.pointer (some a)))(ht:cL c.n st tmps)(hu:B9 F.P src dst)(hc:w.cell? a=some v) :
  stepG F.P main (aX (aV c tmps (.inRegion ops (i::rest)::kk)) c.cs) w = .go (aX (aV c (fg o.dst (.pointer (some a)) tmps) (.inRegion ops rest::kk)) c.cs) w #[]:=by
 obtain ⟨t,u1,u2,u3⟩:=hu
 have hk:=ht.knows c (.inRegion ops (i::rest)::kk)
 have h1:=run_convert_to_unsafe u1 u2 u3 hc
 have h2:=events_convert_to_unsafe u1 u2 u3 hc #[]
 have hR:(execOp (aV c tmps (.inRegion ops (i::rest)::kk)).eval o).run F.P w = .ok (.value (.pointer (some a))) w∧(execOp (aV c tmps (.inRegion ops (i::rest)::kk)).eval o).events F.P w #[]=#[]:=by
  simp only [execOp,an,hk x _ hx]
  constructor
  ·simp [h1]
  ·simp [h2]
 rw [oN ho (jY ht hw) (by rw [an]; rfl),← pa (rest:=rest) (k:=kk) (c:=c) (tmps:=tmps) (v:=.pointer (some a)) ho,zB (by simpa [aV] using fy) hR.1,hR.2,seen_none]
theorem KW.conv{src dst:TypeId}{x:Operand}{a:Addr}(ho:ops[i]? = some o)(hw:cF ops st o=some true)(fy:(c.kind == CallKind.early)=false)(an:o.op = .convert src dst x)(hx:bg st x=some (.pointer (some a)))(hu:B9 F.P src dst)(hd:bQ o.dst c.n)
  (hc:∀ s w,eZ F s w→∃ v,w.cell? a=some v) {T':Lp} (hT:T ≠ .us∧T ≠ .d4) (jv:Cq F T #[]) (de:∀ s,c7 T s T' s) (yl:wM F j T T')
  (h:∀ aZ,cL c.n (bT o.dst (.pointer (some a)) st) aZ→vl F (KW F n k) k j T T' R H (aX (aV c aZ (.inRegion ops rest::kk)) c.cs)) :
  ∀ tmps,cL c.n st tmps→KW F (n+1) k j T R H (aX (aV c tmps (.inRegion ops (i::rest)::kk)) c.cs):=by
 intro tmps ht ot
 refine ⟨rfl,rfl,λ e=>by rcases e with e | e; exact absurd e hT.1; exact absurd e hT.2,λ w s vG bh vJ lI=>.inr ?_⟩
 obtain ⟨v,hv⟩:=hc s w bh
 exact ⟨_,w,#[],T',s,de s,yl,jv,abD ho hw fy an hx ht hu hv,bV.refl bh,h _ (ht.put _ hd)⟩
theorem KM.conv{src dst:TypeId}{x:Operand}{a:Addr}{T0 T':Mp}(ho:ops[i]? = some o)(hw:cF ops st o=some true)(fy:(c.kind == CallKind.early)=false)(an:o.op = .convert src dst x)(hx:bg st x=some (.pointer (some a)))(hu:B9 F.P src dst)(hd:bQ o.dst c.n)
  (hc:∀ s w,eZ F s w→∃ v,w.cell? a=some v) (h1:∀ r,T0 ≠ .go r) (h2:T0 ≠ .wq) (jv:zJ F T0 #[]) (de:∀ s,fV T0 s T' s)
  (h:∀ aZ,cL c.n (bT o.dst (.pointer (some a)) st) aZ→Own F.P F.B true (KM F n T') R H (aX (aV c aZ (.inRegion ops rest::kk)) c.cs)) :
  ∀ tmps,cL c.n st tmps→KM F (n+1) T0 R H (aX (aV c tmps (.inRegion ops (i::rest)::kk)) c.cs):=by
 intro tmps ht
 have key:∀ w s,Fits F.B R H w→eZ F s w→pF F.N T0 s→(T0 = .w3∧s.ws=0∧stepG F.P true (aX (aV c tmps (.inRegion ops (i::rest)::kk)) c.cs) w = .go { aX (aV c tmps (.inRegion ops (i::rest)::kk)) c.cs with status:=.blocked } w #[]) ∨
   ∃ g' w' es T' s',fV T0 s T' s'∧zJ F T0 es∧stepG F.P true (aX (aV c tmps (.inRegion ops (i::rest)::kk)) c.cs) w = .go g' w' es∧bV F s' w w'∧Own F.P F.B true (KM F n T') R H g':=λ w s vG bh ix=>by
  obtain ⟨v,hv⟩:=hc s w bh
  exact .inr ⟨_,w,#[],T',s,de s,jv,abD ho hw fy an hx ht hu hv,bV.refl bh,h _ (ht.put _ hd)⟩
 refine ⟨rfl,rfl,?_⟩
 cases T0 <;> first | exact absurd rfl (h1 _) | exact absurd rfl h2 | exact key
theorem NW:∀ s w,eZ F s w→∃ v,w.cell? (am F)=some v:=λ _ _ h=>⟨_,h.cm⟩
theorem NY:∀ s w,eZ F s w→∃ v,w.cell? (aw F)=some v:=λ _ _ h=>⟨_,h.cg⟩
theorem Wu:∀ s w,eZ F s w→∃ v,w.cell? (pM F)=some v:=λ _ _ h=>⟨_,h.JF⟩
section
variable {P:Program} {B:Base} {main:Bool} {ab:Jd P B main} {tmps:Array Value} {todo:List Item} {f:FuncId} {ds:List Deferred} {args:Array Value}
theorem U.Uc(jR:c.ro=none)(h:∀ tmps,cL c.n st tmps→ab.J R H (aX (iC c tmps (.code .ret::kk)) c.cs)):U ab c R H st (.code .ret::kk):=λ tmps ht =>
 Jd.ctl rfl (λ w=>by simp [stepG,stepG.exec,aX,aV,iC,jR]) (h tmps ht)
theorem U.toEnd(jR:c.ro=none)(h:∀ tmps,cL c.n st tmps→ab.J R H (aX (iC c tmps []) c.cs)):U ab c R H st []:=λ tmps ht =>
 Jd.ctl rfl (λ w=>by simp [stepG,stepG.exec,aX,aV,iC,jR]) (h tmps ht)
theorem Jd.unwind{fn:Func}(hd:c.defers=dcall f args::ds)(hf:P.funcs[f]? = some fn)(Gi:(fn.name == "runtime.NumGoroutine")=false)(hb:fn.body.isNone=false)
  (h:ab.J R H (aX (Frame.enter P f args .deferred) (iC { c with defers:=ds } tmps todo::c.cs))):ab.J R H (aX (iC c tmps todo) c.cs):=by
 have hv:=Bs (P:=P) (args:=args) hf Gi hb
 refine Jd.ctl rfl (λ w=>?_) h
 simp [iC,aX,aV,stepG,Go.unwind,callDeferred,hd,dcall,invoke,(hv w).1,(hv w).2,GStep.after,seen_none]
theorem Jd.back{fr:Frame}{cs:List Frame}{g:FuncId}{m:Nat}{fn:Func}{vs:List Value}(hf:P.funcs[g]? = some fn)(ht:cL m st tmps)(hr:wD st fn.results.toList=some vs)(hj:ab.J R H (aX (fr.finish (gG vs)) cs)):ab.J R H (aX (iC ⟨g,.normal,none,m,[],fr::cs⟩ tmps todo) (fr::cs)):=by
 have hv:=Un (P:=P) ht hr
 refine Jd.ctl rfl (λ w=>?_) hj
 simp [iC,stepG,Go.unwind,doReturn,aX,aV,hf,(hv w).1,(hv w).2,GStep.after,seen_none]
theorem U.defer{as:Array Operand}{gL:Array TypeId}{vs:List Value}{st':St}(ho:ops[i]? = some o)(hw:cF ops st o=some true)(fy:(c.kind == CallKind.early)=false)(jR:c.ro=none)(an:o.op = .defer ⟨.value (.func f),as,gL⟩)(ha:ia st as.toList=some vs)(hd:bQ o.dst c.n)(hs:aF (bT o.dst undef st) st')
  (h:U ab { c with defers:=dcall f vs.toArray::c.defers } R H st' (.inRegion ops rest::kk)):U ab c R H st (.inRegion ops (i::rest)::kk):=λ _ ht =>
 Jd.ctl rfl (λ _=>step_defer ho hw fy jR an ht ha) (h _ ((ht.put undef hd).sub hs))
theorem ay.defer{J:QJ P}{as:Array Operand}{gL:Array TypeId}{vs:List Value}{st':St}(ho:ops[i]? = some o)(hw:cF ops st o=some true)(fy:(c.kind == CallKind.early)=false)(jR:c.ro=none)(an:o.op = .defer ⟨.value (.func f),as,gL⟩)(ha:ia st as.toList=some vs)(hd:bQ o.dst c.n)(hs:aF (bT o.dst undef st) st')
  (h:ay J { c with defers:=dcall f vs.toArray::c.defers } st' (.inRegion ops rest::kk)):ay J c st (.inRegion ops (i::rest)::kk):=λ _ ht =>
 J.step rfl (λ _=>step_defer ho hw fy jR an ht ha) (h _ ((ht.put undef hd).sub hs))
theorem abF{e:Array Value→Sem Value}{w w':World}{v:Value}{lY:Array Event}(hd:c.defers=dcall f args::ds)(hf:fT P f e)(hE:mC P (e args) f w v w' lY) :
  stepG P main (aX (iC c tmps todo) c.cs) w = .go (aX (iC { c with defers:=ds } tmps todo) c.cs) w' lY:=by
 obtain ⟨fn,h1,h2,h3,h4,h5⟩:=hf.ex
 obtain ⟨jS,jv,hs⟩:=hE
 have hr:(callFunc f args).run P w = .ok (.value v) w':=by rw [run_callFunc_extern h1 h2 h3 h4 h5,jS]; rfl
 have hl:seen P c.fn ((callFunc f args).events P w #[])=lY:=by
  rw [events_callFunc_extern h1 h2 h3 h4 h5]
  simp only [List.push_toArray,List.nil_append]
  rw [jv,seen_entry _ _ _ hs]
 simp [iC,aX,aV,stepG,Go.unwind,callDeferred,hd,dcall,invoke,hr,GStep.after] at hl ⊢
 exact hl
theorem awd{d:Nat}(hd:c.defers=dcall f args::ds)(hf:fT P f (λ _=>do mark .enable; pure Extern.Race.none_))(h:∃ q,QuitsD P q (d - 1) (aX (iC { c with defers:=ds } tmps todo) c.cs)):∃ q,QuitsD P q d (aX (iC c tmps todo) c.cs):=by
 obtain ⟨q,hq⟩:=h
 exact ⟨q+1,QuitsD.said ⟨.mark .enable,false,true⟩ rfl rfl (λ w=>abF hd hf (pQ (by simp))) hq⟩
end
theorem KM.unwind{f:FuncId}{args:Array Value}{ds:List Deferred}{tmps:Array Value}{todo:List Item}{r:Nat}(hd:c.defers=dcall f args::ds)(hf:fT F.P f (λ _=>do mark .enable; pure Extern.Race.none_))
  (h:Own F.P F.B true (KM F n (.go r)) R H (aX (iC { c with defers:=ds } tmps todo) c.cs)):KM F (n+1) (.ke r) R H (aX (iC c tmps todo) c.cs) :=
 ⟨rfl,rfl,λ w s _ bh _=>.inr ⟨_,w,_,_,s,.ke,rfl,abF hd hf (pQ (by simp)),bV.refl bh,h⟩⟩
section
variable {P:Program} {B:Base} {main:Bool}
def w9(P:Program):Frame:={ (default:Frame) with fn:=P.funcs.size,defers:=[],mode:=.panicking [goexitEntry] }
def Ft(P:Program)(d:Deferred):Goroutine:={ frame:={ (default:Frame) with fn:=P.funcs.size,defers:=[d],mode:=.panicking [goexitEntry] },callers:=[],status:=.running,dying:=none }
theorem axI{cl:Call}{d:Deferred}{tmps:Array Value}{w:World}(ho:ops[i]? = some o)(hw:cF ops st o=some true)(an:o.op = .go cl)(ht:cL c.n st tmps)(hr:∀ ρ,Knows st ρ→ah P (resolve ρ cl o.type) d)(hd:(d.target matches .nil)=false) :
  stepG P main (aX (aV c tmps (.inRegion ops (i::rest)::kk)) c.cs) w = .spawn (aX (aV c (fg o.dst undef tmps) (.inRegion ops rest::kk)) c.cs) (Ft P d) w #[]:=by
 rw [oN ho (jY ht hw) (by rw [an]; rfl)]
 have hk:=ht.knows c (.inRegion ops (i::rest)::kk)
 have:ah P (execOp (aV c tmps (.inRegion ops (i::rest)::kk)).eval o) (.spawn d):=by
  simp only [execOp,an]
  exact ah.bind (hr _ hk) (ah.pure _)
 have h:=this w
 rw [← pa (rest:=rest) (k:=kk) (c:=c) (tmps:=tmps) (v:=undef) ho]
 clear hr this
 obtain ⟨tg,afM⟩:=d
 cases tg <;> simp_all [stepG.apply,aX,GStep.after,seen_none,Ft]
theorem Own.child{K:av→ai→Goroutine→Prop}{f:FuncId}{args:Array Value}{d:Deferred}(hd:(d.target matches .nil)=false)(hv:ah P (invoke d.target d.args) (.enter f args))(h:Own P B false K R H (aX (Frame.enter P f args .deferred) [w9 P])):Own P B false K R H (Ft P d):=by
 refine (HW P B false K).step rfl λ w hw=>⟨_,w,#[],R,H,?_,by simp,fw.refl hw,h⟩
 have hc:(match d.target with | .collected _=>false | _=>true)=true:=by
  cases ht:d.target with
  | collected b =>
   rw [ht] at hv
   have:=(hv w).1
   simp [invoke] at this
  | _=>rfl
 have hvw:=hv w
 obtain ⟨tg,afM⟩:=d
 simp only at hc hvw hd
 unfold stepG Ft
 simp only
 unfold Go.unwind
 cases tg with
 | collected b=>cases hc
 | _=>simp_all [callDeferred,Sem.runT_eq,GStep.after,seen_none,aX,w9]
theorem ax1{f:FuncId}{captured args:Array Value}(he:bj P f):ah P (invoke (.fn (.func f) captured) args) (.enter f (args++captured)):=by
 obtain ⟨fn,h1,h2,h3⟩:=he.ex
 simp only [invoke]
 exact Bs h1 h2 h3
theorem awx{x:Operand}{cl:Call}{f:FuncId}{cap:Array Value}{t:TypeId}(hc:cl.callee = .value x)(ha:cl.args=#[])(hx:bg st x=some (.func (.func f) #[] cap))(ρ:Operand→Value)(ba:Knows st ρ):ah P (resolve ρ cl t) ⟨.fn (.func f) cap,#[]⟩:=by
 simp only [resolve,hc,ha,ba x _ hx,Deferred.ofValue]
 have e:(#[]:Array Value)++Array.map ρ #[]=#[]:=by simp
 rw [e]
 exact ah.pure _
theorem ah8{f:FuncId}{fn:Func}{body:Code}{args:List Value}{m:Nat}{kd:CallKind}{cs:List Frame}(hf:P.funcs[f]? = some fn)(hb:fn.body=some body)(pX:fn.ntmps=m)(hn:Nat.ble args.length m=true) :
  ∃ tmps,cL m (tB 0 args) tmps∧Frame.enter P f args.toArray kd=aV ⟨f,kd,none,m,[],cs⟩ tmps [.code body]:=by
 subst pX
 have hn:args.length≤fn.ntmps:=by simpa [Nat.ble_eq] using hn
 refine ⟨args.toArray++Array.replicate (fn.ntmps - args.length) undef,⟨by simp; omega,λ t v ht=>?_⟩,by simp [Frame.enter,aV,hf,hb]⟩
 obtain ⟨_,h2⟩:=E8 args 0 t v ht
 have bJ:t < args.length:=by
  have:=(List.getElem?_eq_some_iff.1 h2).1
  simpa using this
 rw [Array.getElem?_append_left (by simpa using bJ)]
 simpa using h2
theorem Jd.enter{ab:Jd P B main}{f:FuncId}{fn:Func}{body:Code}{args:List Value}{m:Nat}{kd:CallKind}{cs:List Frame}(hf:P.funcs[f]? = some fn)(hb:fn.body=some body)(pX:fn.ntmps=m)(hn:Nat.ble args.length m=true)
  (h:U ab ⟨f,kd,none,m,[],cs⟩ R H (tB 0 args) [.code body]):ab.J R H (aX (Frame.enter P f args.toArray kd) cs):=by
 obtain ⟨tmps,ht,e⟩:=ah8 (kd:=kd) (cs:=cs) hf hb pX hn
 rw [e]; exact h tmps ht
theorem awe:QuitsD P 1 0 (aX (w9 P) []):=by
 refine .inr ⟨rfl,{ aX (w9 P) [] with status:=.finished },#[],by simp,λ w=>?_,rfl,rfl⟩
 have e:(default:Frame).todo=[]:=rfl
 simp [stepG,Go.unwind,aX,w9,goexitEntry,Frame.catches,e]
end
theorem KM.spawn{cl:Call}{d:Deferred}{r:Nat}(ho:ops[i]? = some o)(hw:cF ops st o=some true)(an:o.op = .go cl)(hr:∀ ρ,Knows st ρ→ah F.P (resolve ρ cl o.type) d)(hd:(d.target matches .nil)=false)(kV:bQ o.dst c.n)
  (hc:Own F.P F.B false (KW F n (F.N - (r+1)) 0 .ld) R [] (Ft F.P d)) (h:∀ aZ,cL c.n (bT o.dst undef st) aZ→Own F.P F.B true (KM F n (jV r)) R H (aX (aV c aZ (.inRegion ops rest::kk)) c.cs)) :
  ∀ tmps,cL c.n st tmps→KM F (n+1) (.go r) R H (aX (aV c tmps (.inRegion ops (i::rest)::kk)) c.cs):=λ _ ht =>
 ⟨rfl,rfl,λ _ _ _ _ _=>⟨_,_,axI ho hw an ht hr hd,hc,h _ (ht.put undef kV)⟩⟩
end
end Go.Lg
namespace Go.Lg
open Go.Conc Go.ConcN
def s0:Sh:=⟨.zero,0,0,0,0⟩
theorem hU.crowd{F:Fx}{Post:Value→World→Prop}{R:av}{H0:ai}{g:Goroutine}{r:Nat}(qU:F.mj=hU F.P F.B Post)(hN:F.N=r+1)(h:∀ n,Own F.P F.B true (KM F n (.ka r)) R H0 g) :
  hU F.P F.B Post R ((F.bo,F.cont λ _=>0)::(F.bw,oO F.tw s0)::(F.bm,oF F.tm s0)::H0) g:=by
 intro gs w sl t q dd h0 hA
 have bJ:=AF h0
 have hf:=hA.fits
 have dA:=hf.nd
 simp only [List.map_cons,List.nodup_cons,List.mem_cons,not_or,List.mem_map,not_exists] at dA
 have mo:(F.bo,F.cont λ _=>0)∈(F.bo,F.cont λ _=>0)::(F.bw,oO F.tw s0)::(F.bm,oF F.tm s0)::H0:=by simp
 have mw:(F.bw,oO F.tw s0)∈(F.bo,F.cont λ _=>0)::(F.bw,oO F.tw s0)::(F.bm,oF F.tm s0)::H0:=by simp
 have mm:(F.bm,oF F.tm s0)∈(F.bo,F.cont λ _=>0)::(F.bw,oO F.tw s0)::(F.bm,oF F.tm s0)::H0:=by simp
 have out:∀ b,(b=F.bo∨b=F.bw∨b=F.bm)→R b=none∧∀ o',(b,o') ∉ H0:=λ b hb=>by
  rcases hb with rfl | rfl | rfl
  ·exact ⟨hf.dj _ _ mo,λ o' eJ=>dA.1.2.2 (F.bo,o') ⟨eJ,rfl⟩⟩
  ·exact ⟨hf.dj _ _ mw,λ o' eJ=>dA.2.1.2 (F.bw,o') ⟨eJ,rfl⟩⟩
  ·exact ⟨hf.dj _ _ mm,λ o' eJ=>dA.2.2.1 (F.bm,o') ⟨eJ,rfl⟩⟩
 have hc:∀ n,cnt (cj (λ _=>.no) 0 (.mn (.ka r))) n = .zero:=λ n=>by
  have z:∀ f:Cn→Nat,f .zero=0→cY n (λ i=>f (cA (cj (λ _=>.no) 0 (.mn (.ka r)) i)))=0:=λ f hf=>by
   have e:∀ i,f (cA (cj (λ _=>.no) 0 (.mn (.ka r)) i))=0:=λ i=>by
    unfold cj; split <;> exact hf
   have:=L5 (b:=0) (f:=λ i=>f (cA (cj (λ _=>.no) 0 (.mn (.ka r)) i))) (λ i=>by rw [e]; exact Nat.le_refl _) n
   omega
  unfold cnt
  simp only [z (·.ow) rfl,z (·.hl) rfl,z (·.pu) rfl,z (·.pc) rfl,z (·.al) rfl,z (·.z) rfl,z (·.a1) rfl,z (·.ak) rfl,z (·.ux) rfl,z (·.wk) rfl,z (·.lv) rfl,z (·.dw) rfl,z (·.d4) rfl]
  rfl
 have z9:∀ i k j T,cj (λ _=>.no) 0 (.mn (.ka r)) i ≠ .wk k j T:=λ i k j T e=>by
  unfold cj at e; split at e <;> cases e
 have lZ:Bk F (31 * (gs.size+F.N)+1) (.ka r) (cj (λ _=>.no) 0 (.mn (.ka r))) (λ _=>0) s0 gs.size:=by
  refine ⟨iZ _ _ _,by simp,bJ,λ i hi=>fb (by omega),λ i T hT=>?_,?_,?_,λ i k j T e=>absurd e (z9 i k j T),λ i i' k j j' T T' e=>absurd e (z9 i k j T),λ k hk=>?_,λ k hk=>rfl,by simp only [rem,hN]; omega⟩
  ·apply Classical.byContradiction
   intro hn
   rw [fb hn] at hT; cases hT
  ·rw [hc]; constructor <;> simp [Cn.zero,s0,Wd.zero]
  ·rw [hc]; refine ⟨by simp [j6,Cn.zero,s0],by simp [Cn.zero,Cn.iY],by simp [Cn.zero,Cn.iY,rem,hN]⟩
  ·simp only [rem,hN] at hk; omega
 have hd0:=hA.d0
 obtain ⟨T,hT⟩:=h (MM F (31 * (gs.size+F.N)+1) (cj (λ _=>.no) 0 (.mn (.ka r))) s0 gs.size)
 refine MI.runs (F:=F) (Q:=31 * (gs.size+F.N)+1) (T0:=.ka r) (D:=cj (λ _=>.no) 0 (.mn (.ka r))) (m:=λ i=>if i=0 then some T else some (qg (q i))) (js:=λ _=>0) (s:=s0) (th:=only ⟨R,H0⟩) (mu:=λ _=>false) (dd:=dd) qU ⟨?_,?_,λ i x hx=>?_,λ i hi=>⟨?_,rfl,hA.dz i hi⟩,lZ⟩
 ·rw [hc]
  have sub:∀ i x,only ⟨R,H0⟩ i=some x→i=0∧x=⟨R,H0⟩:=λ i x hx=>by
   unfold only at hx; split at hx
   ·cases hx; exact ⟨‹_›,rfl⟩
   ·cases hx
  refine ⟨λ i x hx=>?_,λ i j x y sb hx hy=>?_,λ c o Cx=>?_,λ c o Cx i x hx=>?_⟩
  ·obtain ⟨rfl,rfl⟩:=sub i x hx
   exact ⟨hf.r,λ b o hb=>hf.h b o (by simp [hb]),dA.2.2.2,λ b o hb=>hf.dj b o (by simp [hb]),hf.os,hf.tape,hf.out⟩
  ·obtain ⟨rfl,_⟩:=sub i x hx
   obtain ⟨rfl,_⟩:=sub j y hy
   exact absurd rfl sb
  ·rcases A5 Cx with ⟨rfl,rfl⟩ | ⟨rfl,rfl⟩ | ⟨rfl,rfl,_⟩
   ·exact hf.h _ _ mm
   ·exact hf.h _ _ mw
   ·exact hf.h _ _ mo
  ·obtain ⟨rfl,rfl⟩:=sub i x hx
   rcases A5 Cx with ⟨rfl,rfl⟩ | ⟨rfl,rfl⟩ | ⟨rfl,rfl,_⟩
   ·exact out _ (.inr (.inr rfl))
   ·exact out _ (.inr (.inl rfl))
   ·exact out _ (.inl rfl)
 ·rw [hc]
  refine cM.share (bs:=[F.bm,F.bw]) (b:=F.bo) hA.tr (λ c Cx=>?_) (λ x hx=>by simp [hx]) _ _
  simp only [List.mem_cons,List.not_mem_nil,or_false] at Cx
  rcases Cx with rfl | rfl | rfl
  ·exact ⟨_,mo⟩
  ·exact ⟨_,mm⟩
  ·exact ⟨_,mw⟩
 ·by_cases hi:i=0
  ·subst hi
   rw [h0] at hx; cases hx
   rw [iZ]
   exact ⟨rfl,hd0,rfl,⟨R,H0⟩,_,rfl,Nat.le_refl _,.inl ⟨T,by simp,hT⟩⟩
  ·rw [fb hi]
   refine ⟨by simp [only,hi],by omega,q i,by simp [hi],hA.lv i x (by omega) hx⟩
 ·have:i≠0:=by omega
  simp [only,this]
end Go.Lg
namespace Go.Lg
theorem axA:∀ (l w s:Fin 2) (n:Fin 6),let v:Int:=(l.1:Int)+2 * w.1+4 * s.1+8 * n.1;
  fN .and .i32 v 1=some (l.1:Int)∧fN .and .i32 v 2=some (2 * w.1:Int)∧fN .and .i32 v 3=some ((l.1:Int)+2 * w.1)∧fN .and .i32 v 4=some (4 * s.1:Int)∧fN .and .i32 v 5=some ((l.1:Int)+4 * s.1) ∧
  fN .and .i32 v 7=some ((l.1:Int)+2 * w.1+4 * s.1)∧fN .or .i32 v 1=some (1+2 * w.1+4 * s.1+8 * n.1:Int)∧fN .or .i32 v 2=some ((l.1:Int)+2+4 * s.1+8 * n.1)∧fN .or .i32 v 4=some ((l.1:Int)+2 * w.1+4+8 * n.1) ∧
  fN .andNot .i32 v 2=some ((l.1:Int)+4 * s.1+8 * n.1)∧lR .i32 v 3=some (n.1:Int):=by decide +kernel
section
variable {m:Wd} (h:m.ok 5)
include h
theorem Wd.ru:fN .and .i32 m.val 1=some (m.l:Int)∧fN .and .i32 m.val 2=some (2 * m.w:Int)∧fN .and .i32 m.val 3=some ((m.l:Int)+2 * m.w)∧fN .and .i32 m.val 4=some (4 * m.s:Int)∧fN .and .i32 m.val 5=some ((m.l:Int)+4 * m.s) ∧
  fN .and .i32 m.val 7=some ((m.l:Int)+2 * m.w+4 * m.s)∧fN .or .i32 m.val 1=some (Wd.val { m with l:=1 })∧fN .or .i32 m.val 2=some (Wd.val { m with w:=1 })∧fN .or .i32 m.val 4=some (Wd.val { m with s:=1 }) ∧
  fN .andNot .i32 m.val 2=some (Wd.val { m with w:=0 })∧lR .i32 m.val 3=some (m.n:Int):=by
 obtain ⟨l,w,s,n⟩:=m
 obtain ⟨h1,h2,h3,h4⟩:=h
 have:=axA ⟨l,by simp only at h1; omega⟩ ⟨w,by simp only at h2; omega⟩ ⟨s,by simp only at h3; omega⟩ ⟨n,by simp only at h4; omega⟩
 simpa [Wd.val] using this
theorem Wd.fit:0≤m.val∧m.val≤47:=by
 obtain ⟨h1,h2,h3,h4⟩:=h
 unfold Wd.val; omega
end
theorem wrap_i32{z:Int}(h1 : -2147483648≤z)(h2:z≤2147483647):IntKind.i32.wrap z=z:=by
 unfold IntKind.wrap
 simp [IntKind.signed,IntKind.bits]
 omega
theorem wrap_u32{z:Int}(h1:0≤z)(h2:z≤4294967295):IntKind.u32.wrap z=z:=by
 unfold IntKind.wrap
 simp [IntKind.signed,IntKind.bits]
 omega
theorem acG{z:Int}(h1:0≤z)(h2:z≤18446744073709551615):IntKind.u64.wrap z=z:=by
 unfold IntKind.wrap
 simp [IntKind.signed,IntKind.bits]
 omega
theorem ayE{z:Int}(h1:4294967296≤z)(h2:z≤18446744073709551615):IntKind.u64.wrap (z+18446744069414584320)=z - 4294967296:=by
 unfold IntKind.wrap
 simp [IntKind.signed,IntKind.bits]
 omega
theorem axz:∀ (v:Fin 6) (w:Fin 2),let z:Int:=4294967296 * (v.1:Int)+w.1;
  fN .and .u64 z 2147483648=some 0∧fN .and .u64 z 2147483647=some (w.1:Int)∧lR .u64 z 32=some (v.1:Int):=by decide +kernel
theorem Uy{v w:Nat}(hv:v≤5)(hw:w≤1):fN .and .u64 (4294967296 * (v:Int)+w) 2147483648=some 0∧fN .and .u64 (4294967296 * (v:Int)+w) 2147483647=some (w:Int)∧lR .u64 (4294967296 * (v:Int)+w) 32=some (v:Int):=by
 simpa using axz ⟨v,by omega⟩ ⟨w,by omega⟩
end Go.Lg
namespace Go.Lg
open Go.Conc Go.ConcN
class rO (P:Program) where
 ki:Nat→Option IntKind
 ok:∀ t k,ki t=some k→P.underlying t=some (.int k)
def Oe(bo:BinOp)(kd:IntKind)(a b:Int):Option Value :=
 match bo with
 | .eql=>some (.bool (a == b))
 | .neq=>some (.bool (a != b))
 | .lss=>some (.bool (decide (a < b)))
 | .leq=>some (.bool (decide (a≤b)))
 | .gtr=>some (.bool (decide (a > b)))
 | .geq=>some (.bool (decide (a ≥ b)))
 | .add=>some (.int kd (kd.wrap (a+b)))
 | .sub=>some (.int kd (kd.wrap (a - b)))
 | .and=>some (.int kd ((fN .and kd a b).getD 0))
 | .or=>some (.int kd ((fN .or kd a b).getD 0))
 | .andNot=>some (.int kd ((fN .andNot kd a b).getD 0))
 | _=>none
def K4(fo:Nat→Nat→Option Nat)(ki:Nat→Option IntKind)(st:St)(o:Oper):Option Value :=
 match o.op with
 | .move x=>bg st x
 | .assign x=>bg st x
 | .nilCheck x=>match bg st x with
  | some (.pointer (some a))=>some (.pointer (some a))
  | _=>none
 | .pick x y z=>match bg st x with
  | some (.bool true)=>bg st y
  | some (.bool false)=>bg st z
  | _=>none
 | .unOp .not _ x=>match bg st x with
  | some (.bool a)=>some (.bool (!a))
  | _=>none
 | .binOp .shr _ x y _=>match bg st x,bg st y with
  | some (.int kd a),some (.int _ b)=>if b < 0 then none else some (.int kd (a.fdiv (2 ^ (min b.toNat kd.bits))))
  | _,_=>none
 | .binOp .shl _ x y _=>match bg st x,bg st y with
  | some (.int kd a),some (.int _ b)=>if b < 0 then none else some (.int kd (kd.wrap (a * 2 ^ (min b.toNat kd.bits))))
  | _,_=>none
 | .binOp bo _ x y _=>match bg st x,bg st y with
  | some (.int kd a),some (.int AB b)=>if kd=AB then Oe bo kd a b else none
  | _,_=>none
 | .convert s d x=>match bg st x,ki s,ki d with
  | some (.int _ a),some _,some kd=>some (.int kd (kd.wrap a))
  | _,_,_=>none
 | .fieldAddr s x f=>match bg st x,fo s f with
  | some (.pointer (some ⟨b,n,none⟩)),some off=>some (.pointer (some ⟨b,n+off,none⟩))
  | _,_=>none
 | _=>none
section
variable {P:Program} [lU P] [rO P] {B:Base} {main:Bool} {ab:Jd P B main} {J:QJ P} {c:Ctx} {R:av} {H:ai} {st st':St} {o:Oper} {k:List Item}
omit [lU P] [rO P] in
theorem ab0{kd yk:IntKind}{a b:Int}{t:TypeId}(hb:¬ b < 0):ah P (binOp .shr t (.int kd a) (.int yk b)) (.int kd (a.fdiv (2 ^ (min b.toNat kd.bits))))∧ah P (binOp .shl t (.int kd a) (.int yk b)) (.int kd (kd.wrap (a * 2 ^ (min b.toNat kd.bits)))):=by
 constructor <;> (simp only [binOp,Op.shift,if_false,hb]; exact ah.pure _)
omit [lU P] [rO P] in
theorem axU{bo:BinOp}{kd:IntKind}{a b:Int}{t:TypeId}{v:Value}(h:Oe bo kd a b=some v):ah P (binOp bo t (.int kd a) (.int kd b)) v:=by
 unfold Oe at h
 cases bo <;> simp only [Option.some.injEq,reduceCtorEq] at h <;> subst h <;> simp only [binOp,ne_eq,not_true_eq_false,if_false,Op.intArith,Op.intBits,fN,Option.getD_some] <;> exact ah.pure _
theorem ZZ{v:Value}(h:K4 (lU.off P) (rO.ki P) st o=some v)(hd:bQ o.dst c.n):rP P c o st v:=by
 unfold K4 at h
 split at h
 ·rename_i x an; exact OV.move an hd h
 ·rename_i x an; exact OV.assign an hd h
 ·rename_i x an
  split at h
  ·rename_i hx; cases h; exact OV.nilCheck an hd hx
  ·cases h
 ·rename_i x y z an
  split at h
  ·rename_i hx; exact OV.av4 an hd hx h
  ·rename_i hx; exact OV.av3 an hd hx h
  ·cases h
 ·rename_i t x an
  split at h
  ·rename_i hx; cases h; exact OV.not an hd hx
  ·cases h
 ·rename_i t x y u an
  split at h
  ·rename_i kd a AB b hx hy
   split at h
   ·cases h
   ·rename_i hb; cases h; exact OV.bin an hd hx hy (ab0 hb).1
  ·cases h
 ·rename_i t x y u an
  split at h
  ·rename_i kd a AB b hx hy
   split at h
   ·cases h
   ·rename_i hb; cases h; exact OV.bin an hd hx hy (ab0 hb).2
  ·cases h
 ·rename_i bo t x y u _ _ an
  split at h
  ·rename_i kd a AB b hx hy
   split at h
   ·rename_i e; subst e; exact OV.bin an hd hx hy (axU h)
   ·cases h
  ·cases h
 ·rename_i s d x an
  split at h
  ·rename_i ks a k0 kd hx hs hk
   cases h
   refine ⟨by rw [an]; rfl,hd,λ ρ ba=>?_⟩
   simp only [execOp,an,ba x _ hx]
   refine ah.bind ?_ (ah.pure _)
   unfold convert
   exact ah.bind (ah.underlying (rO.ok _ _ hs)) (ah.bind (ah.underlying (rO.ok _ _ hk)) (ah.pure _))
  ·cases h
 ·rename_i s x f an
  split at h
  ·rename_i hx hf; cases h; exact OV.fieldAddr an hd hx (lU.ok s f _ hf)
  ·cases h
 ·cases h
def T5(fo:Nat→Nat→Option Nat)(ki:Nat→Option IntKind)(ops:Array Oper)(n:Nat)(st:St)(i:Nat):Option St :=
 match ops[i]? with
 | none=>none
 | some o=>match cF ops st o with
  | some true=>match K4 fo ki st o,o.dst with
   | some v,some d=>if Nat.blt d n=true then some ((d,v)::st) else none
   | _,_=>none
  | some false=>match mc o.op,o.dst with
   | false,some d=>if Nat.blt d n=true then some ((d,undef)::st) else none
   | false,none=>some st
   | _,_=>none
  | none=>none
def qm(fo:Nat→Nat→Option Nat)(ki:Nat→Option IntKind)(ops:Array Oper)(n:Nat):List Nat→St→Option St
 | [],st=>some st
 | i::is,st=>match T5 fo ki ops n st i with
  | some st'=>qm fo ki ops n is st'
  | none=>none
theorem abA{ops:Array Oper}{n i:Nat}{fo:Nat→Nat→Option Nat}{ki:Nat→Option IntKind}(h:T5 fo ki ops n st i=some st'):∃ o,ops[i]? = some o ∧
  ((cF ops st o=some true∧∃ v d,K4 fo ki st o=some v∧o.dst=some d∧bQ (some d) n∧st'=(d,v)::st) ∨
   (cF ops st o=some false∧mc o.op=false∧bQ o.dst n∧st'=bT o.dst undef st)):=by
 unfold T5 at h
 split at h
 ·cases h
 ·rename_i o ho
  refine ⟨o,ho,?_⟩
  split at h
  ·rename_i hw
   split at h
   ·rename_i v d hv hd
    split at h
    ·rename_i hl; cases h; exact .inl ⟨hw,v,d,hv,hd,hl,rfl⟩
    ·cases h
   ·cases h
  ·rename_i hw
   split at h
   ·rename_i d lF hd
    split at h
    ·rename_i hl; cases h; exact .inr ⟨hw,lF,by rw [hd]; exact hl,by rw [hd]; rfl⟩
    ·cases h
   ·rename_i lF hd
    cases h; exact .inr ⟨hw,lF,by rw [hd]; rfl,by rw [hd]; rfl⟩
   ·cases h
  ·cases h
theorem U.qm{ops:Array Oper}(hk:(c.kind == CallKind.early)=false):∀ {is rest:List Nat} {st:St},Go.Lg.qm (lU.off P) (rO.ki P) ops c.n is st=some st'→U ab c R H st' (.inRegion ops rest::k)→U ab c R H st (.inRegion ops (is++rest)::k)
 | [],rest,st,h,ha=>by cases h; exact ha
 | i::is,rest,st,h,ha=>by
  unfold Go.Lg.qm at h
  split at h
  ·rename_i uU h1
   have ih:=U.qm hk h ha
   obtain ⟨o,ho,⟨hw,v,d,hv,hd,hl,rfl⟩ | ⟨hw,lF,hl,rfl⟩⟩:=abA h1
   ·exact U.val ho hw hk (ZZ hv (by rw [hd]; exact hl)) (by rw [hd]; exact aF.refl _) ih
   ·exact U.unwanted ho hw hl (aF.refl _) ih
  ·cases h
theorem ay.qm{ops:Array Oper}(hk:(c.kind == CallKind.early)=false):∀ {is rest:List Nat} {st:St},Go.Lg.qm (lU.off P) (rO.ki P) ops c.n is st=some st'→ay J c st' (.inRegion ops rest::k)→ay J c st (.inRegion ops (is++rest)::k)
 | [],rest,st,h,ha=>by cases h; exact ha
 | i::is,rest,st,h,ha=>by
  unfold Go.Lg.qm at h
  split at h
  ·rename_i uU h1
   have ih:=ay.qm hk h ha
   obtain ⟨o,ho,⟨hw,v,d,hv,hd,hl,rfl⟩ | ⟨hw,lF,hl,rfl⟩⟩:=abA h1
   ·exact ay.val ho hw hk (ZZ hv (by rw [hd]; exact hl)) (by rw [hd]; exact aF.refl _) ih
   ·exact ay.unwanted ho hw hl (aF.refl _) ih
  ·cases h
theorem U.lv(m:Nat){ops:Array Oper}{is qb:List Nat}(ha:U ab c R H st' (.inRegion ops qb::k))(h:Go.Lg.qm (lU.off P) (rO.ki P) ops c.n (is.take m) st=some st':=by rfl)(hr:is.drop m=qb:=by rfl)(hk:(c.kind == CallKind.early)=false:=by rfl):U ab c R H st (.inRegion ops is::k):=by
 subst hr
 have:=U.qm (rest:=is.drop m) hk h ha
 rwa [List.take_append_drop] at this
theorem ay.lv(m:Nat){ops:Array Oper}{is qb:List Nat}(ha:ay J c st' (.inRegion ops qb::k))(h:Go.Lg.qm (lU.off P) (rO.ki P) ops c.n (is.take m) st=some st':=by rfl)(hr:is.drop m=qb:=by rfl)(hk:(c.kind == CallKind.early)=false:=by rfl):ay J c st (.inRegion ops is::k):=by
 subst hr
 have:=ay.qm (rest:=is.drop m) hk h ha
 rwa [List.take_append_drop] at this
end
section
variable {P:Program} {B:Base} {main:Bool} {ab:Jd P B main} {J:QJ P} {c:Ctx} {R:av} {H:ai} {st st':St} {k:List Item}
theorem U.is(t:Nat){v v':Value}{todo:List Item}(hx:st.lookup t=some v)(hv:v=v')(h:U ab c R H ((t,v')::st) todo):U ab c R H st todo:=by
 subst hv
 refine U.sub (λ u x hu=>?_) h
 rw [List.lookup_cons] at hu
 split at hu
 ·rename_i e; rw [beq_iff_eq] at e; subst e; rw [hx]; exact hu
 ·exact hu
theorem ay.is(t:Nat){v v':Value}{todo:List Item}(hx:st.lookup t=some v)(hv:v=v')(h:ay J c ((t,v')::st) todo):ay J c st todo:=by
 subst hv
 refine ay.sub (λ u x hu=>?_) h
 rw [List.lookup_cons] at hu
 split at hu
 ·rename_i e; rw [beq_iff_eq] at e; subst e; rw [hx]; exact hu
 ·exact hu
theorem ay.rg(is:List Nat){id:Nat}{ops:Array Oper}(h:ay J c st (.inRegion ops is::k))(hn:ops.size=is.length:=by rfl)(lH:List.range is.length=is:=by rfl):ay J c st (.code (.region id ops false)::k):=ay.region hn lH h
def j5(P:Program)(J K:Goroutine→Prop)(f:FuncId)(vs:List Value):Prop :=
 ∀ fr cs,K (aX (Frame.finish fr (gG [])) cs)→J (aX (Frame.enter P f vs.toArray .normal) (fr::cs))
variable {ops:Array Oper} {i:Nat} {rest:List Nat} {o:Oper} {f:FuncId} {as:Array Operand} {gL:Array TypeId} {vs:List Value} {K:Goroutine→Prop}
theorem U.uG(ho:ops[i]? = some o)(hw:cF ops st o=some true)(fy:(c.kind == CallKind.early)=false)(an:o.op = .call ⟨.value (.func f),as,gL⟩)(ha:ia st as.toList=some vs)(he:bj P f)(hd:bQ o.dst c.n)
  (hf:j5 P (ab.J R H) K f vs) (h:∀ aZ,cL c.n (bT o.dst (gG []) st) aZ→K (aX (aV c aZ (.inRegion ops rest::k)) c.cs)):U ab c R H st (.inRegion ops (i::rest)::k):=λ tmps ht=>by
 obtain ⟨fn,h1,h2,h3⟩:=he.ex
 have hv:ah P (execOp (aV c tmps (.inRegion ops (i::rest)::k)).eval o) (.enter f vs.toArray):=by
  rw [Cs an ht ha]
  exact Bs h1 h2 h3
 refine Jd.ctl rfl (λ w=>?_) (hf (aV c tmps (.inRegion ops (i::rest)::k)) c.cs ?_)
 ·rw [oN ho (jY ht hw) (by rw [an]; rfl),E7 rfl (by simpa [aV] using fy) (hv w).1,(hv w).2]
  rfl
 ·rw [pa ho]
  exact h _ (ht.put _ hd)
theorem j5.bl{fn:Func}{body:Code}{n:Nat}(hf:P.funcs[f]? = some fn)(hb:fn.body=some body)(pX:fn.ntmps=n)(hn:Nat.ble vs.length n=true)
  (h:∀ fr cs,K (aX (Frame.finish fr (gG [])) cs)→U ab ⟨f,.normal,none,n,[],fr::cs⟩ R H (tB 0 vs) [.code body]):j5 P (ab.J R H) K f vs:=λ fr cs hk=>Jd.enter hf hb pX hn (h fr cs hk)
theorem U.o7{m:Nat}{fn:Func}{fr:Frame}{cs:List Frame}{todo:List Item}(hf:P.funcs[f]? = some fn)(hr:fn.results.toList=[])(hj:ab.J R H (aX (fr.finish (gG [])) cs))(hm:todo=[]∨∃ k,todo = .code .ret::k):U ab ⟨f,.normal,none,m,[],fr::cs⟩ R H st todo:=by
 have key:∀ tmps todo,cL m st tmps→ab.J R H (aX (iC ⟨f,.normal,none,m,[],fr::cs⟩ tmps todo) (fr::cs)):=λ tmps todo ht=>Jd.back hf ht (by rw [hr]; rfl) hj
 rcases hm with rfl | ⟨k,rfl⟩
 ·exact U.toEnd rfl λ tmps ht=>key tmps _ ht
 ·exact U.Uc rfl λ tmps ht=>key tmps _ ht
end
section
variable {P:Program} {main:Bool} {c:Ctx} {st:St} {k:List Item} {ops:Array Oper} {i:Nat} {rest:List Nat} {o:Oper} {f:FuncId} {as:Array Operand} {gL:Array TypeId} {vs:List Value}
theorem axv{tmps:Array Value}{w:World}(ho:ops[i]? = some o)(hw:cF ops st o=some true)(fy:(c.kind == CallKind.early)=false)(an:o.op = .call ⟨.value (.func f),as,gL⟩)(hf:fT P f Extern.OsHooks.nano)(hq:(P.funcs[f]?).any (·.norace)=true)(ht:cL c.n st tmps)(ha:ia st as.toList=some vs) :
  stepG P main (aX (aV c tmps (.inRegion ops (i::rest)::k)) c.cs) w = .go (aX (aV c (fg o.dst (.int .i64 ((w.os.mono+w.tick:Nat):Int)) tmps) (.inRegion ops rest::k)) c.cs) w.later #[]:=by
 obtain ⟨fn,h1,h2,h3,h4,h5⟩:=hf.ex
 have jS:(Extern.OsHooks.nano vs.toArray).run P w = .ok (.int .i64 ((w.os.mono+w.tick:Nat):Int)) w.later:=rfl
 rw [oN ho (jY ht hw) (by rw [an]; rfl),← pa (rest:=rest) (k:=k) (c:=c) (tmps:=tmps) (v:=.int .i64 ((w.os.mono+w.tick:Nat):Int)) ho,Cs an ht ha]
 have hr:(callFunc f vs.toArray).run P w = .ok (.value (.int .i64 ((w.os.mono+w.tick:Nat):Int))) w.later:=by rw [run_callFunc_extern h1 h2 h3 h4 h5,jS]; rfl
 rw [zB (by simpa [aV] using fy) hr]
 congr 1
 rw [events_callFunc_extern h1 h2 h3 h4 h5]
 simp only [List.push_toArray,List.nil_append]
 have jv:(Extern.OsHooks.nano vs.toArray).events P w #[⟨.mark (.extern f),false,true⟩]=#[⟨.mark (.extern f),false,true⟩]++#[⟨.output,true,false⟩]:=rfl
 rw [jv,seen_entry_out _ _ hq]
end
section
variable {F:Fx} {c:Ctx} {R:av} {H:ai} {st:St} {kk:List Item} {ops:Array Oper} {i:Nat} {rest:List Nat} {o:Oper} {f:FuncId} {as:Array Operand} {gL:Array TypeId} {vs:List Value} {n k j:Nat} {T:Lp}
theorem KW.nano(hB:∀ w:World,F.B.os w.os→F.B.os w.later.os)(ho:ops[i]? = some o)(hw:cF ops st o=some true)(fy:(c.kind == CallKind.early)=false)(an:o.op = .call ⟨.value (.func f),as,gL⟩)(hf:fT F.P f Extern.OsHooks.nano)(hq:(F.P.funcs[f]?).any (·.norace)=true)(ha:ia st as.toList=some vs)(hd:bQ o.dst c.n)
  (hT:T ≠ .us∧T ≠ .d4) (jv:Cq F T #[])
  (h:pv F.N T→∀ z:Int,∃ T',(∀ s,c7 T s T' s)∧wM F j T T'∧∀ aZ,cL c.n (bT o.dst (.int .i64 z) st) aZ→vl F (KW F n k) k j T T' R H (aX (aV c aZ (.inRegion ops rest::kk)) c.cs)) :
  ∀ tmps,cL c.n st tmps→KW F (n+1) k j T R H (aX (aV c tmps (.inRegion ops (i::rest)::kk)) c.cs):=by
 intro tmps ht ot
 refine ⟨rfl,rfl,λ e=>by rcases e with e | e; exact absurd e hT.1; exact absurd e hT.2,λ w s vG bh vJ lI=>.inr ?_⟩
 obtain ⟨T',h1,h2,h3⟩:=h ot ((w.os.mono+w.tick:Nat):Int)
 exact ⟨_,w.later,#[],T',s,h1 s,h2,jv,axv ho hw fy an hf hq ht ha,bV.later bh (hB w),h3 _ (ht.put _ hd)⟩
end
section
variable {F:Fx} {c:Ctx} {R:av} {H:ai} {st:St} {todo:List Item} {n k j:Nat} {T T':Lp} {T0:Mp}
theorem U.axx(h:∀ m,m < n→∀ tmps,cL c.n st tmps→KW F (m+1) k j T R H (aX (aV c tmps todo) c.cs)):U (HW F.P F.B false (KW F n k j T)) c R H st todo:=λ tmps ht=>by
 cases n with
 | zero=>exact Own.stop _ _ _ _ trivial
 | succ n=>exact Own.stop _ _ _ _ (h n (Nat.lt_succ_self n) tmps ht)
theorem U.axw(h:∀ m,m < n→∀ tmps,cL c.n st tmps→KM F (m+1) T0 R H (aX (aV c tmps todo) c.cs)):U (HW F.P F.B true (KM F n T0)) c R H st todo:=λ tmps ht=>by
 cases n with
 | zero=>exact Own.stop _ _ _ _ trivial
 | succ n=>exact Own.stop _ _ _ _ (h n (Nat.lt_succ_self n) tmps ht)
theorem nU(h:T ≠ .ue):wM F j T T':=by unfold wM; split <;> first | trivial | exact absurd rfl h
theorem alf(c:Lc):hd c = .sq c∨hd c = .c2 c:=by unfold hd; split; exact .inl rfl; exact .inr rfl
theorem axc(c:Lc):iE c = .c1 c∨iE c = .r1 c:=by unfold iE; split; exact .inl rfl; exact .inr rfl
theorem apA(m:Wd):hu m = .ue∨hu m = .uc m:=by unfold hu; split; exact .inl rfl; exact .inr rfl
theorem Lu{K:Nat→Lp→av→ai→Goroutine→Prop}{c:Lc}{g:Goroutine}(h:Own F.P F.B false (K j (hd c)) R H g):vl F K k j T (hd c) R H g:=by rcases alf c with e | e <;> rw [e] at h ⊢ <;> exact h
theorem avo{K:Nat→Lp→av→ai→Goroutine→Prop}{c:Lc}{g:Goroutine}(h:Own F.P F.B false (K j (iE c)) R H g):vl F K k j T (iE c) R H g:=by rcases axc c with e | e <;> rw [e] at h ⊢ <;> exact h
theorem aaB{K:Nat→Lp→av→ai→Goroutine→Prop}{m:Wd}{g:Goroutine}(h:Own F.P F.B false (K j (hu m)) R H g):vl F K k j T (hu m) R H g:=by rcases apA m with e | e <;> rw [e] at h ⊢ <;> exact h
end
section
variable {P:Program} {B:Base} {main:Bool} {ab:Jd P B main} {c:Ctx} {R:av} {H:ai} {st st':St} {k:List Item} {ops:Array Oper} {i:Nat} {rest:List Nat} {o:Oper} {f:FuncId} {as:Array Operand} {gL:Array TypeId} {e:Array Value→Sem Value} {vs:List Value} {v:Value}
theorem U.ext(ho:ops[i]? = some o)(hw:cF ops st o=some true)(fy:(c.kind == CallKind.early)=false)(an:o.op = .call ⟨.value (.func f),as,gL⟩)(hd:bQ o.dst c.n)(hf:fT P f e)(ha:ia st as.toList=some vs)
  (hE:∀ w,mC P (e vs.toArray) f w v w #[]) (hs:aF (bT o.dst v st) st') (h:U ab c R H st' (.inRegion ops rest::k)):U ab c R H st (.inRegion ops (i::rest)::k):=λ _ ht =>
 Jd.ctl rfl (λ w=>Ie ho hw fy an hf ht ha (hE w)) (h _ ((ht.put v hd).sub hs))
theorem O0{w:World}:mC P (pure v) f w v w #[]:=⟨rfl,rfl,by simp⟩
theorem U.join{x:Operand}{th el:Code}{b:Bool}(hx:bg st x=some (.bool b))(h1:b=true→U ab c R H st' k→U ab c R H st (.code th::k))(h2:b=false→U ab c R H st' k→U ab c R H st (.code el::k))(h:U ab c R H st' k):U ab c R H st (.code (.cond x th el)::k):=by
 cases b
 ·exact U.dW hx rfl (h2 rfl h)
 ·exact U.fe hx rfl (h1 rfl h)
theorem U.head{X:Type}{Jn:Nat→X→Jd P B main}{S:X→St}{ok:X→Prop}{todo:List Item}(step:∀ n,(∀ m,m < n→∀ x,ok x→U (Jn m x) c R H (S x) todo)→∀ x,ok x→U (Jn n x) c R H (S x) todo)(n:Nat)(x:X)(hx:ok x):U (Jn n x) c R H (S x) todo:=by
 induction n using Nat.strongRecOn generalizing x with
 | _ n ih=>exact step n (λ m hm x hx=>ih m hm x hx) x hx
end
end Go.Lg
namespace Go.Lg
open Go.Conc Go.ConcN Go.ChangeShapes Go.RowKit
open Go.ConcM (OsLater)
section
variable {P:Program} {B:Base} {PW:Value→World→Prop} {R:av} {H:ai} {st:St} {k:List Item}
theorem hU.agN{g:Goroutine}(hs:g.status = .running)(h:∀ w,Fits B R H w→∃ v w' es R' H',stepG P true g w = .ended (.done v) w' es∧(∀ e∈es,gA R H w.heap.size w'.heap.size e)∧fw B R H w R' H' w'∧PW v w'):hU P B PW R H g:=by
 refine hU.pick hs λ gs w sl py d t q dd h0 hA cJ=>?_
 obtain ⟨v,w',es,R',H',h1,h2,hu,h3⟩:=h _ hA.fits
 have Gl:=runT_many_ended (P:=P) (sl:=py) (i:=0) h0 (show stepG P (0 == 0) g (w.at d)=_ from h1)
 have KB:=HX hA.mem Tp To hA.tr (i:=0) rfl (.inl rfl) h2 (.inl rfl) hu g.frame.fn g.frame.place
 rw [LB] at KB
 refine kL.end (cJ.trans Gl) ⟨v,rfl,h3,KB.2.clean,KB.2.handed,⟨λ x hx=>?_,rfl⟩,λ j x hx hj=>?_⟩
 ·obtain ⟨j,hj⟩:=List.mem_iff_getElem?.1 hx
  rw [List.getElem?_drop] at hj
  exact ⟨_,(hA.lv (1+j) x (by omega) (by simpa [Go.Conc.crowd] using hj)).leaves⟩
 ·have hq:=hA.lv j x (by omega) hx
  refine ⟨q j,?_⟩
  have e:Trace.deaf _ j _=dd j:=KB.2.deaf j
  rw [e]
  exact hq.hears _
def Jf(P:Program)(B:Base)(PW:Value→World→Prop)(f:FuncId)(args:Array Value)(R:av)(H:ai)(Post:Value→av→ai→Prop):Prop :=
 (∀ v R' H' w,Post v R' H'→Fits B R' H' w→PW v w)→hU P B PW R H (aX (Frame.enter P f args .normal) [])
theorem Jf.bl{f:FuncId}{fn:Func}{body:Code}{args:List Value}{n:Nat}{Post:Value→av→ai→Prop}(hf:P.funcs[f]? = some fn)(hb:fn.body=some body)(pX:fn.ntmps=n)(hn:Nat.ble args.length n=true)
  (h:(∀ v R' H' w,Post v R' H'→Fits B R' H' w→PW v w)→U (A6 P B PW) ⟨f,.normal,none,n,[],[]⟩ R H (tB 0 args) [.code body]):Jf P B PW f args.toArray R H Post:=by
 subst pX
 intro hk
 have hn:args.length≤fn.ntmps:=by simpa [Nat.ble_eq] using hn
 have:=h hk (args.toArray++Array.replicate (fn.ntmps - args.length) undef) ⟨by simp; omega,λ t v ht=>?_⟩
 ·have e:Frame.enter P f args.toArray .normal=aV ⟨f,.normal,none,fn.ntmps,[],[]⟩ (args.toArray++Array.replicate (fn.ntmps - args.length) undef) [.code body]:=by
   simp [Frame.enter,aV,hf,hb]
  rw [e]
  exact this
 ·obtain ⟨_,h2⟩:=E8 args 0 t v ht
  have bJ:t < args.length:=by
   have:=(List.getElem?_eq_some_iff.1 h2).1
   simpa using this
  rw [Array.getElem?_append_left (by simpa using bJ)]
  simpa using h2
theorem U.ve{H':ai}{f:FuncId}{n:Nat}{fn:Func}{vs:List Value}{Post:Value→av→ai→Prop}(hf:P.funcs[f]? = some fn)(hi:P.inits.idxOf? f=none)(hr:oa P R H st fn.results.toList vs)(hs:List.Sublist H' H)
  (hk:∀ v R' H' w,Post v R' H'→Fits B R' H' w→PW v w) (hp:Post (gG vs) R H'):U (A6 P B PW) ⟨f,.normal,none,n,[],[]⟩ R H st (.code .ret::k):=λ tmps ht=>by
 refine Jd.ctl (g':=aX { (aV ⟨f,.normal,none,n,[],[]⟩ tmps (.code .ret::k)) with mode:=.returning } []) rfl (λ w=>by simp [stepG,stepG.exec,aX,aV])
  (hU.agN rfl λ w hw=>?_)
 obtain ⟨v,w',R',H2,h1,h2,h3,rfl,rfl,rfl⟩:=LX (P:=P) ht hr w hw
 refine ⟨gG vs,w',seen P f ((results fn tmps).events P w #[]),_,_,?_,λ e he=>h2 e (mem_seen he),h3,hk _ _ _ _ hp (Ma hs h3.fits).fits⟩
 simp [stepG,unwind,doReturn,aX,aV,hf,h1,GStep.after,hi]
end
def pk(W:World):av:=λ b=>W.heap[b]?
def Ci(W:World):Base:=⟨OsLater W.os,W.tape,W.output⟩
theorem alh(W:World):Fits (Ci W) (pk W) [] W:=⟨λ _ _ h=>h,by simp,by simp,by simp,OsLater.refl _,rfl,rfl⟩
theorem af5{W w:World}(h:(Ci W).os w.os):(Ci W).os w.later.os:=OsLater.trans h ⟨w.tick,rfl⟩
theorem avi{P:Program}{PW:Value→World→Prop}{W:World}{g:Goroutine}(h:hU P (Ci W) PW (pk W) [] g) :
  ∃ M last o w' t',runNT P (M+1) (solo g W) #[]=(.ended o w',t')∧runN P M (solo g W) = .next last∧step P last = .ended o w'∧Conc.Good P PW last o w' t':=by
 have nt:∀ k a,touchAt (#[]:Trace) k=some a→False:=λ k a hk=>by simp [touchAt,Trace.act?] at hk
 refine h #[g] W none #[] (λ _=>0) (λ _=>0) rfl ⟨⟨λ i x hx=>?_,λ i j x y sb hx hy=>?_,by simp,by simp⟩,⟨λ i x hx b o hb k a hk=>(nt k a hk).elim,λ i x hx b o hb k a hk=>(nt k a hk).elim,λ b hb=>(by cases hb),λ b hb=>(by cases hb),by simp,λ k a hk=>(nt k a hk).elim,λ i=>rfl,λ a i hi=>(by simp [Trace.act?] at hi),λ said=>?_,λ k a hk=>(nt k a hk).elim⟩,rfl,λ _ _=>rfl,λ i g' hi hg=>?_⟩
 ·unfold only at hx
  split at hx
  ·cases hx; exact alh W
  ·cases hx
 ·unfold only at hx hy
  split at hx
  ·split at hy
   ·omega
   ·cases hy
  ·cases hx
 ·rintro ⟨i,j,_,⟨a,b,h1,_⟩,_⟩
  exact nt i a h1
 ·have:i < 1:=(Array.getElem?_eq_some_iff.1 hg).1
  omega
theorem af6{W w:World}{R:av}{H:ai}(h:Fits (Ci W) R H w)(hR:aT (pk W) R):Below W.heap.size W { w with os:=W.os }:=by
 have hb:∀ k,k < W.heap.size→w.heap[k]? = W.heap[k]? := λ k hk=>by
  have e:W.heap[k]? = some W.heap[k]:=Array.getElem?_eq_getElem hk
  rw [e]
  exact h.r k _ (hR k _ e)
 refine ⟨rfl,h.tape,h.out,?_,hb⟩
 by_cases hz:W.heap.size=0
 ·omega
 ·have h1:=hb (W.heap.size - 1) (by omega)
  rw [Array.getElem?_eq_getElem (xs:=W.heap) (by omega)] at h1
  have:=(Array.getElem?_eq_some_iff.1 h1).1
  show W.heap.size≤w.heap.size
  omega
structure fZ (P:Program) (t:TypeId) {α:Type} (C:cx α) (k:Nat):Prop where
 size:P.cellsOf t=k
 rd:∀ (W:World) (T:Type) (enc:TypeId × Value→T) (sp:Nat→Bool) (held:Bool) (fuel:Nat) (cs:List Value) (x:DataW T × List MemPlace),DataW.trod enc P W 0 sp held fuel t cs=some x→cs.length=k∧∃ a,C (pk W) a cs
theorem fZ.int{P:Program}{t:TypeId}{kd:IntKind}(hs:P.cellsOf t=1)(ht:P.underlying t=some (.int kd)):fZ P t (CI kd) 1:=⟨hs,λ W T enc sp held fuel cs x h=>by
 obtain ⟨n,rfl,_,_⟩:=DataW.trod_int ht h
 exact ⟨rfl,n,rfl⟩⟩
theorem fZ.str{P:Program}{t:TypeId}(hs:P.cellsOf t=1)(ht:P.underlying t=some .string):fZ P t CS 1:=⟨hs,λ W T enc sp held fuel cs x h=>by
 obtain ⟨s,rfl,_,_⟩:=DataW.trod_string ht h
 exact ⟨rfl,s,rfl⟩⟩
theorem afa(a:Addr)(i j:Nat)(h:a.spot=none):(a.add i).add j=⟨a.block,a.off+(i+j),none⟩:=by
 obtain ⟨b,o,s⟩:=a
 cases h
 rw [pK,pK,Nat.add_assoc]
theorem fZ.slice{P:Program}{t e:TypeId}{α:Type}{C:cx α}{k:Nat}(hs:P.cellsOf t=1)(ht:P.underlying t=some (.slice e))(hk:0 < k)(he:fZ P e C k):fZ P t (jL C k) 1:=⟨hs,λ W T enc sp held fuel cs x h=>by
 rcases DataW.trod_slice ht h with ⟨rfl,_⟩ | ⟨a,len,cap,elems,rest,n,_,rfl,_,_,hl,_,hlen,lb,_⟩
 ·exact ⟨rfl,[],_,rfl,ae.nil⟩
 refine ⟨rfl,?_⟩
 rw [he.size] at lb
 have each:∀ i:Fin len,∃ (p:α × List Value),C (pk W) p.1 p.2∧p.2.length=k∧∀ j w,p.2[j]? = some w→W.cell? ((a.add (i * k)).add j)=some w:=λ i=>by
  have h1:=lb i i.2
  rw [List.getElem?_eq_getElem (by omega),Option.bind_eq_some_iff] at h1
  obtain ⟨ch,h2,h3⟩:=h1
  obtain ⟨h4,y,hy⟩:=he.rd _ _ _ _ _ _ _ _ h3
  refine ⟨(y,ch),hy,h4,λ j w hj=>?_⟩
  have h5:=(World.cells?_some h2).2.2 j (by have:=(List.getElem?_eq_some_iff.1 hj).1; simp only at this; omega)
  rw [h5]
  exact hj
 have Zq:0 < len→a.spot=none:=λ hF=>by
  obtain ⟨p,_,h2,h3⟩:=each ⟨0,hF⟩
  have h4:=h3 0 p.2[0] (List.getElem?_eq_getElem (by omega))
  simpa [Addr.add] using World.cell?_spot h4
 let f:Fin len→α × List Value:=λ i=>(each i).choose
 have hf:∀ i,_:=λ i=>(each i).choose_spec
 let xs:List α:=List.ofFn λ i=>(f i).1
 let es:List Value:=(List.range (len * k)).map λ m=>(W.cell? ⟨a.block,a.off+m,none⟩).getD undef
 have KR:xs.length=len:=by simp [xs]
 have cell:∀ i j w (hi:i < len),(f ⟨i,hi⟩).2[j]? = some w→W.cell? ⟨a.block,a.off+(i * k+j),none⟩=some w:=λ i j w hi hj=>by
  have:=(hf ⟨i,hi⟩).2.2 j w hj
  rwa [afa _ _ _ (Zq (by omega))] at this
 have idx:∀ i j,i < len→j < k→i * k+j < len * k:=λ i j hi hj=>by
  have:(i+1) * k≤len * k:=Nat.mul_le_mul_right k hi
  rw [Nat.add_mul] at this
  omega
 refine ⟨xs,_,rfl,some a,cap,es,by rw [KR],⟨by simp [es,KR],λ i x hx=>?_⟩,by omega,λ eB=>?_⟩
 ·have hi:i < len:=by rw [← KR]; exact (List.getElem?_eq_some_iff.1 hx).1
  have hxe:x=(f ⟨i,hi⟩).1:=by
   simp only [xs,List.getElem?_ofFn,hi,dif_pos,Option.some.injEq] at hx
   exact hx.symm
  subst hxe
  refine ⟨(f ⟨i,hi⟩).2,(hf ⟨i,hi⟩).1,(hf ⟨i,hi⟩).2.1,λ j w hj=>?_⟩
  have mI:j < k:=by have:=(List.getElem?_eq_some_iff.1 hj).1; rw [(hf ⟨i,hi⟩).2.1] at this; exact this
  simp only [es,List.getElem?_map,List.getElem?_range (idx i j hi mI),Option.map_some,cell i j w hi hj,Option.getD_some]
 ·have hF:0 < len:=by rw [← KR]; exact List.length_pos_iff.2 eB
  obtain ⟨b,o,s⟩:=a
  obtain rfl:s=none:=Zq hF
  have all:∀ m,m < len * k→∃ w,W.cell? ⟨b,o+m,none⟩=some w:=λ m hm=>by
   have hi:m / k < len:=Nat.div_lt_of_lt_mul (by rw [Nat.mul_comm]; exact hm)
   have hj:m % k < (f ⟨m / k,hi⟩).2.length:=by rw [(hf ⟨m / k,hi⟩).2.1]; exact Nat.mod_lt _ hk
   have:=cell (m / k) (m % k) _ hi (List.getElem?_eq_getElem hj)
   rw [show m / k * k+m % k=m by rw [Nat.mul_comm]; exact Nat.div_add_mod m k] at this
   exact ⟨_,this⟩
  have h0:∃ arr e fz,W.heap[b]? = some (.cells arr e fz):=by
   obtain ⟨w,hw⟩:=all 0 (Nat.mul_pos hF hk)
   unfold World.cell? at hw
   simp only at hw
   split at hw
   ·rename_i c e' fz hb
    exact ⟨c,e',fz,hb⟩
   ·cases hw
  obtain ⟨arr,e',fz,hb⟩:=h0
  refine ⟨b,o,arr,e',fz,rfl,hb,λ j w hj=>?_⟩
  have Cz:j < len * k:=by have:=(List.getElem?_eq_some_iff.1 hj).1; simpa [es] using this
  obtain ⟨w',KF⟩:=all j Cz
  simp only [es,List.getElem?_map,List.getElem?_range Cz,Option.map_some,KF,Option.getD_some,Option.some.injEq] at hj
  subst hj
  simpa [World.cell?,hb] using KF⟩
theorem fZ.field{P:Program}{t:TypeId}{α:Type}{C:cx α}{k:Nat}(hC:fZ P t C k){W:World}{T:Type}{enc:TypeId × Value→T}{sp:Nat→Bool}{held:Bool}{n:Nat}{cs:List Value}{xs:List (DataW T × List MemPlace)}{i m:Nat}{f:Field}(es:List Value)(hx:xs.length=m)
  (h:DataW.trod enc P W 0 sp held n f.type ((cs.drop f.offset).take (P.cellsOf f.type))=xs[i]?) (hi:Nat.blt i m=true:=by rfl) (hf:f.type=t:=by rfl) (he:(cs.drop f.offset).take k=es:=by rfl):∃ a,C (pk W) a es:=by
 rw [hf,hC.size,he,List.getElem?_eq_getElem (by rw [hx]; simpa [Nat.blt_eq] using hi)] at h
 exact (hC.rd _ _ _ _ _ _ _ _ h).2
theorem abK{T:Type}{enc:TypeId × Value→T}{P:Program}(hl:laidOutB P=true){W W':World}(hb:Below W.heap.size W W') :
  ∀ {ts:List TypeId} {vs:List Value} {ds:List (DataW T)} {ps:List MemPlace},(ts.all λ t=>P.readableRec t && decide (t < P.types.size))=true→DataW.TrodAll enc P W 0 (λ _=>true) true ts vs ds ps→(∀ x∈ps,x.block < W.heap.size) →
   DataW.TrodAll enc P W' 0 (λ b=>decide (b < W.heap.size)) true ts vs ds ps
 | [],[],[],_,_,h,_=>h
 | t::ts,v::vs,d::ds,_,hr,⟨p,q,h1,h2,e⟩,bJ=>by
  subst e
  simp only [List.all_cons,Bool.and_eq_true,decide_eq_true_eq] at hr
  exact ⟨p,q,Below.trod hl hr.1.1 hr.1.2 h1 hb (λ x hx=>bJ x (by simp [hx])),abK hl hb hr.2 h2 (λ x hx=>bJ x (by simp [hx])),rfl⟩
 | [],[],_::_,_,_,h,_=>h.elim
 | [],_::_,_,_,_,h,_=>h.elim
 | _::_,[],_,_,_,h,_=>h.elim
 | _::_,_::_,[],_,_,h,_=>h.elim
theorem ayC{T:Type}{enc:TypeId × Value→T}{C:Checked}{os:Os}{f:FuncId}{fn:Func}{s:ChangeSpec}{conds:List PathCond}{apart:Bool}{X:World→Array Value→Prop}(w0:World)(args:Array Value)(fuel:Nat)(vJ:w0.os=os)
  (bh:(w0.forCall (λ _ _=>0) ⟨#[],args,[]⟩).Shaped C.prog)
  (ix:Input.okWideB C.prog (w0.forCall (λ _ _=>0) ⟨#[],args,[]⟩) f ⟨#[],args,[]⟩=true)
  (CH:s.preB enc C.prog fn conds apart (w0.forCall (λ _ _=>0) ⟨#[],args,[]⟩).memory args fuel=true)
  (fp:s.sizedB enc C.prog fn apart (w0.forCall (λ _ _=>0) ⟨#[],args,[]⟩).memory args fuel=true)
  (hx:X (w0.forCall (λ _ _=>0) ⟨#[],args,[]⟩).memory args) :
  ∃ (w:World) (tape:Tape) (i:Input),w.os=os∧(w.forCall tape i).Shaped C.prog∧i.vars=[]∧Input.okWide C.prog (w.forCall tape i) .any w.heap.size f i ∧
   ((s.pre enc C.prog fn conds apart (w.forCall tape i).memory i.args∧X (w.forCall tape i).memory i.args)∧sizedMet enc C.prog fn (OpenSpec.ofChange s) apart (w.forCall tape i).memory i.args)∧({ calm:=true }:Assume).holds C.prog (lone (Frame.enter C.prog f i.args .normal) [] (w.forCall tape i)) :=
 ⟨w0,λ _ _=>0,⟨#[],args,[]⟩,vJ,bh,(Input.okWide_of_okWideB (base:=0) ix).1,(Input.okWide_of_okWideB ix).2,⟨⟨ChangeSpec.pre_of_preB CH,hx⟩,sizedMet_of_sizedB fp⟩,by
  simp only [Assume.holds]
  exact ⟨by simp,λ _ _ _ _=>rfl,by simp,by simp,by simp⟩⟩
theorem atc{T:Type}{enc:TypeId × Value→T}{a:Assume}{C:Checked}{os:Os}{f:FuncId}{fn:Func}{s:ChangeSpec}{F:Stop.Interp}{conds:List PathCond}{apart fresh handsOn:Bool}{X:World→Array Value→Prop}
  (hX:∀ (w w':World) (args:Array Value),w.heap=w'.heap→X w args→X w' args)
  (own:ownKnob C.prog.godebug=none) (started:os.Started) (P6:C.prog.funcs[f]? = some fn)
  (witness:∃ (w:World) (tape:Tape) (i:Input),w.os=os∧(w.forCall tape i).Shaped C.prog∧i.vars=[]∧Input.okWide C.prog (w.forCall tape i) .any w.heap.size f i ∧
   ((s.pre enc C.prog fn conds apart (w.forCall tape i).memory i.args∧X (w.forCall tape i).memory i.args)∧sizedMet enc C.prog fn (OpenSpec.ofChange s) apart (w.forCall tape i).memory i.args)∧a.holds C.prog (lone (Frame.enter C.prog f i.args .normal) [] (w.forCall tape i)))
  (runs:∀ (W:World) (base:Nat) (args:Array Value) (ds gs:List (DataW T)) (before:List MemPlace),
   (∀ (j:Nat) t v,fn.params[j]? = some t→args[j]? = some v→Value.okWide C.prog W .any base t v) →
   DataW.Whole enc C.prog fn.params.toList s.vars apart W args.toList ds gs before→X W args →
   ∃ M last o w' t',runNT C.prog (M+1) (solo (aX (Frame.enter C.prog f args .normal) []) W) #[]=(.ended o w',t')∧runN C.prog M (solo (aX (Frame.enter C.prog f args .normal) []) W) = .next last ∧
    Go.step C.prog last = .ended o w'∧Conc.Good C.prog (λ v W'=>s.post enc C.prog fn apart fresh handsOn false W args v { W' with os:=W.os }∧OsLater W.os W'.os) last o w' t') :
  ReturnsInLeavingWide a C os f .any (λ w args=>(s.pre enc C.prog fn conds apart w args∧X w args)∧sizedMet enc C.prog fn (OpenSpec.ofChange s) apart w args) ((OpenSpec.ofChange s).postWith enc C.prog fn F (outsideKept [.timePasses]) apart fresh handsOn):=by
 refine returnsInLeavingWide_of_good own started witness ?_
 intro w tape i _ _ _ ix CH _
 obtain ⟨_,_,_,Ct,alu,_,_,_,_,BZ⟩:=ix
 have e:Ct=fn:=Option.some.inj (alu.symm.trans P6)
 subst e
 obtain ⟨⟨⟨ds,gs,before,hw,hc⟩,hx⟩,_⟩:=CH
 have KF:=DataW.Whole.of_heap (w':=w.forCall tape i) (by rfl) hw
 obtain ⟨M,last,o,w',t',h1,h2,h3,h4⟩:=runs (w.forCall tape i) w.heap.size i.args ds gs before BZ KF (hX _ _ _ (by rfl) hx)
 exact ⟨M,last,o,w',t',h1,h2,h3,h4.mono λ v hp=>postWith_blind (postWith_of_post hp.1 hp.2)⟩
theorem av8{T:Type}{enc:TypeId × Value→T}{P:Program}{fn:Func}{s:ChangeSpec}{apart fresh handsOn again:Bool}{W w:World}{args:Array Value}{ds gs:List (DataW T)}{before:List MemPlace}{tb:TypeId}
  (hl:laidOutB P=true) (hr:(fn.params.toList.all λ t=>P.readableRec t && decide (t < P.types.size))=true) (hv:s.vars=[]) (am5:fn.resultTypes=#[tb]) (htb:P.underlying tb=some .bool)
  (hW:DataW.Whole enc P fn.params.toList s.vars apart W args.toList ds gs before) (hag:again=false) (hb:Below W.heap.size W w)
  (h1:(s.fn T (ds++[])).results=[.lit (.bool true)]) (h2:(s.fn T (ds++[])).args=ds) (h3:(s.fn T (ds++[])).vars=[]):s.post enc P fn apart fresh handsOn again W args (.bool true) w:=by
 have Kf:=hW
 have bJ:∀ x∈before,x.block < W.heap.size:=λ x hx=>by simpa using Kf.lt x hx
 obtain ⟨p,q,hA,hV,e,_,_⟩:=hW
 rw [hv] at hV
 obtain ⟨e1,e2⟩:=trodVars_none hV
 subst e1 e2 e
 refine ⟨ds,[],p++[],[],p,[],Kf,?_,?_,by rw [hv,h3]; rfl,hb.frame _,λ h=>by rw [hag] at h; cases h⟩
 ·rw [h1,am5]
  exact trodAll_mk1 (shut_bool htb true)
 ·rw [h2]
  exact abK hl hb hr hA (λ x hx=>bJ x (by simp [hx]))
theorem agn{W:World}{b o:Nat}{v:Value}(h:W.cell? ⟨b,o,none⟩=some v):Cell (pk W) [] ⟨b,o,none⟩ v:=by
 unfold World.cell? at h
 simp only at h
 split at h
 ·rename_i c e fz hb
  exact ⟨rfl,c,e,fz,.inl hb,by simpa using h⟩
 ·cases h
end Go.Lg
