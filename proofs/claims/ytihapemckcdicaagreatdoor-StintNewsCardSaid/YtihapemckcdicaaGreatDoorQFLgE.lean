/- What enters and leaves the machine; the run of a row. Conditions: none. -/
import Derived.Test.YtihapemckcdicaaGreatDoorQFLgC
import Derived.Test.YtihapemckcdicaaGreatDoorQFLgB
import Derived.Test.YtihapemckcdicaaGreatDoorQFLgD
import Derived.Conc.AtomicLaws2
import Derived.Conc.ClockLaws
import Derived.Conc.EventLaws
import Derived.Laws.LoneSync
import Derived.Conc.SmallLaws
import Derived.Conc.LeavingOf
import Derived.Conc.HoldsTime
import Derived.Handed
import Derived.LaidMore
import Derived.Below
import Derived.Carry
import Derived.SizedLaws
namespace Go.Lg
open Go.Conc Go.ConcN
structure gd (P:Program) (f:FuncId) (e:Array Value→Sem Value):Prop where
 ex:∃ fn,P.funcs[f]? = some fn∧(fn.name == "runtime.NumGoroutine")=false∧fn.body.isNone=true∧Extern.findNext fn=none∧Extern.find fn=some e
def mU(P:Program)(s:Sem Value)(f:FuncId)(w:World)(v:Value)(w':World)(mq:Array Event):Prop :=
 s.run P w = .ok v w'∧s.events P w #[⟨.mark (.extern f),false,true⟩]=#[⟨.mark (.extern f),false,true⟩]++mq∧∀ x∈mq,x.sync=true∧∀ g,x.loc ≠ .mark (.extern g)
section
variable {P:Program} {main:Bool} {c:Ctx} {st:St} {k:List Item} {ops:Array Oper} {i:Nat} {rest:List Nat} {o:Oper} {f:FuncId} {as:Array Operand} {ig:Array TypeId} {e:Array Value→Sem Value} {vs:List Value} {tmps:Array Value} {w w':World} {v:Value} {mq:Array Event}
theorem D5{tmps:Array Value}(au:o.op = .call ⟨.value (.func f),as,ig⟩)(ht:cQ c.n st tmps)(ha:iD st as.toList=some vs):execOp (aW c tmps (.inRegion ops (i::rest)::k)).eval o=callFunc f vs.toArray:=by
 have hk:=ht.knows c (.inRegion ops (i::rest)::k)
 have ef:(aW c tmps (.inRegion ops (i::rest)::k)).eval (.func f) = .func (.func f) #[] #[]:=rfl
 have e2:as.map (aW c tmps (.inRegion ops (i::rest)::k)).eval=vs.toArray:=by apply Array.ext'; simpa using AH hk _ _ ha
 unfold execOp
 simp [au,resolve,Deferred.ofValue,invoke,ef,e2]
theorem J9(ho:ops[i]? = some o)(hw:cJ ops st o=some true)(fG:(c.kind == CallKind.early)=false)(au:o.op = .call ⟨.value (.func f),as,ig⟩)(hf:gd P f e)(ht:cQ c.n st tmps)(ha:iD st as.toList=some vs)(hE:mU P (e vs.toArray) f w v w' mq) :
  stepG P main (aY (aW c tmps (.inRegion ops (i::rest)::k)) c.cs) w = .go (aY (aW c (fw o.dst v tmps) (.inRegion ops rest::k)) c.cs) w' mq:=by
 obtain ⟨fn,h1,h2,h3,h4,h5⟩:=hf.ex
 obtain ⟨kh,jP,hs⟩:=hE
 rw [po ho (kz ht hw) (by rw [au]; rfl),← pK (rest:=rest) (k:=k) (c:=c) (tmps:=tmps) (v:=v) ho,D5 au ht ha]
 have hr:(callFunc f vs.toArray).run P w = .ok (.value v) w':=by rw [run_callFunc_extern h1 h2 h3 h4 h5,kh]; rfl
 rw [AG (by simpa [aW] using fG) hr]
 congr 1
 rw [events_callFunc_extern h1 h2 h3 h4 h5]
 simp only [List.push_toArray,List.nil_append]
 rw [jP,seen_entry _ _ _ hs]
theorem aeU(ho:ops[i]? = some o)(hw:cJ ops st o=some true)(au:o.op = .call ⟨.value (.func f),as,ig⟩)(hf:gd P f e)(ht:cQ c.n st tmps)(ha:iD st as.toList=some vs)(kh:(e vs.toArray).run P w = .halt .blocked w) :
  stepG P main (aY (aW c tmps (.inRegion ops (i::rest)::k)) c.cs) w = .go { aY (aW c tmps (.inRegion ops (i::rest)::k)) c.cs with status:=.blocked } w #[]:=by
 obtain ⟨fn,h1,h2,h3,h4,h5⟩:=hf.ex
 rw [po ho (kz ht hw) (by rw [au]; rfl),D5 au ht ha]
 have hr:(callFunc f vs.toArray).run P w = .halt .blocked w:=by rw [run_callFunc_extern h1 h2 h3 h4 h5,kh]; rfl
 simp [stepG.apply,hr,aY,GStep.after,seen_none]
theorem aFB(ho:ops[i]? = some o)(au:o.op = .call ⟨.value (.func f),as,ig⟩)(hf:gd P f e):mayWake P (aY (aW c tmps (.inRegion ops (i::rest)::k)) c.cs)=true:=by
 obtain ⟨fn,h1,_,h3,_⟩:=hf.ex
 have h3':fn.body.isSome=false:=by cases hb:fn.body <;> simp_all
 simp [mayWake,aY,aW,ho,au,Frame.eval,h1,h3']
end
section
variable {P:Program} {f:FuncId} {w:World} {ad:Addr} {k:IntKind}
theorem qk{m:Mark}(hm:∀ g,m ≠ .extern g):mU P (do mark m; pure Extern.Race.none_) f w (.tuple #[]) w (said m) :=
 ⟨by simp [Extern.Race.none_],by simp [said],λ x hx=>by
  simp [said] at hx; subst hx; exact ⟨rfl,λ g h=>hm g (by cases h; rfl)⟩⟩
theorem AS{mk:Addr→Mark}(hm:∀ ad g,mk ad ≠ .extern g){vs:List Value}(hv:vs[0]? = some (.pointer (some ad))):mU P (Extern.Race.marked mk vs.toArray) f w (.tuple #[]) w (said (mk ad)) :=
 ⟨by simp [Extern.Race.marked,Extern.Race.at_,hv,Extern.Race.none_],by simp [Extern.Race.marked,Extern.Race.at_,hv,said],λ x hx=>by
  simp [said] at hx; subst hx; exact ⟨rfl,λ g h=>hm ad g (Loc.mark.inj h)⟩⟩
def atR(ad:Addr):Array Event:=#[⟨.cell ad,false,true⟩]
def GV(ad:Addr):Array Event:=#[⟨.cell ad,true,true⟩]
def La(ad:Addr):Array Event:=#[⟨.cell ad,false,true⟩,⟨.cell ad,true,true⟩]
theorem DZ{v n:Int}(hc:w.cell? ad=some (.int k v))(hz:w.frozen? ad=false):mU P (Extern.Atomic.casT (.int k) #[.pointer (some ad),.int k v,.int k n]) f w (.bool true) (w.setCell ad (.int k n)) (La ad) :=
 ⟨by rw [casT_eq]; exact run_cas_hit_entry hc hz,by rw [casT_eq,events_cas_hit_entry hc hz]; rfl,sync_rw ad⟩
theorem Hh{v old n:Int}(hc:w.cell? ad=some (.int k v))(hz:w.frozen? ad=false)(eH:¬ v=old):mU P (Extern.Atomic.casT (.int k) #[.pointer (some ad),.int k old,.int k n]) f w (.bool false) w (atR ad) :=
 ⟨by rw [casT_eq]; exact run_cas_miss_entry hc hz eH,by rw [casT_eq,events_cas_miss_entry hc hz eH]; rfl,sync_r ad⟩
theorem yY{v d:Int}(hc:w.cell? ad=some (.int k v))(hz:w.frozen? ad=false):mU P (Extern.Atomic.update (Op.intArith .add) k true #[.pointer (some ad),.int k d]) f w (.int k (k.wrap (v+d))) (w.setCell ad (.int k (k.wrap (v+d)))) (La ad) :=
 ⟨run_add_entry hc hz,by rw [events_add_entry hc hz]; rfl,sync_rw ad⟩
theorem LX{v:Int}(hc:w.cell? ad=some (.int k v)):mU P (Extern.Atomic.loadT (.int k) #[.pointer (some ad)]) f w (.int k v) w (atR ad):=by
 have e:Extern.Atomic.loadT (.int k) #[.pointer (some ad)]=(do Extern.Atomic.read (.int k) (← asAddr (.pointer (some ad)))):=rfl
 refine ⟨?_,?_,sync_r ad⟩
 ·rw [e]; simp [Extern.Atomic.read,asAddr,hc]
 ·rw [e]; simp [Extern.Atomic.read,asAddr,hc,events_load,atR]
theorem ale{v:Int}{u:Value}(hc:w.cell? ad=some u)(hz:w.frozen? ad=false):mU P (Extern.Atomic.storeT #[.pointer (some ad),.int k v]) f w (.tuple #[]) (w.setCell ad (.int k v)) (GV ad):=by
 have e:Extern.Atomic.storeT #[.pointer (some ad),.int k v]=(do store (← asAddr (.pointer (some ad))) (.int k v) .atomic; pure Extern.Atomic.none_):=rfl
 refine ⟨?_,?_,λ x hx=>by simp [GV] at hx; subst hx; exact ⟨rfl,λ g h=>by cases h⟩⟩
 ·rw [e]; simp [asAddr,hc,hz,run_store P w ad (.int k v) .atomic rfl,Extern.Atomic.none_]
 ·rw [e]; simp [asAddr,hc,hz,events_store P w _ ad (.int k v) .atomic rfl,GV]
theorem aa0{n:Int}{vs:List Value}(hv:vs[0]? = some (.pointer (some ad)))(hc:w.cell? ad=some (.int .u32 n))(Ek:n≠0)(hz:w.frozen? ad=false):mU P (Extern.Sync.semacquire vs.toArray) f w (.tuple #[]) (w.setCell ad (.int .u32 (n - 1))) (semEvents ad) :=
 ⟨by simp [Extern.Sync.semacquire,Extern.Sync.count,hv,hc,Ek,hz,Extern.Sync.none_,run_store P w ad (.int .u32 (n - 1)) .atomic rfl,Result.andThen],
  by simp [Extern.Sync.semacquire,Extern.Sync.count,hv,hc,Ek,hz,semEvents,events_load,events_store P w _ ad (.int .u32 (n - 1)) .atomic rfl,run_store P w ad (.int .u32 (n - 1)) .atomic rfl,Result.evThen],semEvents_sync ad⟩
theorem YV{vs:List Value}(hv:vs[0]? = some (.pointer (some ad)))(hc:w.cell? ad=some (.int .u32 0)):(Extern.Sync.semacquire vs.toArray).run P w = .halt .blocked w:=by
 simp [Extern.Sync.semacquire,Extern.Sync.count,hv,hc]
theorem Q9{n:Int}{vs:List Value}(hv:vs[0]? = some (.pointer (some ad)))(hc:w.cell? ad=some (.int .u32 n))(hz:w.frozen? ad=false):mU P (Extern.Sync.semrelease vs.toArray) f w (.tuple #[]) (w.setCell ad (.int .u32 (IntKind.u32.wrap (n+1)))) (semEvents ad) :=
 ⟨by simp [Extern.Sync.semrelease,Extern.Sync.count,hv,hc,hz,Extern.Sync.none_,Op.intArith,run_store P w ad (.int .u32 (IntKind.u32.wrap (n+1))) .atomic rfl,Result.andThen],
  by simp [Extern.Sync.semrelease,Extern.Sync.count,hv,hc,hz,semEvents,Op.intArith,events_load,events_store P w _ ad (.int .u32 (IntKind.u32.wrap (n+1))) .atomic rfl,run_store P w ad (.int .u32 (IntKind.u32.wrap (n+1))) .atomic rfl,Result.evThen],semEvents_sync ad⟩
theorem ald{n:Int}(h4:4≤n):mU P (Extern.Sync.canSpin #[.int k n]) f w (.bool false) w #[] :=
 ⟨by rw [canSpin_eq,if_pos h4]; rfl,by rw [canSpin_eq,if_pos h4]; rfl,by simp⟩
theorem aa1{n:Int}(h4:n < 4):mU P (Extern.Sync.canSpin #[.int k n]) f w (.bool w.spins) w.asked #[]:=by
 have h4':¬ (n ≥ 4):=by omega
 exact ⟨by rw [canSpin_eq,if_neg h4']; rfl,by rw [canSpin_eq,if_neg h4']; rfl,by simp⟩
end
section
variable {F:Fx} {s s':Sh} {w:World}
theorem fp.cm(h:fp F s w):w.cell? (am F)=some (.int .i32 s.mu.val):=by simp [World.cell?,am,h.m,pa]
theorem fp.LH(h:fp F s w):w.cell? ⟨F.bm,1,none⟩=some (.int .u32 (s.ms:Int)):=by simp [World.cell?,h.m,pa]
theorem fp.cg(h:fp F s w):w.cell? (aw F)=some (.int .u64 (yp s)):=by simp [World.cell?,aw,h.g,pq]
theorem fp.LF(h:fp F s w):w.cell? (qg F)=some (.int .u32 (s.ws:Int)):=by simp [World.cell?,qg,h.g,pq]
theorem fp.zm(h:fp F s w)(i:Nat):w.frozen? ⟨F.bm,i,none⟩=false:=by simp [World.frozen?,h.m,pa]
theorem fp.zg(h:fp F s w)(i:Nat):w.frozen? ⟨F.bw,i,none⟩=false:=by simp [World.frozen?,h.g,pq]
theorem cb.refl(h:fp F s w):cb F s w w:=⟨rfl,λ _ _ _=>rfl,h,id,rfl,rfl⟩
theorem cb.asked(h:fp F s w):cb F s w w.asked:=⟨rfl,λ _ _ _=>rfl,⟨h.m,h.g⟩,id,rfl,rfl⟩
theorem cb.later(h:fp F s w)(wU:F.B.os w.os→F.B.os w.later.os):cb F s w w.later:=⟨rfl,λ _ _ _=>rfl,⟨h.m,h.g⟩,wU,rfl,rfl⟩
theorem aeE{w:World}{a:Addr}{cs:Array Value}{t:TypeId}{v:Value}(h:w.heap[a.block]? = some (.cells cs t (0,0)))(ha:a.spot=none):w.setCell a v={ w with heap:=w.heap.setIfInBounds a.block (.cells (cs.setIfInBounds a.off v) t (0,0)) }:=by
 simp only [World.setCell]
 congr 1
 apply Array.ext_getElem?
 intro i
 rw [Array.getElem?_modify]
 by_cases hi:a.block=i
 ·subst hi
  rw [Array.getElem?_setIfInBounds_self_of_lt (lb h),h]
  simp [ha]
 ·simp [hi,Array.getElem?_setIfInBounds_ne hi]
theorem cb.bm{v:Value}{i:Nat}(h:fp F s w)(ho:pa F.tm s' = .cells (#[.int .i32 s.mu.val,.int .u32 (s.ms:Int)].setIfInBounds i v) F.tm (0,0))(hg:pq F.tw s'=pq F.tw s):cb F s' w (w.setCell ⟨F.bm,i,none⟩ v):=by
 rw [aeE (a:=⟨F.bm,i,none⟩) h.m rfl]
 refine ⟨by simp,λ b h1 h2=>Array.getElem?_setIfInBounds_ne (Ne.symm h1),⟨?_,?_⟩,id,rfl,rfl⟩
 ·rw [ho]; exact Array.getElem?_setIfInBounds_self_of_lt (lb h.m)
 ·rw [hg]
  show (w.heap.setIfInBounds _ _)[F.bw]? = _
  rw [Array.getElem?_setIfInBounds_ne F.ho.1]; exact h.g
theorem cb.bw{v:Value}{i:Nat}(h:fp F s w)(ho:pq F.tw s' = .cells (#[.int .u64 (yp s),.int .u32 (s.ws:Int)].setIfInBounds i v) F.tw (0,0))(hg:pa F.tm s'=pa F.tm s):cb F s' w (w.setCell ⟨F.bw,i,none⟩ v):=by
 rw [aeE (a:=⟨F.bw,i,none⟩) h.g rfl]
 refine ⟨by simp,λ b h1 h2=>Array.getElem?_setIfInBounds_ne (Ne.symm h2),⟨?_,?_⟩,id,rfl,rfl⟩
 ·rw [hg]
  show (w.heap.setIfInBounds _ _)[F.bm]? = _
  rw [Array.getElem?_setIfInBounds_ne (Ne.symm F.ho.1)]; exact h.m
 ·rw [ho]; exact Array.getElem?_setIfInBounds_self_of_lt (lb h.g)
theorem cb.mu{m:Wd}(h:fp F s w):cb F { s with mu:=m } w (w.setCell (am F) (.int .i32 m.val)):=cb.bm h rfl rfl
theorem cb.ms{n:Nat}(h:fp F s w):cb F { s with ms:=n } w (w.setCell ⟨F.bm,1,none⟩ (.int .u32 (n:Int))):=cb.bm h rfl rfl
theorem cb.wg{v u:Nat}(h:fp F s w):cb F { s with v:=v,w:=u } w (w.setCell (aw F) (.int .u64 (4294967296 * v+u))):=cb.bw h rfl rfl
theorem cb.ws{n:Nat}(h:fp F s w):cb F { s with ws:=n } w (w.setCell (qg F) (.int .u32 (n:Int))):=cb.bw h rfl rfl
theorem wj{a:Addr}(h:a.block=F.bm∨a.block=F.bw):pA F (atR a):=.inl λ e he=>by simp [atR] at he; subst he; exact ⟨a,false,rfl,h⟩
theorem aiK{a:Addr}(h:a.block=F.bm∨a.block=F.bw):pA F (GV a):=.inl λ e he=>by simp [GV] at he; subst he; exact ⟨a,true,rfl,h⟩
theorem pG{a:Addr}(h:a.block=F.bm∨a.block=F.bw):pA F (La a):=.inl λ e he=>by simp [La] at he; rcases he with rfl | rfl <;> exact ⟨a,_,rfl,h⟩
theorem pF:pA F #[]:=.inl λ e he=>by simp at he
theorem GU{a:Addr}(h:a.block=F.bm∨a.block=F.bw):pA F (semEvents a):=.inr ⟨a,h,rfl⟩
end
section
variable {F:Fx} {c:Ctx} {R:ax} {H:an} {st:St} {kk:List Item} {ops:Array Oper} {i:Nat} {rest:List Nat} {o:Oper} {f:FuncId} {as:Array Operand} {ig:Array TypeId} {e:Array Value→Sem Value} {vs:List Value} {n k j:Nat} {T:Lp} {T0:Mp}
theorem KW.ext(ho:ops[i]? = some o)(hw:cJ ops st o=some true)(fG:(c.kind == CallKind.early)=false)(au:o.op = .call ⟨.value (.func f),as,ig⟩)(hf:gd F.P f e)(ha:iD st as.toList=some vs)(hd:bV o.dst c.n)
  (h:pZ F.N T→∀ w s,Fits F.B R H w→fp F s w→vI F.N T s→okW F.N T s →
   ((∃ c,T = .s1 c)∧s.ms=0∧(e vs.toArray).run F.P w = .halt .blocked w) ∨
   ∃ v w' mq T' s',mU F.P (e vs.toArray) f w v w' mq∧dc T s T' s'∧ya F j T T'∧D1 F T mq∧cb F s' w w'∧∀ ba,cQ c.n (bW o.dst v st) ba→wi F (KW F n k) k j T T' R H (aY (aW c ba (.inRegion ops rest::kk)) c.cs)) :
  ∀ tmps,cQ c.n st tmps→KW F (n+1) k j T R H (aY (aW c tmps (.inRegion ops (i::rest)::kk)) c.cs):=by
 intro tmps ht ot
 refine ⟨rfl,rfl,λ _=>aFB ho au hf,λ w s wQ bg wU l6=>?_⟩
 rcases h ot w s wQ bg wU l6 with ⟨h1,h2,h3⟩ | ⟨v,w',mq,T',s',hE,h2,h3,h4,h5,h6⟩
 ·exact .inl ⟨h1,h2,aeU ho hw au hf ht ha h3⟩
 ·exact .inr ⟨_,w',mq,T',s',h2,h3,h4,J9 ho hw fG au hf ht ha hE,h5,h6 _ (ht.put v hd)⟩
theorem KM.ext(ho:ops[i]? = some o)(hw:cJ ops st o=some true)(fG:(c.kind == CallKind.early)=false)(au:o.op = .call ⟨.value (.func f),as,ig⟩)(hf:gd F.P f e)(ha:iD st as.toList=some vs)(hd:bV o.dst c.n)(h1:∀ r,T0 ≠ .go r)(h2:T0 ≠ .wq)
  (h:∀ w s,Fits F.B R H w→fp F s w→ov F.N T0 s→(T0 = .w3∧s.ws=0∧(e vs.toArray).run F.P w = .halt .blocked w) ∨
   ∃ v w' mq T' s',mU F.P (e vs.toArray) f w v w' mq∧gg T0 s T' s'∧AV F T0 mq∧cb F s' w w'∧∀ ba,cQ c.n (bW o.dst v st) ba→Own F.P F.B true (KM F n T') R H (aY (aW c ba (.inRegion ops rest::kk)) c.cs)) :
  ∀ tmps,cQ c.n st tmps→KM F (n+1) T0 R H (aY (aW c tmps (.inRegion ops (i::rest)::kk)) c.cs):=by
 intro tmps ht
 have key:∀ w s,Fits F.B R H w→fp F s w→ov F.N T0 s→(T0 = .w3∧s.ws=0∧stepG F.P true (aY (aW c tmps (.inRegion ops (i::rest)::kk)) c.cs) w = .go { aY (aW c tmps (.inRegion ops (i::rest)::kk)) c.cs with status:=.blocked } w #[]) ∨
   ∃ g' w' es T' s',gg T0 s T' s'∧AV F T0 es∧stepG F.P true (aY (aW c tmps (.inRegion ops (i::rest)::kk)) c.cs) w = .go g' w' es∧cb F s' w w'∧Own F.P F.B true (KM F n T') R H g':=λ w s wQ bg iQ=>by
  rcases h w s wQ bg iQ with ⟨h1,h2,h3⟩ | ⟨v,w',mq,T',s',hE,h3,h4,h5,h6⟩
  ·exact .inl ⟨h1,h2,aeU ho hw au hf ht ha h3⟩
  ·exact .inr ⟨_,w',mq,T',s',h3,h4,J9 ho hw fG au hf ht ha hE,h5,h6 _ (ht.put v hd)⟩
 refine ⟨rfl,rfl,?_⟩
 cases T0 <;> first | exact absurd rfl (h1 _) | exact absurd rfl h2 | exact key
theorem KM.acq(ho:ops[i]? = some o)(hw:cJ ops st o=some true)(fG:(c.kind == CallKind.early)=false)(au:o.op = .call ⟨.value (.func f),as,ig⟩)(hf:gd F.P f (Extern.Race.marked .acquire))(ha:iD st as.toList=some vs)(hv:vs[0]? = some (.pointer (some (aw F))))(hd:bV o.dst c.n)
  (h:∀ js,(∀ k,k < F.N→js k=F.J)→∀ ba,cQ c.n (bW o.dst (.tuple #[]) st) ba→F.mj R ((F.bo,F.cont js)::H) (aY (aW c ba (.inRegion ops rest::kk)) c.cs)) :
  ∀ tmps,cQ c.n st tmps→KM F (n+1) .wq R H (aY (aW c tmps (.inRegion ops (i::rest)::kk)) c.cs):=λ tmps ht =>
 ⟨rfl,rfl,λ w s _ bg _=>⟨_,w,J9 ho hw fG au hf ht ha (AS (λ _ _=>by simp) hv),cb.refl bg,λ js gU=>h js gU _ (ht.put _ hd)⟩⟩
end
end Go.Lg
namespace Go.Lg
open Go.Conc Go.ConcN
def sN(P:Program)(c:Ctx)(o:Oper)(st:St)(v:Value):Prop:=mF o.op=false∧bV o.dst c.n∧∀ ρ,Knows st ρ→ai P (execOp ρ o) (.value v)
section
variable {P:Program} {B:Base} {main:Bool} {ae:Jd P B main} {c:Ctx} {R:ax} {H:an} {st st':St} {k:List Item} {ops:Array Oper} {i:Nat} {rest:List Nat} {o:Oper} {v:Value} {x y z:Operand}
theorem U.val(ho:ops[i]? = some o)(hw:cJ ops st o=some true)(hk:(c.kind == CallKind.early)=false)(hv:sN P c o st v)(hs:aF (bW o.dst v st) st')(h:U ae c R H st' (.inRegion ops rest::k)):U ae c R H st (.inRegion ops (i::rest)::k) :=
 U.ix ho hw hk (Ox.val hv.1 hv.2.1 hv.2.2 hs h)
theorem OV.move(au:o.op = .move x)(hd:bV o.dst c.n)(hx:bh st x=some v):sN P c o st v:=⟨by rw [au]; rfl,hd,λ ρ bf=>by simp only [execOp,au,bf x v hx]; exact ai.pure _⟩
theorem OV.assign(au:o.op = .assign x)(hd:bV o.dst c.n)(hx:bh st x=some v):sN P c o st v:=⟨by rw [au]; rfl,hd,λ ρ bf=>by simp only [execOp,au,bf x v hx]; exact ai.pure _⟩
theorem OV.aCu(au:o.op = .pick x y z)(hd:bV o.dst c.n)(hx:bh st x=some (.bool true))(hy:bh st y=some v):sN P c o st v:=⟨by rw [au]; rfl,hd,λ ρ bf=>by
 simp only [execOp,au,bf x _ hx,bf y v hy,asBool]; exact ai.bind (ai.pure true) (ai.pure _)⟩
theorem OV.aCt(au:o.op = .pick x y z)(hd:bV o.dst c.n)(hx:bh st x=some (.bool false))(hz:bh st z=some v):sN P c o st v:=⟨by rw [au]; rfl,hd,λ ρ bf=>by
 simp only [execOp,au,bf x _ hx,bf z v hz,asBool]; exact ai.bind (ai.pure false) (ai.pure _)⟩
theorem OV.nilCheck{a:Addr}(au:o.op = .nilCheck x)(hd:bV o.dst c.n)(hx:bh st x=some (.pointer (some a))):sN P c o st (.pointer (some a)):=⟨by rw [au]; rfl,hd,λ ρ bf=>by
 simp only [execOp,au,bf x _ hx]; exact ai.bind (ai.pure _) (ai.pure _)⟩
theorem OV.fieldAddr{s f off b n:Nat}(au:o.op = .fieldAddr s x f)(hd:bV o.dst c.n)(hx:bh st x=some (.pointer (some ⟨b,n,none⟩)))(hf:gf P s f off):sN P c o st (.pointer (some ⟨b,n+off,none⟩)):=⟨by rw [au]; rfl,hd,λ ρ bf=>by
 simp only [execOp,au,bf x _ hx]; exact ai.bind (hf b n) (ai.pure _)⟩
theorem OV.bin{bo:BinOp}{t u:TypeId}{ka kb:IntKind}{a b:Int}(au:o.op = .binOp bo t x y u)(hd:bV o.dst c.n)(hx:bh st x=some (.int ka a))(hy:bh st y=some (.int kb b))(hv:ai P (binOp bo t (.int ka a) (.int kb b)) v):sN P c o st v:=⟨by rw [au]; rfl,hd,λ ρ bf=>by
 simp only [execOp,au,bf x _ hx,bf y _ hy]; exact ai.bind (ai.bind (F7 _ _ _ _ _ _ _ _) hv) (ai.pure _)⟩
theorem OV.not{t:TypeId}{a:Bool}(au:o.op = .unOp .not t x)(hd:bV o.dst c.n)(hx:bh st x=some (.bool a)):sN P c o st (.bool (!a)):=⟨by rw [au]; rfl,hd,λ ρ bf=>by
 simp only [execOp,au,bf x _ hx]; exact ai.bind (ai.pure _) (ai.pure _)⟩
end
structure QJ (P:Program) where
 Q:Goroutine→Prop
 step:∀ {g g':Goroutine},g.status = .running→(∀ w,stepG P false g w = .go g' w #[])→Q g'→Q g
def toJ(P:Program)(K:Goroutine→Prop):QJ P:=⟨λ g=>∃ q,AA P K q g,λ hs h ⟨q,hq⟩=>⟨q+1,.inr ⟨hs,_,h,hq⟩⟩⟩
def xM(P:Program)(d:Nat):QJ P:=⟨λ g=>∃ q,QuitsD P q d g,λ hs h ⟨q,hq⟩=>⟨q+1,QuitsD.ctl hs h hq⟩⟩
section
variable {P:Program} (J:QJ P)
def aE(c:Ctx)(st:St)(todo:List Item):Prop:=∀ tmps,cQ c.n st tmps→J.Q (aY (aW c tmps todo) c.cs)
variable {J} {c:Ctx} {st st':St} {k:List Item} {ops:Array Oper} {i:Nat} {rest:List Nat} {o:Oper} {v:Value}
theorem aE.sub{todo:List Item}(hs:aF st st')(h:aE J c st' todo):aE J c st todo:=λ tmps ht=>h tmps (ht.sub hs)
theorem aE.skip(h:aE J c st k):aE J c st (.code .skip::k):=λ tmps ht=>J.step rfl (λ w=>by simp [stepG,stepG.exec,aY,aW]) (h tmps ht)
theorem aE.inBlock{id:Nat}(h:aE J c st k):aE J c st (.inBlock id::k):=λ tmps ht=>J.step rfl (λ w=>by simp [stepG,stepG.exec,aY,aW]) (h tmps ht)
theorem aE.seq{x y:Code}(h:aE J c st (.code x :: .code y::k)):aE J c st (.code (.seq x y)::k):=λ tmps ht=>J.step rfl (λ w=>by simp [stepG,stepG.exec,aY,aW]) (h tmps ht)
theorem aE.block{id:Nat}{x:Code}(h:aE J c st (.code x :: .inBlock id::k)):aE J c st (.code (.block id x)::k):=λ tmps ht=>J.step rfl (λ w=>by simp [stepG,stepG.exec,aY,aW]) (h tmps ht)
theorem aE.enterLoop{x:Code}(h:aE J c st (.code x :: .inLoop x::k)):aE J c st (.code (.loop x)::k):=λ tmps ht=>J.step rfl (λ w=>by simp [stepG,stepG.exec,aY,aW]) (h tmps ht)
theorem aE.inLoop{x:Code}(h:aE J c st (.code x :: .inLoop x::k)):aE J c st (.inLoop x::k):=λ tmps ht=>J.step rfl (λ w=>by simp [stepG,stepG.exec,aY,aW]) (h tmps ht)
theorem aE.exit{id:Nat}{k':List Item}(he:exitTo id k=some k')(h:aE J c st k'):aE J c st (.code (.exit id)::k):=λ tmps ht=>J.step rfl (λ w=>by simp [stepG,stepG.exec,aY,aW,he]) (h tmps ht)
theorem aE.region{id n:Nat}{is:List Nat}(hn:ops.size=n)(l5:List.range n=is)(h:aE J c st (.inRegion ops is::k)):aE J c st (.code (.region id ops false)::k):=by
 subst hn; subst l5
 exact λ tmps ht=>J.step rfl (λ w=>by simp [stepG,stepG.exec,aY,aW]) (h tmps ht)
theorem aE.aV(h:aE J c st k):aE J c st (.inRegion ops []::k):=λ tmps ht=>J.step rfl (λ w=>by simp [stepG,stepG.exec,aY,aW]) (h tmps ht)
theorem aE.fu{x:Operand}{th el:Code}(hx:bh st x=some (.bool true))(h:aE J c st (.code th::k)):aE J c st (.code (.cond x th el)::k):=λ tmps ht=>by
 have he:=ht.knows c (.code (.cond x th el)::k) x _ hx
 exact J.step rfl (λ w=>by simp only [aW] at he; simp [stepG,stepG.exec,aY,aW,he]) (h tmps ht)
theorem aE.eD{x:Operand}{th el:Code}(hx:bh st x=some (.bool false))(h:aE J c st (.code el::k)):aE J c st (.code (.cond x th el)::k):=λ tmps ht=>by
 have he:=ht.knows c (.code (.cond x th el)::k) x _ hx
 exact J.step rfl (λ w=>by simp only [aW] at he; simp [stepG,stepG.exec,aY,aW,he]) (h tmps ht)
theorem aE.unwanted(ho:ops[i]? = some o)(hw:cJ ops st o=some false)(lE:bV o.dst c.n)(hs:aF (bW o.dst undef st) st')(h:aE J c st' (.inRegion ops rest::k)):aE J c st (.inRegion ops (i::rest)::k) :=
 λ _ ht=>J.step rfl (λ _=>Xl ho (kz ht hw)) (h _ ((ht.put undef lE).sub hs))
theorem aE.val(ho:ops[i]? = some o)(hw:cJ ops st o=some true)(hk:(c.kind == CallKind.early)=false)(hv:sN P c o st v)(hs:aF (bW o.dst v st) st')(h:aE J c st' (.inRegion ops rest::k)):aE J c st (.inRegion ops (i::rest)::k):=λ tmps ht=>by
 refine J.step rfl (λ w=>?_) (h _ ((ht.put v hv.2.1).sub hs))
 have hr:=hv.2.2 _ (ht.knows c (.inRegion ops (i::rest)::k)) w
 rw [po ho (kz ht hw) hv.1,← pK (rest:=rest) (k:=k) (c:=c) (tmps:=tmps) (v:=v) ho,AG (by simpa [aW] using hk) hr.1,hr.2]
 rfl
theorem aE.ext{f:FuncId}{as:Array Operand}{ig:Array TypeId}{e:Array Value→Sem Value}{vs:List Value}(ho:ops[i]? = some o)(hw:cJ ops st o=some true)(hk:(c.kind == CallKind.early)=false)(au:o.op = .call ⟨.value (.func f),as,ig⟩)(hd:bV o.dst c.n)(hf:gd P f e)(ha:iD st as.toList=some vs)
  (hE:∀ w,mU P (e vs.toArray) f w v w #[]) (hs:aF (bW o.dst v st) st') (h:aE J c st' (.inRegion ops rest::k)):aE J c st (.inRegion ops (i::rest)::k):=λ _ ht =>
 J.step rfl (λ w=>J9 ho hw hk au hf ht ha (hE w)) (h _ ((ht.put v hd).sub hs))
theorem aE.enter{f:FuncId}{fn:Func}{body:Code}{as:Array Operand}{ig:Array TypeId}{vs:List Value}{n:Nat}(ho:ops[i]? = some o)(hw:cJ ops st o=some true)(hk:(c.kind == CallKind.early)=false)(au:o.op = .call ⟨.value (.func f),as,ig⟩)(ha:iD st as.toList=some vs)
  (hf:P.funcs[f]? = some fn) (H3:(fn.name == "runtime.NumGoroutine")=false) (hb:fn.body=some body) (qx:fn.ntmps=n) (hn:Nat.ble vs.length n=true)
  (h:∀ tmps,cQ c.n st tmps→aE J ⟨f,.normal,none,n,[],aW c tmps (.inRegion ops (i::rest)::k)::c.cs⟩ (uH 0 vs) [.code body]):aE J c st (.inRegion ops (i::rest)::k):=λ tmps ht=>by
 have hv:ai P (execOp (aW c tmps (.inRegion ops (i::rest)::k)).eval o) (.enter f vs.toArray):=by
  rw [D5 au ht ha]
  exact C2 hf H3 (by rw [hb]; rfl)
 subst qx
 have wT:vs.length≤fn.ntmps:=by simpa [Nat.ble_eq] using hn
 have e:Frame.enter P f vs.toArray .normal=aW ⟨f,.normal,none,fn.ntmps,[],aW c tmps (.inRegion ops (i::rest)::k)::c.cs⟩ (vs.toArray++Array.replicate (fn.ntmps - vs.length) undef) [.code body]:=by
  simp [Frame.enter,aW,hf,hb]
 refine J.step rfl (λ w=>?_) (h tmps ht (vs.toArray++Array.replicate (fn.ntmps - vs.length) undef) ⟨by simp; omega,λ t v bd=>?_⟩)
 ·rw [po ho (kz ht hw) (by rw [au]; rfl),GQ rfl (by simpa [aW] using hk) (hv w).1,(hv w).2,e]
  rfl
 ·obtain ⟨_,h2⟩:=GR vs 0 t v bd
  have bE:t < vs.length:=by
   have:=(List.getElem?_eq_some_iff.1 h2).1
   simpa using this
  rw [Array.getElem?_append_left (by simpa using bE)]
  simpa using h2
def iZ(c:Ctx)(tmps:Array Value)(todo:List Item):Frame:={ aW c tmps todo with mode:=.returning }
theorem QJ.back{fr:Frame}{cs:List Frame}{f:FuncId}{n:Nat}{fn:Func}{vs:List Value}{tmps:Array Value}{todo:List Item}(hf:P.funcs[f]? = some fn)(ht:cQ n st tmps)(hr:xP st fn.results.toList=some vs)(hj:J.Q (aY (fr.finish (gZ vs)) cs)) :
  J.Q (aY (iZ ⟨f,.normal,none,n,[],fr::cs⟩ tmps todo) (fr::cs)) :=
 J.step rfl (λ w=>by
  have hv:=XE (P:=P) ht hr
  simp [iZ,stepG,unwind,doReturn,aY,aW,hf,(hv w).1,(hv w).2,GStep.after,seen_none]) hj
theorem QJ.Zv{fr:Frame}{cs:List Frame}{f:FuncId}{n:Nat}{fn:Func}{vs:List Value}{tmps:Array Value}{todo:List Item}(hf:P.funcs[f]? = some fn)(ht:cQ n st tmps)(hr:xP st fn.results.toList=some vs)(hm:fr.mode = .returning∨fr.mode = .panicking [goexitEntry])(hj:J.Q (aY fr cs)) :
  J.Q (aY (iZ ⟨f,.deferred,none,n,[],fr::cs⟩ tmps todo) (fr::cs)) :=
 J.step rfl (λ w=>by
  have hv:=XE (P:=P) ht hr
  rcases hm with hm | hm <;> simp [iZ,stepG,unwind,doReturn,aY,aW,hf,(hv w).1,(hv w).2,GStep.after,seen_none,hm,goexitEntry]) hj
theorem aE.ret(kg:c.ro=none)(h:∀ tmps,cQ c.n st tmps→J.Q (aY (iZ c tmps (.code .ret::k)) c.cs)):aE J c st (.code .ret::k):=λ tmps ht =>
 J.step rfl (λ w=>by simp [stepG,stepG.exec,aY,aW,iZ,kg]) (h tmps ht)
theorem aE.QU(kg:c.ro=none)(h:∀ tmps,cQ c.n st tmps→J.Q (aY (iZ c tmps []) c.cs)):aE J c st []:=λ tmps ht =>
 J.step rfl (λ w=>by simp [stepG,stepG.exec,aY,aW,iZ,kg]) (h tmps ht)
theorem aE.resume{c':Ctx}{tmps:Array Value}(ho:ops[i]? = some o)(ht:cQ c.n st tmps)(hd:bV o.dst c.n)(hs:aF (bW o.dst v st) st')(h:aE J c st' (.inRegion ops rest::k))(_:c'.cs=aW c tmps (.inRegion ops (i::rest)::k)::c.cs) :
  J.Q (aY ((aW c tmps (.inRegion ops (i::rest)::k)).finish v) c.cs):=by
 rw [pK ho]
 exact h _ ((ht.put v hd).sub hs)
end
section
variable {P:Program} {B:Base} {main:Bool} {ae:Jd P B main} {c:Ctx} {R:ax} {H:an} {st st':St} {k:List Item} {ops:Array Oper} {i:Nat} {rest:List Nat} {o:Oper} {f:FuncId} {as:Array Operand} {ig:Array TypeId} {vs:List Value}
theorem step_defer{tmps:Array Value}{w:World}(ho:ops[i]? = some o)(hw:cJ ops st o=some true)(fG:(c.kind == CallKind.early)=false)(kg:c.ro=none)(au:o.op = .defer ⟨.value (.func f),as,ig⟩)(ht:cQ c.n st tmps)(ha:iD st as.toList=some vs) :
  stepG P main (aY (aW c tmps (.inRegion ops (i::rest)::k)) c.cs) w = .go (aY (aW { c with defers:=dcall f vs.toArray::c.defers } (fw o.dst undef tmps) (.inRegion ops rest::k)) c.cs) w #[]:=by
 have hk:=ht.knows c (.inRegion ops (i::rest)::k)
 have ef:(aW c tmps (.inRegion ops (i::rest)::k)).eval (.func f) = .func (.func f) #[] #[]:=rfl
 have e2:as.map (aW c tmps (.inRegion ops (i::rest)::k)).eval=vs.toArray:=by apply Array.ext'; simpa using AH hk _ _ ha
 have hr:(execOp (aW c tmps (.inRegion ops (i::rest)::k)).eval o).run P w = .ok (.defer (dcall f vs.toArray)) w:=by
  unfold execOp
  simp [au,resolve,Deferred.ofValue,ef,e2,dcall]
 have he:(execOp (aW c tmps (.inRegion ops (i::rest)::k)).eval o).events P w #[]=#[]:=by
  unfold execOp
  simp [au,resolve,Deferred.ofValue,ef]
 have US:=kz ht hw
 obtain ⟨D6,kind,ro,n,defers,cs⟩:=c
 simp only at kg fG
 subst kg
 have e0:stepG P main (aY (aW ⟨D6,kind,none,n,defers,cs⟩ tmps (.inRegion ops (i::rest)::k)) cs) w=stepG.apply P true (aW ⟨D6,kind,none,n,defers,cs⟩ tmps (.inRegion ops (i::rest)::k)) cs none (execOp (aW ⟨D6,kind,none,n,defers,cs⟩ tmps (.inRegion ops (i::rest)::k)).eval o) w:=by
  simp [aY,stepG,stepG.exec,stepG.oper,Frame.oper?,aW,ho,US]
 refine e0.trans ?_
 unfold stepG.apply
 rw [show (execOp (aW ⟨D6,kind,none,n,defers,cs⟩ tmps (.inRegion ops (i::rest)::k)).eval o).runT P w #[]=(.ok (.defer (dcall f vs.toArray)) w,#[]) by rw [Sem.runT_eq,hr,he]]
 cases om:o.dst <;> simp [GStep.after,seen_none,aY,aW,Frame.finish,ho,om,fw,fG]
end
end Go.Lg
namespace Go.Lg
open Go.Conc Go.ConcN
section
variable {F:Fx} {c:Ctx} {R:ax} {H:an} {st:St} {kk:List Item} {ops:Array Oper} {i:Nat} {rest:List Nat} {o:Oper} {n k j:Nat} {T:Lp} {T0:Mp}
theorem aD2{main:Bool}{t:TypeId}{x:Operand}{tmps:Array Value}{w:World}{s:Sh}(ho:ops[i]? = some o)(hw:cJ ops st o=some true)(fG:(c.kind == CallKind.early)=false)(au:o.op = .load t x)(hx:bh st x=some (.pointer (some (am F))))(ht:cQ c.n st tmps)(SS:gS F.P t)(hq:(F.P.funcs[c.fn]?).any (·.norace)=true)(bg:fp F s w) :
  stepG F.P main (aY (aW c tmps (.inRegion ops (i::rest)::kk)) c.cs) w = .go (aY (aW c (fw o.dst (.int .i32 s.mu.val) tmps) (.inRegion ops rest::kk)) c.cs) w #[]:=by
 have hk:=ht.knows c (.inRegion ops (i::rest)::kk)
 have hR:(execOp (aW c tmps (.inRegion ops (i::rest)::kk)).eval o).run F.P w = .ok (.value (.int .i32 s.mu.val)) w∧(execOp (aW c tmps (.inRegion ops (i::rest)::kk)).eval o).events F.P w #[]=#[⟨.cell (am F),false,false⟩]:=by
  simp only [execOp,au,hk x _ hx]
  have h1:=SS.1 w
  have hc:=bg.cm
  constructor
  ·simp [Instr.loadAt,Instr.sureAddr,loadVar,h1.1,hc]
  ·simp [Instr.loadAt,Instr.sureAddr,loadVar,h1.1,h1.2,hc,events_load]
 rw [po ho (kz ht hw) (by rw [au]; rfl),← pK (rest:=rest) (k:=kk) (c:=c) (tmps:=tmps) (v:=.int .i32 s.mu.val) ho,AG (by simpa [aW] using fG) hR.1,hR.2]
 congr 1
 rw [seen_def]
 simp [seenStep,aW,hq]
theorem KW.look{t:TypeId}{x:Operand}(ho:ops[i]? = some o)(hw:cJ ops st o=some true)(fG:(c.kind == CallKind.early)=false)(au:o.op = .load t x)(hx:bh st x=some (.pointer (some (am F))))(SS:gS F.P t)(hq:(F.P.funcs[c.fn]?).any (·.norace)=true)(hd:bV o.dst c.n)(hu:T ≠ .us∧T ≠ .d4)
  (jP:∀ es,pA F es→D1 F T es)
  (h:pZ F.N T→∀ s,vI F.N T s→∃ T',dc T s T' s∧ya F j T T'∧∀ ba,cQ c.n (bW o.dst (.int .i32 s.mu.val) st) ba→wi F (KW F n k) k j T T' R H (aY (aW c ba (.inRegion ops rest::kk)) c.cs)) :
  ∀ tmps,cQ c.n st tmps→KW F (n+1) k j T R H (aY (aW c tmps (.inRegion ops (i::rest)::kk)) c.cs):=by
 intro tmps ht ot
 refine ⟨rfl,rfl,λ e=>by rcases e with e | e; exact absurd e hu.1; exact absurd e hu.2,λ w s wQ bg wU l6=>.inr ?_⟩
 obtain ⟨T',h2,h3,h6⟩:=h ot s wU
 exact ⟨_,w,#[],T',s,h2,h3,jP _ pF,aD2 ho hw fG au hx ht SS hq bg,cb.refl bg,h6 _ (ht.put _ hd)⟩
def DC(P:Program)(src dst:TypeId):Prop:=∃ t,P.underlying src=some (.pointer t)∧P.underlying dst=some .unsafePointer∧(P.info? t).map (λ i=>decide (i.size=0))=some false
theorem aeT{src dst:TypeId}{x:Operand}{a:Addr}{v:Value}{w:World}{main:Bool}{tmps:Array Value}(ho:ops[i]? = some o)(hw:cJ ops st o=some true)(fG:(c.kind == CallKind.early)=false)(au:o.op = .convert src dst x)(hx:bh st x=some (.pointer (some a)))(ht:cQ c.n st tmps)(hu:DC F.P src dst)(hc:w.cell? a=some v) :
  stepG F.P main (aY (aW c tmps (.inRegion ops (i::rest)::kk)) c.cs) w = .go (aY (aW c (fw o.dst (.pointer (some a)) tmps) (.inRegion ops rest::kk)) c.cs) w #[]:=by
 obtain ⟨t,u1,u2,u3⟩:=hu
 have hk:=ht.knows c (.inRegion ops (i::rest)::kk)
 have h1:=run_convert_to_unsafe u1 u2 u3 hc
 have h2:=events_convert_to_unsafe u1 u2 u3 hc #[]
 have hR:(execOp (aW c tmps (.inRegion ops (i::rest)::kk)).eval o).run F.P w = .ok (.value (.pointer (some a))) w∧(execOp (aW c tmps (.inRegion ops (i::rest)::kk)).eval o).events F.P w #[]=#[]:=by
  simp only [execOp,au,hk x _ hx]
  constructor
  ·simp [h1]
  ·simp [h2]
 rw [po ho (kz ht hw) (by rw [au]; rfl),← pK (rest:=rest) (k:=kk) (c:=c) (tmps:=tmps) (v:=.pointer (some a)) ho,AG (by simpa [aW] using fG) hR.1,hR.2,seen_none]
theorem KW.conv{src dst:TypeId}{x:Operand}{a:Addr}(ho:ops[i]? = some o)(hw:cJ ops st o=some true)(fG:(c.kind == CallKind.early)=false)(au:o.op = .convert src dst x)(hx:bh st x=some (.pointer (some a)))(hu:DC F.P src dst)(hd:bV o.dst c.n)
  (hc:∀ s w,fp F s w→∃ v,w.cell? a=some v) {T':Lp} (hT:T ≠ .us∧T ≠ .d4) (jP:D1 F T #[]) (dk:∀ s,dc T s T' s) (zl:ya F j T T')
  (h:∀ ba,cQ c.n (bW o.dst (.pointer (some a)) st) ba→wi F (KW F n k) k j T T' R H (aY (aW c ba (.inRegion ops rest::kk)) c.cs)) :
  ∀ tmps,cQ c.n st tmps→KW F (n+1) k j T R H (aY (aW c tmps (.inRegion ops (i::rest)::kk)) c.cs):=by
 intro tmps ht ot
 refine ⟨rfl,rfl,λ e=>by rcases e with e | e; exact absurd e hT.1; exact absurd e hT.2,λ w s wQ bg wU l6=>.inr ?_⟩
 obtain ⟨v,hv⟩:=hc s w bg
 exact ⟨_,w,#[],T',s,dk s,zl,jP,aeT ho hw fG au hx ht hu hv,cb.refl bg,h _ (ht.put _ hd)⟩
theorem KM.conv{src dst:TypeId}{x:Operand}{a:Addr}{T0 T':Mp}(ho:ops[i]? = some o)(hw:cJ ops st o=some true)(fG:(c.kind == CallKind.early)=false)(au:o.op = .convert src dst x)(hx:bh st x=some (.pointer (some a)))(hu:DC F.P src dst)(hd:bV o.dst c.n)
  (hc:∀ s w,fp F s w→∃ v,w.cell? a=some v) (h1:∀ r,T0 ≠ .go r) (h2:T0 ≠ .wq) (jP:AV F T0 #[]) (dk:∀ s,gg T0 s T' s)
  (h:∀ ba,cQ c.n (bW o.dst (.pointer (some a)) st) ba→Own F.P F.B true (KM F n T') R H (aY (aW c ba (.inRegion ops rest::kk)) c.cs)) :
  ∀ tmps,cQ c.n st tmps→KM F (n+1) T0 R H (aY (aW c tmps (.inRegion ops (i::rest)::kk)) c.cs):=by
 intro tmps ht
 have key:∀ w s,Fits F.B R H w→fp F s w→ov F.N T0 s→(T0 = .w3∧s.ws=0∧stepG F.P true (aY (aW c tmps (.inRegion ops (i::rest)::kk)) c.cs) w = .go { aY (aW c tmps (.inRegion ops (i::rest)::kk)) c.cs with status:=.blocked } w #[]) ∨
   ∃ g' w' es T' s',gg T0 s T' s'∧AV F T0 es∧stepG F.P true (aY (aW c tmps (.inRegion ops (i::rest)::kk)) c.cs) w = .go g' w' es∧cb F s' w w'∧Own F.P F.B true (KM F n T') R H g':=λ w s wQ bg iQ=>by
  obtain ⟨v,hv⟩:=hc s w bg
  exact .inr ⟨_,w,#[],T',s,dk s,jP,aeT ho hw fG au hx ht hu hv,cb.refl bg,h _ (ht.put _ hd)⟩
 refine ⟨rfl,rfl,?_⟩
 cases T0 <;> first | exact absurd rfl (h1 _) | exact absurd rfl h2 | exact key
theorem P7:∀ s w,fp F s w→∃ v,w.cell? (am F)=some v:=λ _ _ h=>⟨_,h.cm⟩
theorem P8:∀ s w,fp F s w→∃ v,w.cell? (aw F)=some v:=λ _ _ h=>⟨_,h.cg⟩
theorem Ze:∀ s w,fp F s w→∃ v,w.cell? (qg F)=some v:=λ _ _ h=>⟨_,h.LF⟩
section
variable {P:Program} {B:Base} {main:Bool} {ae:Jd P B main} {tmps:Array Value} {todo:List Item} {f:FuncId} {ds:List Deferred} {args:Array Value}
theorem U.Xt(kg:c.ro=none)(h:∀ tmps,cQ c.n st tmps→ae.J R H (aY (iZ c tmps (.code .ret::kk)) c.cs)):U ae c R H st (.code .ret::kk):=λ tmps ht =>
 Jd.ctl rfl (λ w=>by simp [stepG,stepG.exec,aY,aW,iZ,kg]) (h tmps ht)
theorem U.toEnd(kg:c.ro=none)(h:∀ tmps,cQ c.n st tmps→ae.J R H (aY (iZ c tmps []) c.cs)):U ae c R H st []:=λ tmps ht =>
 Jd.ctl rfl (λ w=>by simp [stepG,stepG.exec,aY,aW,iZ,kg]) (h tmps ht)
theorem Jd.unwind{fn:Func}(hd:c.defers=dcall f args::ds)(hf:P.funcs[f]? = some fn)(H3:(fn.name == "runtime.NumGoroutine")=false)(hb:fn.body.isNone=false)
  (h:ae.J R H (aY (Frame.enter P f args .deferred) (iZ { c with defers:=ds } tmps todo::c.cs))):ae.J R H (aY (iZ c tmps todo) c.cs):=by
 have hv:=C2 (P:=P) (args:=args) hf H3 hb
 refine Jd.ctl rfl (λ w=>?_) h
 simp [iZ,aY,aW,stepG,Go.unwind,callDeferred,hd,dcall,invoke,(hv w).1,(hv w).2,GStep.after,seen_none]
theorem Jd.back{fr:Frame}{cs:List Frame}{g:FuncId}{m:Nat}{fn:Func}{vs:List Value}(hf:P.funcs[g]? = some fn)(ht:cQ m st tmps)(hr:xP st fn.results.toList=some vs)(hj:ae.J R H (aY (fr.finish (gZ vs)) cs)):ae.J R H (aY (iZ ⟨g,.normal,none,m,[],fr::cs⟩ tmps todo) (fr::cs)):=by
 have hv:=XE (P:=P) ht hr
 refine Jd.ctl rfl (λ w=>?_) hj
 simp [iZ,stepG,Go.unwind,doReturn,aY,aW,hf,(hv w).1,(hv w).2,GStep.after,seen_none]
theorem U.defer{as:Array Operand}{ig:Array TypeId}{vs:List Value}{st':St}(ho:ops[i]? = some o)(hw:cJ ops st o=some true)(fG:(c.kind == CallKind.early)=false)(kg:c.ro=none)(au:o.op = .defer ⟨.value (.func f),as,ig⟩)(ha:iD st as.toList=some vs)(hd:bV o.dst c.n)(hs:aF (bW o.dst undef st) st')
  (h:U ae { c with defers:=dcall f vs.toArray::c.defers } R H st' (.inRegion ops rest::kk)):U ae c R H st (.inRegion ops (i::rest)::kk):=λ _ ht =>
 Jd.ctl rfl (λ _=>step_defer ho hw fG kg au ht ha) (h _ ((ht.put undef hd).sub hs))
theorem aE.defer{J:QJ P}{as:Array Operand}{ig:Array TypeId}{vs:List Value}{st':St}(ho:ops[i]? = some o)(hw:cJ ops st o=some true)(fG:(c.kind == CallKind.early)=false)(kg:c.ro=none)(au:o.op = .defer ⟨.value (.func f),as,ig⟩)(ha:iD st as.toList=some vs)(hd:bV o.dst c.n)(hs:aF (bW o.dst undef st) st')
  (h:aE J { c with defers:=dcall f vs.toArray::c.defers } st' (.inRegion ops rest::kk)):aE J c st (.inRegion ops (i::rest)::kk):=λ _ ht =>
 J.step rfl (λ _=>step_defer ho hw fG kg au ht ha) (h _ ((ht.put undef hd).sub hs))
theorem aeV{e:Array Value→Sem Value}{w w':World}{v:Value}{mq:Array Event}(hd:c.defers=dcall f args::ds)(hf:gd P f e)(hE:mU P (e args) f w v w' mq) :
  stepG P main (aY (iZ c tmps todo) c.cs) w = .go (aY (iZ { c with defers:=ds } tmps todo) c.cs) w' mq:=by
 obtain ⟨fn,h1,h2,h3,h4,h5⟩:=hf.ex
 obtain ⟨kh,jP,hs⟩:=hE
 have hr:(callFunc f args).run P w = .ok (.value v) w':=by rw [run_callFunc_extern h1 h2 h3 h4 h5,kh]; rfl
 have hl:seen P c.fn ((callFunc f args).events P w #[])=mq:=by
  rw [events_callFunc_extern h1 h2 h3 h4 h5]
  simp only [List.push_toArray,List.nil_append]
  rw [jP,seen_entry _ _ _ hs]
 simp [iZ,aY,aW,stepG,Go.unwind,callDeferred,hd,dcall,invoke,hr,GStep.after] at hl ⊢
 exact hl
theorem aCF{d:Nat}(hd:c.defers=dcall f args::ds)(hf:gd P f (λ _=>do mark .enable; pure Extern.Race.none_))(h:∃ q,QuitsD P q (d - 1) (aY (iZ { c with defers:=ds } tmps todo) c.cs)):∃ q,QuitsD P q d (aY (iZ c tmps todo) c.cs):=by
 obtain ⟨q,hq⟩:=h
 exact ⟨q+1,QuitsD.said ⟨.mark .enable,false,true⟩ rfl rfl (λ w=>aeV hd hf (qk (by simp))) hq⟩
end
theorem KM.unwind{f:FuncId}{args:Array Value}{ds:List Deferred}{tmps:Array Value}{todo:List Item}{r:Nat}(hd:c.defers=dcall f args::ds)(hf:gd F.P f (λ _=>do mark .enable; pure Extern.Race.none_))
  (h:Own F.P F.B true (KM F n (.go r)) R H (aY (iZ { c with defers:=ds } tmps todo) c.cs)):KM F (n+1) (.ke r) R H (aY (iZ c tmps todo) c.cs) :=
 ⟨rfl,rfl,λ w s _ bg _=>.inr ⟨_,w,_,_,s,.ke,rfl,aeV hd hf (qk (by simp)),cb.refl bg,h⟩⟩
section
variable {P:Program} {B:Base} {main:Bool}
def yr(P:Program):Frame:={ (default:Frame) with fn:=P.funcs.size,defers:=[],mode:=.panicking [goexitEntry] }
def G7(P:Program)(d:Deferred):Goroutine:={ frame:={ (default:Frame) with fn:=P.funcs.size,defers:=[d],mode:=.panicking [goexitEntry] },callers:=[],status:=.running,dying:=none }
theorem aEi{cl:Call}{d:Deferred}{tmps:Array Value}{w:World}(ho:ops[i]? = some o)(hw:cJ ops st o=some true)(au:o.op = .go cl)(ht:cQ c.n st tmps)(hr:∀ ρ,Knows st ρ→ai P (resolve ρ cl o.type) d)(hd:(d.target matches .nil)=false) :
  stepG P main (aY (aW c tmps (.inRegion ops (i::rest)::kk)) c.cs) w = .spawn (aY (aW c (fw o.dst undef tmps) (.inRegion ops rest::kk)) c.cs) (G7 P d) w #[]:=by
 rw [po ho (kz ht hw) (by rw [au]; rfl)]
 have hk:=ht.knows c (.inRegion ops (i::rest)::kk)
 have:ai P (execOp (aW c tmps (.inRegion ops (i::rest)::kk)).eval o) (.spawn d):=by
  simp only [execOp,au]
  exact ai.bind (hr _ hk) (ai.pure _)
 have h:=this w
 rw [← pK (rest:=rest) (k:=kk) (c:=c) (tmps:=tmps) (v:=undef) ho]
 clear hr this
 obtain ⟨tg,aiH⟩:=d
 cases tg <;> simp_all [stepG.apply,aY,GStep.after,seen_none,G7]
theorem Own.child{K:ax→an→Goroutine→Prop}{f:FuncId}{args:Array Value}{d:Deferred}(hd:(d.target matches .nil)=false)(hv:ai P (invoke d.target d.args) (.enter f args))(h:Own P B false K R H (aY (Frame.enter P f args .deferred) [yr P])):Own P B false K R H (G7 P d):=by
 refine (JV P B false K).step rfl λ w hw=>⟨_,w,#[],R,H,?_,by simp,fF.refl hw,h⟩
 have hc:(match d.target with | .collected _=>false | _=>true)=true:=by
  cases ht:d.target with
  | collected b =>
   rw [ht] at hv
   have:=(hv w).1
   simp [invoke] at this
  | _=>rfl
 have hvw:=hv w
 obtain ⟨tg,aiH⟩:=d
 simp only at hc hvw hd
 unfold stepG G7
 simp only
 unfold Go.unwind
 cases tg with
 | collected b=>cases hc
 | _=>simp_all [callDeferred,Sem.runT_eq,GStep.after,seen_none,aY,yr]
theorem aEE{f:FuncId}{captured args:Array Value}(he:bl P f):ai P (invoke (.fn (.func f) captured) args) (.enter f (args++captured)):=by
 obtain ⟨fn,h1,h2,h3⟩:=he.ex
 simp only [invoke]
 exact C2 h1 h2 h3
theorem aCX{x:Operand}{cl:Call}{f:FuncId}{cap:Array Value}{t:TypeId}(hc:cl.callee = .value x)(ha:cl.args=#[])(hx:bh st x=some (.func (.func f) #[] cap))(ρ:Operand→Value)(bf:Knows st ρ):ai P (resolve ρ cl t) ⟨.fn (.func f) cap,#[]⟩:=by
 simp only [resolve,hc,ha,bf x _ hx,Deferred.ofValue]
 have e:(#[]:Array Value)++Array.map ρ #[]=#[]:=by simp
 rw [e]
 exact ai.pure _
theorem alg{f:FuncId}{fn:Func}{body:Code}{args:List Value}{m:Nat}{kd:CallKind}{cs:List Frame}(hf:P.funcs[f]? = some fn)(hb:fn.body=some body)(qx:fn.ntmps=m)(hn:Nat.ble args.length m=true) :
  ∃ tmps,cQ m (uH 0 args) tmps∧Frame.enter P f args.toArray kd=aW ⟨f,kd,none,m,[],cs⟩ tmps [.code body]:=by
 subst qx
 have hn:args.length≤fn.ntmps:=by simpa [Nat.ble_eq] using hn
 refine ⟨args.toArray++Array.replicate (fn.ntmps - args.length) undef,⟨by simp; omega,λ t v ht=>?_⟩,by simp [Frame.enter,aW,hf,hb]⟩
 obtain ⟨_,h2⟩:=GR args 0 t v ht
 have bE:t < args.length:=by
  have:=(List.getElem?_eq_some_iff.1 h2).1
  simpa using this
 rw [Array.getElem?_append_left (by simpa using bE)]
 simpa using h2
theorem Jd.enter{ae:Jd P B main}{f:FuncId}{fn:Func}{body:Code}{args:List Value}{m:Nat}{kd:CallKind}{cs:List Frame}(hf:P.funcs[f]? = some fn)(hb:fn.body=some body)(qx:fn.ntmps=m)(hn:Nat.ble args.length m=true)
  (h:U ae ⟨f,kd,none,m,[],cs⟩ R H (uH 0 args) [.code body]):ae.J R H (aY (Frame.enter P f args.toArray kd) cs):=by
 obtain ⟨tmps,ht,e⟩:=alg (kd:=kd) (cs:=cs) hf hb qx hn
 rw [e]; exact h tmps ht
theorem aCG:QuitsD P 1 0 (aY (yr P) []):=by
 refine .inr ⟨rfl,{ aY (yr P) [] with status:=.finished },#[],by simp,λ w=>?_,rfl,rfl⟩
 have e:(default:Frame).todo=[]:=rfl
 simp [stepG,Go.unwind,aY,yr,goexitEntry,Frame.catches,e]
end
theorem KM.spawn{cl:Call}{d:Deferred}{r:Nat}(ho:ops[i]? = some o)(hw:cJ ops st o=some true)(au:o.op = .go cl)(hr:∀ ρ,Knows st ρ→ai F.P (resolve ρ cl o.type) d)(hd:(d.target matches .nil)=false)(lE:bV o.dst c.n)
  (hc:Own F.P F.B false (KW F n (F.N - (r+1)) 0 .ld) R [] (G7 F.P d)) (h:∀ ba,cQ c.n (bW o.dst undef st) ba→Own F.P F.B true (KM F n (kq r)) R H (aY (aW c ba (.inRegion ops rest::kk)) c.cs)) :
  ∀ tmps,cQ c.n st tmps→KM F (n+1) (.go r) R H (aY (aW c tmps (.inRegion ops (i::rest)::kk)) c.cs):=λ _ ht =>
 ⟨rfl,rfl,λ _ _ _ _ _=>⟨_,_,aEi ho hw au ht hr hd,hc,h _ (ht.put undef lE)⟩⟩
end
end Go.Lg
namespace Go.Lg
open Go.Conc Go.ConcN
def s0:Sh:=⟨.zero,0,0,0,0⟩
theorem iB.crowd{F:Fx}{Post:Value→World→Prop}{R:ax}{H0:an}{g:Goroutine}{r:Nat}(rO:F.mj=iB F.P F.B Post)(hN:F.N=r+1)(h:∀ n,Own F.P F.B true (KM F n (.ka r)) R H0 g) :
  iB F.P F.B Post R ((F.bo,F.cont λ _=>0)::(F.bw,pq F.tw s0)::(F.bm,pa F.tm s0)::H0) g:=by
 intro gs w sl t q dd h0 hA
 have bE:=BX h0
 have hf:=hA.fits
 have dL:=hf.nd
 simp only [List.map_cons,List.nodup_cons,List.mem_cons,not_or,List.mem_map,not_exists] at dL
 have mo:(F.bo,F.cont λ _=>0)∈(F.bo,F.cont λ _=>0)::(F.bw,pq F.tw s0)::(F.bm,pa F.tm s0)::H0:=by simp
 have mw:(F.bw,pq F.tw s0)∈(F.bo,F.cont λ _=>0)::(F.bw,pq F.tw s0)::(F.bm,pa F.tm s0)::H0:=by simp
 have mm:(F.bm,pa F.tm s0)∈(F.bo,F.cont λ _=>0)::(F.bw,pq F.tw s0)::(F.bm,pa F.tm s0)::H0:=by simp
 have out:∀ b,(b=F.bo∨b=F.bw∨b=F.bm)→R b=none∧∀ o',(b,o') ∉ H0:=λ b hb=>by
  rcases hb with rfl | rfl | rfl
  ·exact ⟨hf.dj _ _ mo,λ o' eR=>dL.1.2.2 (F.bo,o') ⟨eR,rfl⟩⟩
  ·exact ⟨hf.dj _ _ mw,λ o' eR=>dL.2.1.2 (F.bw,o') ⟨eR,rfl⟩⟩
  ·exact ⟨hf.dj _ _ mm,λ o' eR=>dL.2.2.1 (F.bm,o') ⟨eR,rfl⟩⟩
 have hc:∀ n,cnt (cq (λ _=>.no) 0 (.mn (.ka r))) n = .zero:=λ n=>by
  have z:∀ f:Cn→Nat,f .zero=0→c8 n (λ i=>f (cA (cq (λ _=>.no) 0 (.mn (.ka r)) i)))=0:=λ f hf=>by
   have e:∀ i,f (cA (cq (λ _=>.no) 0 (.mn (.ka r)) i))=0:=λ i=>by
    unfold cq; split <;> exact hf
   have:=Oi (b:=0) (f:=λ i=>f (cA (cq (λ _=>.no) 0 (.mn (.ka r)) i))) (λ i=>by rw [e]; exact Nat.le_refl _) n
   omega
  unfold cnt
  simp only [z (·.ow) rfl,z (·.hl) rfl,z (·.pu) rfl,z (·.pc) rfl,z (·.al) rfl,z (·.z) rfl,z (·.a1) rfl,z (·.ak) rfl,z (·.ux) rfl,z (·.wk) rfl,z (·.lv) rfl,z (·.dw) rfl,z (·.d4) rfl]
  rfl
 have Bi:∀ i k j T,cq (λ _=>.no) 0 (.mn (.ka r)) i ≠ .wk k j T:=λ i k j T e=>by
  unfold cq at e; split at e <;> cases e
 have my:Bk F (31 * (gs.size+F.N)+1) (.ka r) (cq (λ _=>.no) 0 (.mn (.ka r))) (λ _=>0) s0 gs.size:=by
  refine ⟨jz _ _ _,by simp,bE,λ i hi=>ft (by omega),λ i T hT=>?_,?_,?_,λ i k j T e=>absurd e (Bi i k j T),λ i i' k j j' T T' e=>absurd e (Bi i k j T),λ k hk=>?_,λ k hk=>rfl,by simp only [rem,hN]; omega⟩
  ·apply Classical.byContradiction
   intro hn
   rw [ft hn] at hT; cases hT
  ·rw [hc]; constructor <;> simp [Cn.zero,s0,Wd.zero]
  ·rw [hc]; refine ⟨by simp [kE,Cn.zero,s0],by simp [Cn.zero,Cn.jy],by simp [Cn.zero,Cn.jy,rem,hN]⟩
  ·simp only [rem,hN] at hk; omega
 have hd0:=hA.d0
 obtain ⟨T,hT⟩:=h (MM F (31 * (gs.size+F.N)+1) (cq (λ _=>.no) 0 (.mn (.ka r))) s0 gs.size)
 refine MI.runs (F:=F) (Q:=31 * (gs.size+F.N)+1) (T0:=.ka r) (D:=cq (λ _=>.no) 0 (.mn (.ka r))) (m:=λ i=>if i=0 then some T else some (qN (q i))) (js:=λ _=>0) (s:=s0) (th:=only ⟨R,H0⟩) (mu:=λ _=>false) (dd:=dd) rO ⟨?_,?_,λ i x hx=>?_,λ i hi=>⟨?_,rfl,hA.dz i hi⟩,my⟩
 ·rw [hc]
  have sub:∀ i x,only ⟨R,H0⟩ i=some x→i=0∧x=⟨R,H0⟩:=λ i x hx=>by
   unfold only at hx; split at hx
   ·cases hx; exact ⟨‹_›,rfl⟩
   ·cases hx
  refine ⟨λ i x hx=>?_,λ i j x y tn hx hy=>?_,λ c o Ee=>?_,λ c o Ee i x hx=>?_⟩
  ·obtain ⟨rfl,rfl⟩:=sub i x hx
   exact ⟨hf.r,λ b o hb=>hf.h b o (by simp [hb]),dL.2.2.2,λ b o hb=>hf.dj b o (by simp [hb]),hf.os,hf.tape,hf.out⟩
  ·obtain ⟨rfl,_⟩:=sub i x hx
   obtain ⟨rfl,_⟩:=sub j y hy
   exact absurd rfl tn
  ·rcases Cx Ee with ⟨rfl,rfl⟩ | ⟨rfl,rfl⟩ | ⟨rfl,rfl,_⟩
   ·exact hf.h _ _ mm
   ·exact hf.h _ _ mw
   ·exact hf.h _ _ mo
  ·obtain ⟨rfl,rfl⟩:=sub i x hx
   rcases Cx Ee with ⟨rfl,rfl⟩ | ⟨rfl,rfl⟩ | ⟨rfl,rfl,_⟩
   ·exact out _ (.inr (.inr rfl))
   ·exact out _ (.inr (.inl rfl))
   ·exact out _ (.inl rfl)
 ·rw [hc]
  refine cS.share (bs:=[F.bm,F.bw]) (b:=F.bo) hA.tr (λ c Ee=>?_) (λ x hx=>by simp [hx]) _ _
  simp only [List.mem_cons,List.not_mem_nil,or_false] at Ee
  rcases Ee with rfl | rfl | rfl
  ·exact ⟨_,mo⟩
  ·exact ⟨_,mm⟩
  ·exact ⟨_,mw⟩
 ·by_cases hi:i=0
  ·subst hi
   rw [h0] at hx; cases hx
   rw [jz]
   exact ⟨rfl,hd0,rfl,⟨R,H0⟩,_,rfl,Nat.le_refl _,.inl ⟨T,by simp,hT⟩⟩
  ·rw [ft hi]
   refine ⟨by simp [only,hi],by omega,q i,by simp [hi],hA.lv i x (by omega) hx⟩
 ·have:i≠0:=by omega
  simp [only,this]
end Go.Lg
namespace Go.Lg
theorem aD8:∀ (l w s:Fin 2) (n:Fin 6),let v:Int:=(l.1:Int)+2 * w.1+4 * s.1+8 * n.1;
  gh .and .i32 v 1=some (l.1:Int)∧gh .and .i32 v 2=some (2 * w.1:Int)∧gh .and .i32 v 3=some ((l.1:Int)+2 * w.1)∧gh .and .i32 v 4=some (4 * s.1:Int)∧gh .and .i32 v 5=some ((l.1:Int)+4 * s.1) ∧
  gh .and .i32 v 7=some ((l.1:Int)+2 * w.1+4 * s.1)∧gh .or .i32 v 1=some (1+2 * w.1+4 * s.1+8 * n.1:Int)∧gh .or .i32 v 2=some ((l.1:Int)+2+4 * s.1+8 * n.1)∧gh .or .i32 v 4=some ((l.1:Int)+2 * w.1+4+8 * n.1) ∧
  gh .andNot .i32 v 2=some ((l.1:Int)+4 * s.1+8 * n.1)∧nh .i32 v 3=some (n.1:Int):=by decide +kernel
section
variable {m:Wd} (h:m.ok 5)
include h
theorem Wd.sA:gh .and .i32 m.val 1=some (m.l:Int)∧gh .and .i32 m.val 2=some (2 * m.w:Int)∧gh .and .i32 m.val 3=some ((m.l:Int)+2 * m.w)∧gh .and .i32 m.val 4=some (4 * m.s:Int)∧gh .and .i32 m.val 5=some ((m.l:Int)+4 * m.s) ∧
  gh .and .i32 m.val 7=some ((m.l:Int)+2 * m.w+4 * m.s)∧gh .or .i32 m.val 1=some (Wd.val { m with l:=1 })∧gh .or .i32 m.val 2=some (Wd.val { m with w:=1 })∧gh .or .i32 m.val 4=some (Wd.val { m with s:=1 }) ∧
  gh .andNot .i32 m.val 2=some (Wd.val { m with w:=0 })∧nh .i32 m.val 3=some (m.n:Int):=by
 obtain ⟨l,w,s,n⟩:=m
 obtain ⟨h1,h2,h3,h4⟩:=h
 have:=aD8 ⟨l,by simp only at h1; omega⟩ ⟨w,by simp only at h2; omega⟩ ⟨s,by simp only at h3; omega⟩ ⟨n,by simp only at h4; omega⟩
 simpa [Wd.val] using this
theorem Wd.fit:0≤m.val∧m.val≤47:=by
 obtain ⟨h1,h2,h3,h4⟩:=h
 unfold Wd.val; omega
end
theorem wrap_i32{z:Int}(h1 : -2147483648≤z)(h2:z≤2147483647):IntKind.i32.wrap z=z:=by
 unfold IntKind.wrap
 simp [IntKind.signed,IntKind.bits]
 omega
theorem wrap_u32{z:Int}(h1:0≤z)(h2:z≤4294967295):IntKind.u32.wrap z=z:=by
 unfold IntKind.wrap
 simp [IntKind.signed,IntKind.bits]
 omega
theorem afY{z:Int}(h1:0≤z)(h2:z≤18446744073709551615):IntKind.u64.wrap z=z:=by
 unfold IntKind.wrap
 simp [IntKind.signed,IntKind.bits]
 omega
theorem aFK{z:Int}(h1:4294967296≤z)(h2:z≤18446744073709551615):IntKind.u64.wrap (z+18446744069414584320)=z - 4294967296:=by
 unfold IntKind.wrap
 simp [IntKind.signed,IntKind.bits]
 omega
theorem aD7:∀ (v:Fin 6) (w:Fin 2),let z:Int:=4294967296 * (v.1:Int)+w.1;
  gh .and .u64 z 2147483648=some 0∧gh .and .u64 z 2147483647=some (w.1:Int)∧nh .u64 z 32=some (v.1:Int):=by decide +kernel
theorem XQ{v w:Nat}(hv:v≤5)(hw:w≤1):gh .and .u64 (4294967296 * (v:Int)+w) 2147483648=some 0∧gh .and .u64 (4294967296 * (v:Int)+w) 2147483647=some (w:Int)∧nh .u64 (4294967296 * (v:Int)+w) 32=some (v:Int):=by
 simpa using aD7 ⟨v,by omega⟩ ⟨w,by omega⟩
end Go.Lg
namespace Go.Lg
open Go.Conc Go.ConcN
class sL (P:Program) where
 ki:Nat→Option IntKind
 ok:∀ t k,ki t=some k→P.underlying t=some (.int k)
def Qm(bo:BinOp)(kd:IntKind)(a b:Int):Option Value :=
 match bo with
 | .eql=>some (.bool (a == b))
 | .neq=>some (.bool (a != b))
 | .lss=>some (.bool (decide (a < b)))
 | .leq=>some (.bool (decide (a≤b)))
 | .gtr=>some (.bool (decide (a > b)))
 | .geq=>some (.bool (decide (a ≥ b)))
 | .add=>some (.int kd (kd.wrap (a+b)))
 | .sub=>some (.int kd (kd.wrap (a - b)))
 | .and=>some (.int kd ((gh .and kd a b).getD 0))
 | .or=>some (.int kd ((gh .or kd a b).getD 0))
 | .andNot=>some (.int kd ((gh .andNot kd a b).getD 0))
 | _=>none
def M8(fo:Nat→Nat→Option Nat)(ki:Nat→Option IntKind)(st:St)(o:Oper):Option Value :=
 match o.op with
 | .move x=>bh st x
 | .assign x=>bh st x
 | .nilCheck x=>match bh st x with
  | some (.pointer (some a))=>some (.pointer (some a))
  | _=>none
 | .pick x y z=>match bh st x with
  | some (.bool true)=>bh st y
  | some (.bool false)=>bh st z
  | _=>none
 | .unOp .not _ x=>match bh st x with
  | some (.bool a)=>some (.bool (!a))
  | _=>none
 | .binOp .shr _ x y _=>match bh st x,bh st y with
  | some (.int kd a),some (.int _ b)=>if b < 0 then none else some (.int kd (a.fdiv (2 ^ (min b.toNat kd.bits))))
  | _,_=>none
 | .binOp .shl _ x y _=>match bh st x,bh st y with
  | some (.int kd a),some (.int _ b)=>if b < 0 then none else some (.int kd (kd.wrap (a * 2 ^ (min b.toNat kd.bits))))
  | _,_=>none
 | .binOp bo _ x y _=>match bh st x,bh st y with
  | some (.int kd a),some (.int BS b)=>if kd=BS then Qm bo kd a b else none
  | _,_=>none
 | .convert s d x=>match bh st x,ki s,ki d with
  | some (.int _ a),some _,some kd=>some (.int kd (kd.wrap a))
  | _,_,_=>none
 | .fieldAddr s x f=>match bh st x,fo s f with
  | some (.pointer (some ⟨b,n,none⟩)),some off=>some (.pointer (some ⟨b,n+off,none⟩))
  | _,_=>none
 | _=>none
section
variable {P:Program} [mg P] [sL P] {B:Base} {main:Bool} {ae:Jd P B main} {J:QJ P} {c:Ctx} {R:ax} {H:an} {st st':St} {o:Oper} {k:List Item}
omit [mg P] [sL P] in
theorem afg{kd yk:IntKind}{a b:Int}{t:TypeId}(hb:¬ b < 0):ai P (binOp .shr t (.int kd a) (.int yk b)) (.int kd (a.fdiv (2 ^ (min b.toNat kd.bits))))∧ai P (binOp .shl t (.int kd a) (.int yk b)) (.int kd (kd.wrap (a * 2 ^ (min b.toNat kd.bits)))):=by
 constructor <;> (simp only [binOp,Op.shift,if_false,hb]; exact ai.pure _)
omit [mg P] [sL P] in
theorem aEv{bo:BinOp}{kd:IntKind}{a b:Int}{t:TypeId}{v:Value}(h:Qm bo kd a b=some v):ai P (binOp bo t (.int kd a) (.int kd b)) v:=by
 unfold Qm at h
 cases bo <;> simp only [Option.some.injEq,reduceCtorEq] at h <;> subst h <;> simp only [binOp,ne_eq,not_true_eq_false,if_false,Op.intArith,Op.intBits,gh,Option.getD_some] <;> exact ai.pure _
theorem acU{v:Value}(h:M8 (mg.off P) (sL.ki P) st o=some v)(hd:bV o.dst c.n):sN P c o st v:=by
 unfold M8 at h
 split at h
 ·rename_i x au; exact OV.move au hd h
 ·rename_i x au; exact OV.assign au hd h
 ·rename_i x au
  split at h
  ·rename_i hx; cases h; exact OV.nilCheck au hd hx
  ·cases h
 ·rename_i x y z au
  split at h
  ·rename_i hx; exact OV.aCu au hd hx h
  ·rename_i hx; exact OV.aCt au hd hx h
  ·cases h
 ·rename_i t x au
  split at h
  ·rename_i hx; cases h; exact OV.not au hd hx
  ·cases h
 ·rename_i t x y u au
  split at h
  ·rename_i kd a BS b hx hy
   split at h
   ·cases h
   ·rename_i hb; cases h; exact OV.bin au hd hx hy (afg hb).1
  ·cases h
 ·rename_i t x y u au
  split at h
  ·rename_i kd a BS b hx hy
   split at h
   ·cases h
   ·rename_i hb; cases h; exact OV.bin au hd hx hy (afg hb).2
  ·cases h
 ·rename_i bo t x y u _ _ au
  split at h
  ·rename_i kd a BS b hx hy
   split at h
   ·rename_i e; subst e; exact OV.bin au hd hx hy (aEv h)
   ·cases h
  ·cases h
 ·rename_i s d x au
  split at h
  ·rename_i ks a k0 kd hx hs hk
   cases h
   refine ⟨by rw [au]; rfl,hd,λ ρ bf=>?_⟩
   simp only [execOp,au,bf x _ hx]
   refine ai.bind ?_ (ai.pure _)
   unfold convert
   exact ai.bind (ai.underlying (sL.ok _ _ hs)) (ai.bind (ai.underlying (sL.ok _ _ hk)) (ai.pure _))
  ·cases h
 ·rename_i s x f au
  split at h
  ·rename_i hx hf; cases h; exact OV.fieldAddr au hd hx (mg.ok s f _ hf)
  ·cases h
 ·cases h
def Xm(fo:Nat→Nat→Option Nat)(ki:Nat→Option IntKind)(ops:Array Oper)(n:Nat)(st:St)(i:Nat):Option St :=
 match ops[i]? with
 | none=>none
 | some o=>match cJ ops st o with
  | some true=>match M8 fo ki st o,o.dst with
   | some v,some d=>if Nat.blt d n=true then some ((d,v)::st) else none
   | _,_=>none
  | some false=>match mF o.op,o.dst with
   | false,some d=>if Nat.blt d n=true then some ((d,undef)::st) else none
   | false,none=>some st
   | _,_=>none
  | none=>none
def qW(fo:Nat→Nat→Option Nat)(ki:Nat→Option IntKind)(ops:Array Oper)(n:Nat):List Nat→St→Option St
 | [],st=>some st
 | i::is,st=>match Xm fo ki ops n st i with
  | some st'=>qW fo ki ops n is st'
  | none=>none
theorem aeQ{ops:Array Oper}{n i:Nat}{fo:Nat→Nat→Option Nat}{ki:Nat→Option IntKind}(h:Xm fo ki ops n st i=some st'):∃ o,ops[i]? = some o ∧
  ((cJ ops st o=some true∧∃ v d,M8 fo ki st o=some v∧o.dst=some d∧bV (some d) n∧st'=(d,v)::st) ∨
   (cJ ops st o=some false∧mF o.op=false∧bV o.dst n∧st'=bW o.dst undef st)):=by
 unfold Xm at h
 split at h
 ·cases h
 ·rename_i o ho
  refine ⟨o,ho,?_⟩
  split at h
  ·rename_i hw
   split at h
   ·rename_i v d hv hd
    split at h
    ·rename_i hl; cases h; exact .inl ⟨hw,v,d,hv,hd,hl,rfl⟩
    ·cases h
   ·cases h
  ·rename_i hw
   split at h
   ·rename_i d lZ hd
    split at h
    ·rename_i hl; cases h; exact .inr ⟨hw,lZ,by rw [hd]; exact hl,by rw [hd]; rfl⟩
    ·cases h
   ·rename_i lZ hd
    cases h; exact .inr ⟨hw,lZ,by rw [hd]; rfl,by rw [hd]; rfl⟩
   ·cases h
  ·cases h
theorem U.qW{ops:Array Oper}(hk:(c.kind == CallKind.early)=false):∀ {is rest:List Nat} {st:St},Go.Lg.qW (mg.off P) (sL.ki P) ops c.n is st=some st'→U ae c R H st' (.inRegion ops rest::k)→U ae c R H st (.inRegion ops (is++rest)::k)
 | [],rest,st,h,ha=>by cases h; exact ha
 | i::is,rest,st,h,ha=>by
  unfold Go.Lg.qW at h
  split at h
  ·rename_i vS h1
   have ih:=U.qW hk h ha
   obtain ⟨o,ho,⟨hw,v,d,hv,hd,hl,rfl⟩ | ⟨hw,lZ,hl,rfl⟩⟩:=aeQ h1
   ·exact U.val ho hw hk (acU hv (by rw [hd]; exact hl)) (by rw [hd]; exact aF.refl _) ih
   ·exact U.unwanted ho hw hl (aF.refl _) ih
  ·cases h
theorem aE.qW{ops:Array Oper}(hk:(c.kind == CallKind.early)=false):∀ {is rest:List Nat} {st:St},Go.Lg.qW (mg.off P) (sL.ki P) ops c.n is st=some st'→aE J c st' (.inRegion ops rest::k)→aE J c st (.inRegion ops (is++rest)::k)
 | [],rest,st,h,ha=>by cases h; exact ha
 | i::is,rest,st,h,ha=>by
  unfold Go.Lg.qW at h
  split at h
  ·rename_i vS h1
   have ih:=aE.qW hk h ha
   obtain ⟨o,ho,⟨hw,v,d,hv,hd,hl,rfl⟩ | ⟨hw,lZ,hl,rfl⟩⟩:=aeQ h1
   ·exact aE.val ho hw hk (acU hv (by rw [hd]; exact hl)) (by rw [hd]; exact aF.refl _) ih
   ·exact aE.unwanted ho hw hl (aF.refl _) ih
  ·cases h
theorem U.lv(m:Nat){ops:Array Oper}{is qG:List Nat}(ha:U ae c R H st' (.inRegion ops qG::k))(h:Go.Lg.qW (mg.off P) (sL.ki P) ops c.n (is.take m) st=some st':=by rfl)(hr:is.drop m=qG:=by rfl)(hk:(c.kind == CallKind.early)=false:=by rfl):U ae c R H st (.inRegion ops is::k):=by
 subst hr
 have:=U.qW (rest:=is.drop m) hk h ha
 rwa [List.take_append_drop] at this
theorem aE.lv(m:Nat){ops:Array Oper}{is qG:List Nat}(ha:aE J c st' (.inRegion ops qG::k))(h:Go.Lg.qW (mg.off P) (sL.ki P) ops c.n (is.take m) st=some st':=by rfl)(hr:is.drop m=qG:=by rfl)(hk:(c.kind == CallKind.early)=false:=by rfl):aE J c st (.inRegion ops is::k):=by
 subst hr
 have:=aE.qW (rest:=is.drop m) hk h ha
 rwa [List.take_append_drop] at this
end
section
variable {P:Program} {B:Base} {main:Bool} {ae:Jd P B main} {J:QJ P} {c:Ctx} {R:ax} {H:an} {st st':St} {k:List Item}
theorem U.is(t:Nat){v v':Value}{todo:List Item}(hx:st.lookup t=some v)(hv:v=v')(h:U ae c R H ((t,v')::st) todo):U ae c R H st todo:=by
 subst hv
 refine U.sub (λ u x hu=>?_) h
 rw [List.lookup_cons] at hu
 split at hu
 ·rename_i e; rw [beq_iff_eq] at e; subst e; rw [hx]; exact hu
 ·exact hu
theorem aE.is(t:Nat){v v':Value}{todo:List Item}(hx:st.lookup t=some v)(hv:v=v')(h:aE J c ((t,v')::st) todo):aE J c st todo:=by
 subst hv
 refine aE.sub (λ u x hu=>?_) h
 rw [List.lookup_cons] at hu
 split at hu
 ·rename_i e; rw [beq_iff_eq] at e; subst e; rw [hx]; exact hu
 ·exact hu
theorem aE.rg(is:List Nat){id:Nat}{ops:Array Oper}(h:aE J c st (.inRegion ops is::k))(hn:ops.size=is.length:=by rfl)(l5:List.range is.length=is:=by rfl):aE J c st (.code (.region id ops false)::k):=aE.region hn l5 h
def kC(P:Program)(J K:Goroutine→Prop)(f:FuncId)(vs:List Value):Prop :=
 ∀ fr cs,K (aY (Frame.finish fr (gZ [])) cs)→J (aY (Frame.enter P f vs.toArray .normal) (fr::cs))
variable {ops:Array Oper} {i:Nat} {rest:List Nat} {o:Oper} {f:FuncId} {as:Array Operand} {ig:Array TypeId} {vs:List Value} {K:Goroutine→Prop}
theorem U.vy(ho:ops[i]? = some o)(hw:cJ ops st o=some true)(fG:(c.kind == CallKind.early)=false)(au:o.op = .call ⟨.value (.func f),as,ig⟩)(ha:iD st as.toList=some vs)(he:bl P f)(hd:bV o.dst c.n)
  (hf:kC P (ae.J R H) K f vs) (h:∀ ba,cQ c.n (bW o.dst (gZ []) st) ba→K (aY (aW c ba (.inRegion ops rest::k)) c.cs)):U ae c R H st (.inRegion ops (i::rest)::k):=λ tmps ht=>by
 obtain ⟨fn,h1,h2,h3⟩:=he.ex
 have hv:ai P (execOp (aW c tmps (.inRegion ops (i::rest)::k)).eval o) (.enter f vs.toArray):=by
  rw [D5 au ht ha]
  exact C2 h1 h2 h3
 refine Jd.ctl rfl (λ w=>?_) (hf (aW c tmps (.inRegion ops (i::rest)::k)) c.cs ?_)
 ·rw [po ho (kz ht hw) (by rw [au]; rfl),GQ rfl (by simpa [aW] using fG) (hv w).1,(hv w).2]
  rfl
 ·rw [pK ho]
  exact h _ (ht.put _ hd)
theorem kC.bn{fn:Func}{body:Code}{n:Nat}(hf:P.funcs[f]? = some fn)(hb:fn.body=some body)(qx:fn.ntmps=n)(hn:Nat.ble vs.length n=true)
  (h:∀ fr cs,K (aY (Frame.finish fr (gZ [])) cs)→U ae ⟨f,.normal,none,n,[],fr::cs⟩ R H (uH 0 vs) [.code body]):kC P (ae.J R H) K f vs:=λ fr cs hk=>Jd.enter hf hb qx hn (h fr cs hk)
theorem U.pJ{m:Nat}{fn:Func}{fr:Frame}{cs:List Frame}{todo:List Item}(hf:P.funcs[f]? = some fn)(hr:fn.results.toList=[])(hj:ae.J R H (aY (fr.finish (gZ [])) cs))(hm:todo=[]∨∃ k,todo = .code .ret::k):U ae ⟨f,.normal,none,m,[],fr::cs⟩ R H st todo:=by
 have key:∀ tmps todo,cQ m st tmps→ae.J R H (aY (iZ ⟨f,.normal,none,m,[],fr::cs⟩ tmps todo) (fr::cs)):=λ tmps todo ht=>Jd.back hf ht (by rw [hr]; rfl) hj
 rcases hm with rfl | ⟨k,rfl⟩
 ·exact U.toEnd rfl λ tmps ht=>key tmps _ ht
 ·exact U.Xt rfl λ tmps ht=>key tmps _ ht
end
section
variable {P:Program} {main:Bool} {c:Ctx} {st:St} {k:List Item} {ops:Array Oper} {i:Nat} {rest:List Nat} {o:Oper} {f:FuncId} {as:Array Operand} {ig:Array TypeId} {vs:List Value}
theorem aD3{tmps:Array Value}{w:World}(ho:ops[i]? = some o)(hw:cJ ops st o=some true)(fG:(c.kind == CallKind.early)=false)(au:o.op = .call ⟨.value (.func f),as,ig⟩)(hf:gd P f Extern.OsHooks.nano)(hq:(P.funcs[f]?).any (·.norace)=true)(ht:cQ c.n st tmps)(ha:iD st as.toList=some vs) :
  stepG P main (aY (aW c tmps (.inRegion ops (i::rest)::k)) c.cs) w = .go (aY (aW c (fw o.dst (.int .i64 ((w.os.mono+w.tick:Nat):Int)) tmps) (.inRegion ops rest::k)) c.cs) w.later #[]:=by
 obtain ⟨fn,h1,h2,h3,h4,h5⟩:=hf.ex
 have kh:(Extern.OsHooks.nano vs.toArray).run P w = .ok (.int .i64 ((w.os.mono+w.tick:Nat):Int)) w.later:=rfl
 rw [po ho (kz ht hw) (by rw [au]; rfl),← pK (rest:=rest) (k:=k) (c:=c) (tmps:=tmps) (v:=.int .i64 ((w.os.mono+w.tick:Nat):Int)) ho,D5 au ht ha]
 have hr:(callFunc f vs.toArray).run P w = .ok (.value (.int .i64 ((w.os.mono+w.tick:Nat):Int))) w.later:=by rw [run_callFunc_extern h1 h2 h3 h4 h5,kh]; rfl
 rw [AG (by simpa [aW] using fG) hr]
 congr 1
 rw [events_callFunc_extern h1 h2 h3 h4 h5]
 simp only [List.push_toArray,List.nil_append]
 have jP:(Extern.OsHooks.nano vs.toArray).events P w #[⟨.mark (.extern f),false,true⟩]=#[⟨.mark (.extern f),false,true⟩]++#[⟨.output,true,false⟩]:=rfl
 rw [jP,seen_entry_out _ _ hq]
end
section
variable {F:Fx} {c:Ctx} {R:ax} {H:an} {st:St} {kk:List Item} {ops:Array Oper} {i:Nat} {rest:List Nat} {o:Oper} {f:FuncId} {as:Array Operand} {ig:Array TypeId} {vs:List Value} {n k j:Nat} {T:Lp}
theorem KW.nano(hB:∀ w:World,F.B.os w.os→F.B.os w.later.os)(ho:ops[i]? = some o)(hw:cJ ops st o=some true)(fG:(c.kind == CallKind.early)=false)(au:o.op = .call ⟨.value (.func f),as,ig⟩)(hf:gd F.P f Extern.OsHooks.nano)(hq:(F.P.funcs[f]?).any (·.norace)=true)(ha:iD st as.toList=some vs)(hd:bV o.dst c.n)
  (hT:T ≠ .us∧T ≠ .d4) (jP:D1 F T #[])
  (h:pZ F.N T→∀ z:Int,∃ T',(∀ s,dc T s T' s)∧ya F j T T'∧∀ ba,cQ c.n (bW o.dst (.int .i64 z) st) ba→wi F (KW F n k) k j T T' R H (aY (aW c ba (.inRegion ops rest::kk)) c.cs)) :
  ∀ tmps,cQ c.n st tmps→KW F (n+1) k j T R H (aY (aW c tmps (.inRegion ops (i::rest)::kk)) c.cs):=by
 intro tmps ht ot
 refine ⟨rfl,rfl,λ e=>by rcases e with e | e; exact absurd e hT.1; exact absurd e hT.2,λ w s wQ bg wU l6=>.inr ?_⟩
 obtain ⟨T',h1,h2,h3⟩:=h ot ((w.os.mono+w.tick:Nat):Int)
 exact ⟨_,w.later,#[],T',s,h1 s,h2,jP,aD3 ho hw fG au hf hq ht ha,cb.later bg (hB w),h3 _ (ht.put _ hd)⟩
end
section
variable {F:Fx} {c:Ctx} {R:ax} {H:an} {st:St} {todo:List Item} {n k j:Nat} {T T':Lp} {T0:Mp}
theorem U.aD5(h:∀ m,m < n→∀ tmps,cQ c.n st tmps→KW F (m+1) k j T R H (aY (aW c tmps todo) c.cs)):U (JV F.P F.B false (KW F n k j T)) c R H st todo:=λ tmps ht=>by
 cases n with
 | zero=>exact Own.stop _ _ _ _ trivial
 | succ n=>exact Own.stop _ _ _ _ (h n (Nat.lt_succ_self n) tmps ht)
theorem U.aD4(h:∀ m,m < n→∀ tmps,cQ c.n st tmps→KM F (m+1) T0 R H (aY (aW c tmps todo) c.cs)):U (JV F.P F.B true (KM F n T0)) c R H st todo:=λ tmps ht=>by
 cases n with
 | zero=>exact Own.stop _ _ _ _ trivial
 | succ n=>exact Own.stop _ _ _ _ (h n (Nat.lt_succ_self n) tmps ht)
theorem oy(h:T ≠ .ue):ya F j T T':=by unfold ya; split <;> first | trivial | exact absurd rfl h
theorem aoX(c:Lc):hd c = .sq c∨hd c = .c2 c:=by unfold hd; split; exact .inl rfl; exact .inr rfl
theorem aDH(c:Lc):jb c = .c1 c∨jb c = .r1 c:=by unfold jb; split; exact .inl rfl; exact .inr rfl
theorem auz(m:Wd):hu m = .ue∨hu m = .uc m:=by unfold hu; split; exact .inl rfl; exact .inr rfl
theorem Nz{K:Nat→Lp→ax→an→Goroutine→Prop}{c:Lc}{g:Goroutine}(h:Own F.P F.B false (K j (hd c)) R H g):wi F K k j T (hd c) R H g:=by rcases aoX c with e | e <;> rw [e] at h ⊢ <;> exact h
theorem aBE{K:Nat→Lp→ax→an→Goroutine→Prop}{c:Lc}{g:Goroutine}(h:Own F.P F.B false (K j (jb c)) R H g):wi F K k j T (jb c) R H g:=by rcases aDH c with e | e <;> rw [e] at h ⊢ <;> exact h
theorem adQ{K:Nat→Lp→ax→an→Goroutine→Prop}{m:Wd}{g:Goroutine}(h:Own F.P F.B false (K j (hu m)) R H g):wi F K k j T (hu m) R H g:=by rcases auz m with e | e <;> rw [e] at h ⊢ <;> exact h
end
section
variable {P:Program} {B:Base} {main:Bool} {ae:Jd P B main} {c:Ctx} {R:ax} {H:an} {st st':St} {k:List Item} {ops:Array Oper} {i:Nat} {rest:List Nat} {o:Oper} {f:FuncId} {as:Array Operand} {ig:Array TypeId} {e:Array Value→Sem Value} {vs:List Value} {v:Value}
theorem U.ext(ho:ops[i]? = some o)(hw:cJ ops st o=some true)(fG:(c.kind == CallKind.early)=false)(au:o.op = .call ⟨.value (.func f),as,ig⟩)(hd:bV o.dst c.n)(hf:gd P f e)(ha:iD st as.toList=some vs)
  (hE:∀ w,mU P (e vs.toArray) f w v w #[]) (hs:aF (bW o.dst v st) st') (h:U ae c R H st' (.inRegion ops rest::k)):U ae c R H st (.inRegion ops (i::rest)::k):=λ _ ht =>
 Jd.ctl rfl (λ w=>J9 ho hw fG au hf ht ha (hE w)) (h _ ((ht.put v hd).sub hs))
theorem Q8{w:World}:mU P (pure v) f w v w #[]:=⟨rfl,rfl,by simp⟩
theorem U.join{x:Operand}{th el:Code}{b:Bool}(hx:bh st x=some (.bool b))(h1:b=true→U ae c R H st' k→U ae c R H st (.code th::k))(h2:b=false→U ae c R H st' k→U ae c R H st (.code el::k))(h:U ae c R H st' k):U ae c R H st (.code (.cond x th el)::k):=by
 cases b
 ·exact U.eD hx rfl (h2 rfl h)
 ·exact U.fu hx rfl (h1 rfl h)
theorem U.head{X:Type}{Jn:Nat→X→Jd P B main}{S:X→St}{ok:X→Prop}{todo:List Item}(step:∀ n,(∀ m,m < n→∀ x,ok x→U (Jn m x) c R H (S x) todo)→∀ x,ok x→U (Jn n x) c R H (S x) todo)(n:Nat)(x:X)(hx:ok x):U (Jn n x) c R H (S x) todo:=by
 induction n using Nat.strongRecOn generalizing x with
 | _ n ih=>exact step n (λ m hm x hx=>ih m hm x hx) x hx
end
end Go.Lg
namespace Go.Lg
open Go.Conc Go.ConcN Go.ChangeShapes Go.RowKit
open Go.ConcM (OsLater)
section
variable {P:Program} {B:Base} {PW:Value→World→Prop} {R:ax} {H:an} {st:St} {k:List Item}
theorem iB.ajQ{g:Goroutine}(hs:g.status = .running)(h:∀ w,Fits B R H w→∃ v w' es R' H',stepG P true g w = .ended (.done v) w' es∧(∀ e∈es,gR R H w.heap.size w'.heap.size e)∧fF B R H w R' H' w'∧PW v w'):iB P B PW R H g:=by
 refine iB.pick hs λ gs w sl p7 d t q dd h0 hA cL=>?_
 obtain ⟨v,w',es,R',H',h1,h2,hu,h3⟩:=h _ hA.fits
 have H5:=runT_many_ended (P:=P) (sl:=p7) (i:=0) h0 (show stepG P (0 == 0) g (w.at d)=_ from h1)
 have MF:=JW hA.mem WK WI hA.tr (i:=0) rfl (.inl rfl) h2 (.inl rfl) hu g.frame.fn g.frame.place
 rw [NG] at MF
 refine kW.end (cL.trans H5) ⟨v,rfl,h3,MF.2.clean,MF.2.handed,⟨λ x hx=>?_,rfl⟩,λ j x hx hj=>?_⟩
 ·obtain ⟨j,hj⟩:=List.mem_iff_getElem?.1 hx
  rw [List.getElem?_drop] at hj
  exact ⟨_,(hA.lv (1+j) x (by omega) (by simpa [Go.Conc.crowd] using hj)).leaves⟩
 ·have hq:=hA.lv j x (by omega) hx
  refine ⟨q j,?_⟩
  have e:Trace.deaf _ j _=dd j:=MF.2.deaf j
  rw [e]
  exact hq.hears _
def K0(P:Program)(B:Base)(PW:Value→World→Prop)(f:FuncId)(args:Array Value)(R:ax)(H:an)(Post:Value→ax→an→Prop):Prop :=
 (∀ v R' H' w,Post v R' H'→Fits B R' H' w→PW v w)→iB P B PW R H (aY (Frame.enter P f args .normal) [])
theorem K0.bn{f:FuncId}{fn:Func}{body:Code}{args:List Value}{n:Nat}{Post:Value→ax→an→Prop}(hf:P.funcs[f]? = some fn)(hb:fn.body=some body)(qx:fn.ntmps=n)(hn:Nat.ble args.length n=true)
  (h:(∀ v R' H' w,Post v R' H'→Fits B R' H' w→PW v w)→U (Cy P B PW) ⟨f,.normal,none,n,[],[]⟩ R H (uH 0 args) [.code body]):K0 P B PW f args.toArray R H Post:=by
 subst qx
 intro hk
 have hn:args.length≤fn.ntmps:=by simpa [Nat.ble_eq] using hn
 have:=h hk (args.toArray++Array.replicate (fn.ntmps - args.length) undef) ⟨by simp; omega,λ t v ht=>?_⟩
 ·have e:Frame.enter P f args.toArray .normal=aW ⟨f,.normal,none,fn.ntmps,[],[]⟩ (args.toArray++Array.replicate (fn.ntmps - args.length) undef) [.code body]:=by
   simp [Frame.enter,aW,hf,hb]
  rw [e]
  exact this
 ·obtain ⟨_,h2⟩:=GR args 0 t v ht
  have bE:t < args.length:=by
   have:=(List.getElem?_eq_some_iff.1 h2).1
   simpa using this
  rw [Array.getElem?_append_left (by simpa using bE)]
  simpa using h2
theorem U.FN{H':an}{f:FuncId}{n:Nat}{fn:Func}{vs:List Value}{Post:Value→ax→an→Prop}(hf:P.funcs[f]? = some fn)(hi:P.inits.idxOf? f=none)(hr:oK P R H st fn.results.toList vs)(hs:List.Sublist H' H)
  (hk:∀ v R' H' w,Post v R' H'→Fits B R' H' w→PW v w) (hp:Post (gZ vs) R H'):U (Cy P B PW) ⟨f,.normal,none,n,[],[]⟩ R H st (.code .ret::k):=λ tmps ht=>by
 refine Jd.ctl (g':=aY { (aW ⟨f,.normal,none,n,[],[]⟩ tmps (.code .ret::k)) with mode:=.returning } []) rfl (λ w=>by simp [stepG,stepG.exec,aY,aW])
  (iB.ajQ rfl λ w hw=>?_)
 obtain ⟨v,w',R',H2,h1,h2,h3,rfl,rfl,rfl⟩:=N7 (P:=P) ht hr w hw
 refine ⟨gZ vs,w',seen P f ((results fn tmps).events P w #[]),_,_,?_,λ e he=>h2 e (mem_seen he),h3,hk _ _ _ _ hp (Oo hs h3.fits).fits⟩
 simp [stepG,unwind,doReturn,aY,aW,hf,h1,GStep.after,hi]
end
def qu(W:World):ax:=λ b=>W.heap[b]?
def DT(W:World):Base:=⟨OsLater W.os,W.tape,W.output⟩
theorem aoZ(W:World):Fits (DT W) (qu W) [] W:=⟨λ _ _ h=>h,by simp,by simp,by simp,OsLater.refl _,rfl,rfl⟩
theorem ai6{W w:World}(h:(DT W).os w.os):(DT W).os w.later.os:=OsLater.trans h ⟨w.tick,rfl⟩
theorem aBy{P:Program}{PW:Value→World→Prop}{W:World}{g:Goroutine}(h:iB P (DT W) PW (qu W) [] g) :
  ∃ M last o w' t',runNT P (M+1) (solo g W) #[]=(.ended o w',t')∧runN P M (solo g W) = .next last∧step P last = .ended o w'∧Conc.Good P PW last o w' t':=by
 have nt:∀ k a,touchAt (#[]:Trace) k=some a→False:=λ k a hk=>by simp [touchAt,Trace.act?] at hk
 refine h #[g] W none #[] (λ _=>0) (λ _=>0) rfl ⟨⟨λ i x hx=>?_,λ i j x y tn hx hy=>?_,by simp,by simp⟩,⟨λ i x hx b o hb k a hk=>(nt k a hk).elim,λ i x hx b o hb k a hk=>(nt k a hk).elim,λ b hb=>(by cases hb),λ b hb=>(by cases hb),by simp,λ k a hk=>(nt k a hk).elim,λ i=>rfl,λ a i hi=>(by simp [Trace.act?] at hi),λ said=>?_,λ k a hk=>(nt k a hk).elim⟩,rfl,λ _ _=>rfl,λ i g' hi hg=>?_⟩
 ·unfold only at hx
  split at hx
  ·cases hx; exact aoZ W
  ·cases hx
 ·unfold only at hx hy
  split at hx
  ·split at hy
   ·omega
   ·cases hy
  ·cases hx
 ·rintro ⟨i,j,_,⟨a,b,h1,_⟩,_⟩
  exact nt i a h1
 ·have:i < 1:=(Array.getElem?_eq_some_iff.1 hg).1
  omega
theorem ai7{W w:World}{R:ax}{H:an}(h:Fits (DT W) R H w)(hR:aS (qu W) R):Below W.heap.size W { w with os:=W.os }:=by
 have hb:∀ k,k < W.heap.size→w.heap[k]? = W.heap[k]? := λ k hk=>by
  have e:W.heap[k]? = some W.heap[k]:=Array.getElem?_eq_getElem hk
  rw [e]
  exact h.r k _ (hR k _ e)
 refine ⟨rfl,h.tape,h.out,?_,hb⟩
 by_cases hz:W.heap.size=0
 ·omega
 ·have h1:=hb (W.heap.size - 1) (by omega)
  rw [Array.getElem?_eq_getElem (xs:=W.heap) (by omega)] at h1
  have:=(Array.getElem?_eq_some_iff.1 h1).1
  show W.heap.size≤w.heap.size
  omega
structure gJ (P:Program) (t:TypeId) {α:Type} (C:cB α) (k:Nat):Prop where
 size:P.cellsOf t=k
 rd:∀ (W:World) (T:Type) (enc:TypeId × Value→T) (sp:Nat→Bool) (held:Bool) (fuel:Nat) (cs:List Value) (x:DataW T × List MemPlace),DataW.trod enc P W 0 sp held fuel t cs=some x→cs.length=k∧∃ a,C (qu W) a cs
theorem gJ.int{P:Program}{t:TypeId}{kd:IntKind}(hs:P.cellsOf t=1)(ht:P.underlying t=some (.int kd)):gJ P t (CI kd) 1:=⟨hs,λ W T enc sp held fuel cs x h=>by
 obtain ⟨n,rfl,_,_⟩:=DataW.trod_int ht h
 exact ⟨rfl,n,rfl⟩⟩
theorem gJ.str{P:Program}{t:TypeId}(hs:P.cellsOf t=1)(ht:P.underlying t=some .string):gJ P t CS 1:=⟨hs,λ W T enc sp held fuel cs x h=>by
 obtain ⟨s,rfl,_,_⟩:=DataW.trod_string ht h
 exact ⟨rfl,s,rfl⟩⟩
theorem ahY(a:Addr)(i j:Nat)(h:a.spot=none):(a.add i).add j=⟨a.block,a.off+(i+j),none⟩:=by
 obtain ⟨b,o,s⟩:=a
 cases h
 rw [rB,rB,Nat.add_assoc]
theorem gJ.slice{P:Program}{t e:TypeId}{α:Type}{C:cB α}{k:Nat}(hs:P.cellsOf t=1)(ht:P.underlying t=some (.slice e))(hk:0 < k)(he:gJ P e C k):gJ P t (eU C k) 1:=⟨hs,λ W T enc sp held fuel cs x h=>by
 rcases DataW.trod_slice ht h with ⟨rfl,_⟩ | ⟨a,len,cap,elems,rest,n,_,rfl,_,_,hl,_,hlen,lF,_⟩
 ·exact ⟨rfl,[],_,rfl,aa.nil⟩
 refine ⟨rfl,?_⟩
 rw [he.size] at lF
 have each:∀ i:Fin len,∃ (p:α × List Value),C (qu W) p.1 p.2∧p.2.length=k∧∀ j w,p.2[j]? = some w→W.cell? ((a.add (i * k)).add j)=some w:=λ i=>by
  have h1:=lF i i.2
  rw [List.getElem?_eq_getElem (by omega),Option.bind_eq_some_iff] at h1
  obtain ⟨ch,h2,h3⟩:=h1
  obtain ⟨h4,y,hy⟩:=he.rd _ _ _ _ _ _ _ _ h3
  refine ⟨(y,ch),hy,h4,λ j w hj=>?_⟩
  have h5:=(World.cells?_some h2).2.2 j (by have:=(List.getElem?_eq_some_iff.1 hj).1; simp only at this; omega)
  rw [h5]
  exact hj
 have acg:0 < len→a.spot=none:=λ iR=>by
  obtain ⟨p,_,h2,h3⟩:=each ⟨0,iR⟩
  have h4:=h3 0 p.2[0] (List.getElem?_eq_getElem (by omega))
  simpa [Addr.add] using World.cell?_spot h4
 let f:Fin len→α × List Value:=λ i=>(each i).choose
 have hf:∀ i,_:=λ i=>(each i).choose_spec
 let xs:List α:=List.ofFn λ i=>(f i).1
 let es:List Value:=(List.range (len * k)).map λ m=>(W.cell? ⟨a.block,a.off+m,none⟩).getD undef
 have MU:xs.length=len:=by simp [xs]
 have cell:∀ i j w (hi:i < len),(f ⟨i,hi⟩).2[j]? = some w→W.cell? ⟨a.block,a.off+(i * k+j),none⟩=some w:=λ i j w hi hj=>by
  have:=(hf ⟨i,hi⟩).2.2 j w hj
  rwa [ahY _ _ _ (acg (by omega))] at this
 have idx:∀ i j,i < len→j < k→i * k+j < len * k:=λ i j hi hj=>by
  have:(i+1) * k≤len * k:=Nat.mul_le_mul_right k hi
  rw [Nat.add_mul] at this
  omega
 refine ⟨xs,_,rfl,some a,cap,es,by rw [MU],⟨by simp [es,MU],λ i x hx=>?_⟩,by omega,λ eH=>?_⟩
 ·have hi:i < len:=by rw [← MU]; exact (List.getElem?_eq_some_iff.1 hx).1
  have hxe:x=(f ⟨i,hi⟩).1:=by
   simp only [xs,List.getElem?_ofFn,hi,dif_pos,Option.some.injEq] at hx
   exact hx.symm
  subst hxe
  refine ⟨(f ⟨i,hi⟩).2,(hf ⟨i,hi⟩).1,(hf ⟨i,hi⟩).2.1,λ j w hj=>?_⟩
  have na:j < k:=by have:=(List.getElem?_eq_some_iff.1 hj).1; rw [(hf ⟨i,hi⟩).2.1] at this; exact this
  simp only [es,List.getElem?_map,List.getElem?_range (idx i j hi na),Option.map_some,cell i j w hi hj,Option.getD_some]
 ·have iR:0 < len:=by rw [← MU]; exact List.length_pos_iff.2 eH
  obtain ⟨b,o,s⟩:=a
  obtain rfl:s=none:=acg iR
  have all:∀ m,m < len * k→∃ w,W.cell? ⟨b,o+m,none⟩=some w:=λ m hm=>by
   have hi:m / k < len:=Nat.div_lt_of_lt_mul (by rw [Nat.mul_comm]; exact hm)
   have hj:m % k < (f ⟨m / k,hi⟩).2.length:=by rw [(hf ⟨m / k,hi⟩).2.1]; exact Nat.mod_lt _ hk
   have:=cell (m / k) (m % k) _ hi (List.getElem?_eq_getElem hj)
   rw [show m / k * k+m % k=m by rw [Nat.mul_comm]; exact Nat.div_add_mod m k] at this
   exact ⟨_,this⟩
  have h0:∃ arr e fz,W.heap[b]? = some (.cells arr e fz):=by
   obtain ⟨w,hw⟩:=all 0 (Nat.mul_pos iR hk)
   unfold World.cell? at hw
   simp only at hw
   split at hw
   ·rename_i c e' fz hb
    exact ⟨c,e',fz,hb⟩
   ·cases hw
  obtain ⟨arr,e',fz,hb⟩:=h0
  refine ⟨b,o,arr,e',fz,rfl,hb,λ j w hj=>?_⟩
  have Eg:j < len * k:=by have:=(List.getElem?_eq_some_iff.1 hj).1; simpa [es] using this
  obtain ⟨w',MK⟩:=all j Eg
  simp only [es,List.getElem?_map,List.getElem?_range Eg,Option.map_some,MK,Option.getD_some,Option.some.injEq] at hj
  subst hj
  simpa [World.cell?,hb] using MK⟩
theorem gJ.field{P:Program}{t:TypeId}{α:Type}{C:cB α}{k:Nat}(hC:gJ P t C k){W:World}{T:Type}{enc:TypeId × Value→T}{sp:Nat→Bool}{held:Bool}{n:Nat}{cs:List Value}{xs:List (DataW T × List MemPlace)}{i m:Nat}{f:Field}(es:List Value)(hx:xs.length=m)
  (h:DataW.trod enc P W 0 sp held n f.type ((cs.drop f.offset).take (P.cellsOf f.type))=xs[i]?) (hi:Nat.blt i m=true:=by rfl) (hf:f.type=t:=by rfl) (he:(cs.drop f.offset).take k=es:=by rfl):∃ a,C (qu W) a es:=by
 rw [hf,hC.size,he,List.getElem?_eq_getElem (by rw [hx]; simpa [Nat.blt_eq] using hi)] at h
 exact (hC.rd _ _ _ _ _ _ _ _ h).2
theorem ae1{T:Type}{enc:TypeId × Value→T}{P:Program}(hl:laidOutB P=true){W W':World}(hb:Below W.heap.size W W') :
  ∀ {ts:List TypeId} {vs:List Value} {ds:List (DataW T)} {ps:List MemPlace},(ts.all λ t=>P.readableRec t && decide (t < P.types.size))=true→DataW.TrodAll enc P W 0 (λ _=>true) true ts vs ds ps→(∀ x∈ps,x.block < W.heap.size) →
   DataW.TrodAll enc P W' 0 (λ b=>decide (b < W.heap.size)) true ts vs ds ps
 | [],[],[],_,_,h,_=>h
 | t::ts,v::vs,d::ds,_,hr,⟨p,q,h1,h2,e⟩,bE=>by
  subst e
  simp only [List.all_cons,Bool.and_eq_true,decide_eq_true_eq] at hr
  exact ⟨p,q,Below.trod hl hr.1.1 hr.1.2 h1 hb (λ x hx=>bE x (by simp [hx])),ae1 hl hb hr.2 h2 (λ x hx=>bE x (by simp [hx])),rfl⟩
 | [],[],_::_,_,_,h,_=>h.elim
 | [],_::_,_,_,_,h,_=>h.elim
 | _::_,[],_,_,_,h,_=>h.elim
 | _::_,_::_,[],_,_,h,_=>h.elim
theorem aFI{T:Type}{enc:TypeId × Value→T}{C:Checked}{os:Os}{f:FuncId}{fn:Func}{s:ChangeSpec}{conds:List PathCond}{apart:Bool}{X:World→Array Value→Prop}(w0:World)(args:Array Value)(fuel:Nat)(wU:w0.os=os)
  (bg:(w0.forCall (λ _ _=>0) ⟨#[],args,[]⟩).Shaped C.prog)
  (iQ:Input.okWideB C.prog (w0.forCall (λ _ _=>0) ⟨#[],args,[]⟩) f ⟨#[],args,[]⟩=true)
  (SW:s.preB enc C.prog fn conds apart (w0.forCall (λ _ _=>0) ⟨#[],args,[]⟩).memory args fuel=true)
  (fC:s.sizedB enc C.prog fn apart (w0.forCall (λ _ _=>0) ⟨#[],args,[]⟩).memory args fuel=true)
  (hx:X (w0.forCall (λ _ _=>0) ⟨#[],args,[]⟩).memory args) :
  ∃ (w:World) (tape:Tape) (i:Input),w.os=os∧(w.forCall tape i).Shaped C.prog∧i.vars=[]∧Input.okWide C.prog (w.forCall tape i) .any w.heap.size f i ∧
   ((s.pre enc C.prog fn conds apart (w.forCall tape i).memory i.args∧X (w.forCall tape i).memory i.args)∧sizedMet enc C.prog fn (OpenSpec.ofChange s) apart (w.forCall tape i).memory i.args)∧({ calm:=true }:Assume).holds C.prog (lone (Frame.enter C.prog f i.args .normal) [] (w.forCall tape i)) :=
 ⟨w0,λ _ _=>0,⟨#[],args,[]⟩,wU,bg,(Input.okWide_of_okWideB (base:=0) iQ).1,(Input.okWide_of_okWideB iQ).2,⟨⟨ChangeSpec.pre_of_preB SW,hx⟩,sizedMet_of_sizedB fC⟩,by
  simp only [Assume.holds]
  exact ⟨by simp,λ _ _ _ _=>rfl,by simp,by simp,by simp⟩⟩
theorem ayZ{T:Type}{enc:TypeId × Value→T}{a:Assume}{C:Checked}{os:Os}{f:FuncId}{fn:Func}{s:ChangeSpec}{F:Stop.Interp}{conds:List PathCond}{apart fresh handsOn:Bool}{X:World→Array Value→Prop}
  (hX:∀ (w w':World) (args:Array Value),w.heap=w'.heap→X w args→X w' args)
  (own:ownKnob C.prog.godebug=none) (started:os.Started) (Sr:C.prog.funcs[f]? = some fn)
  (witness:∃ (w:World) (tape:Tape) (i:Input),w.os=os∧(w.forCall tape i).Shaped C.prog∧i.vars=[]∧Input.okWide C.prog (w.forCall tape i) .any w.heap.size f i ∧
   ((s.pre enc C.prog fn conds apart (w.forCall tape i).memory i.args∧X (w.forCall tape i).memory i.args)∧sizedMet enc C.prog fn (OpenSpec.ofChange s) apart (w.forCall tape i).memory i.args)∧a.holds C.prog (lone (Frame.enter C.prog f i.args .normal) [] (w.forCall tape i)))
  (runs:∀ (W:World) (base:Nat) (args:Array Value) (ds gs:List (DataW T)) (before:List MemPlace),
   (∀ (j:Nat) t v,fn.params[j]? = some t→args[j]? = some v→Value.okWide C.prog W .any base t v) →
   DataW.Whole enc C.prog fn.params.toList s.vars apart W args.toList ds gs before→X W args →
   ∃ M last o w' t',runNT C.prog (M+1) (solo (aY (Frame.enter C.prog f args .normal) []) W) #[]=(.ended o w',t')∧runN C.prog M (solo (aY (Frame.enter C.prog f args .normal) []) W) = .next last ∧
    Go.step C.prog last = .ended o w'∧Conc.Good C.prog (λ v W'=>s.post enc C.prog fn apart fresh handsOn false W args v { W' with os:=W.os }∧OsLater W.os W'.os) last o w' t') :
  ReturnsInLeavingWide a C os f .any (λ w args=>(s.pre enc C.prog fn conds apart w args∧X w args)∧sizedMet enc C.prog fn (OpenSpec.ofChange s) apart w args) ((OpenSpec.ofChange s).postWith enc C.prog fn F (outsideKept [.timePasses]) apart fresh handsOn):=by
 refine returnsInLeavingWide_of_good own started witness ?_
 intro w tape i _ _ _ iQ SW _
 obtain ⟨_,_,_,D6,apf,_,_,_,_,BG⟩:=iQ
 have e:D6=fn:=Option.some.inj (apf.symm.trans Sr)
 subst e
 obtain ⟨⟨⟨ds,gs,before,hw,hc⟩,hx⟩,_⟩:=SW
 have MK:=DataW.Whole.of_heap (w':=w.forCall tape i) (by rfl) hw
 obtain ⟨M,last,o,w',t',h1,h2,h3,h4⟩:=runs (w.forCall tape i) w.heap.size i.args ds gs before BG MK (hX _ _ _ (by rfl) hx)
 exact ⟨M,last,o,w',t',h1,h2,h3,h4.mono λ v hp=>postWith_blind (postWith_of_post hp.1 hp.2)⟩
theorem aCy{T:Type}{enc:TypeId × Value→T}{P:Program}{fn:Func}{s:ChangeSpec}{apart fresh handsOn again:Bool}{W w:World}{args:Array Value}{ds gs:List (DataW T)}{before:List MemPlace}{tb:TypeId}
  (hl:laidOutB P=true) (hr:(fn.params.toList.all λ t=>P.readableRec t && decide (t < P.types.size))=true) (hv:s.vars=[]) (ard:fn.resultTypes=#[tb]) (htb:P.underlying tb=some .bool)
  (hW:DataW.Whole enc P fn.params.toList s.vars apart W args.toList ds gs before) (hag:again=false) (hb:Below W.heap.size W w)
  (h1:(s.fn T (ds++[])).results=[.lit (.bool true)]) (h2:(s.fn T (ds++[])).args=ds) (h3:(s.fn T (ds++[])).vars=[]):s.post enc P fn apart fresh handsOn again W args (.bool true) w:=by
 have Mf:=hW
 have bE:∀ x∈before,x.block < W.heap.size:=λ x hx=>by simpa using Mf.lt x hx
 obtain ⟨p,q,hA,hV,e,_,_⟩:=hW
 rw [hv] at hV
 obtain ⟨e1,e2⟩:=trodVars_none hV
 subst e1 e2 e
 refine ⟨ds,[],p++[],[],p,[],Mf,?_,?_,by rw [hv,h3]; rfl,hb.frame _,λ h=>by rw [hag] at h; cases h⟩
 ·rw [h1,ard]
  exact trodAll_mk1 (shut_bool htb true)
 ·rw [h2]
  exact ae1 hl hb hr hA (λ x hx=>bE x (by simp [hx]))
theorem ajs{W:World}{b o:Nat}{v:Value}(h:W.cell? ⟨b,o,none⟩=some v):Cell (qu W) [] ⟨b,o,none⟩ v:=by
 unfold World.cell? at h
 simp only at h
 split at h
 ·rename_i c e fz hb
  exact ⟨rfl,c,e,fz,.inl hb,by simpa using h⟩
 ·cases h
end Go.Lg
