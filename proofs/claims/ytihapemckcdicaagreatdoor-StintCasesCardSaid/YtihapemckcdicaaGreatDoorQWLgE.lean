/- What enters and leaves the machine; the run of a row. Conditions: none. -/
import Derived.Test.YtihapemckcdicaaGreatDoorQWLgC
import Derived.Test.YtihapemckcdicaaGreatDoorQWLgB
import Derived.Test.YtihapemckcdicaaGreatDoorQWLgD
import Derived.Conc.AtomicLaws2
import Derived.Conc.ClockLaws
import Derived.Conc.EventLaws
import Derived.Laws.LoneSync
import Derived.Conc.SmallLaws
import Derived.Conc.LeavingOf
import Derived.Conc.HoldsTime
import Derived.Handed
import Derived.LaidMore
import Derived.Below
import Derived.Carry
import Derived.SizedLaws
namespace Go.Lg
open Go.Conc Go.ConcN
structure gN (P:Program) (f:FuncId) (e:Array Value→Sem Value):Prop where
 ex:∃ fn,P.funcs[f]? = some fn∧(fn.name == "runtime.NumGoroutine")=false∧fn.body.isNone=true∧Extern.findNext fn=none∧Extern.find fn=some e
def nV(P:Program)(s:Sem Value)(f:FuncId)(w:World)(v:Value)(w':World)(nz:Array Event):Prop :=
 s.run P w = .ok v w'∧s.events P w #[⟨.mark (.extern f),false,true⟩]=#[⟨.mark (.extern f),false,true⟩]++nz∧∀ x∈nz,x.sync=true∧∀ g,x.loc ≠ .mark (.extern g)
section
variable {P:Program} {main:Bool} {c:Ctx} {st:St} {k:List Item} {ops:Array Oper} {i:Nat} {rest:List Nat} {o:Oper} {f:FuncId} {as:Array Operand} {iU:Array TypeId} {e:Array Value→Sem Value} {vs:List Value} {tmps:Array Value} {w w':World} {v:Value} {nz:Array Event}
theorem He{tmps:Array Value}(au:o.op = .call ⟨.value (.func f),as,iU⟩)(ht:de c.n st tmps)(ha:jw st as.toList=some vs):execOp (ba c tmps (.inRegion ops (i::rest)::k)).eval o=callFunc f vs.toArray:=by
 have hk:=ht.knows c (.inRegion ops (i::rest)::k)
 have ef:(ba c tmps (.inRegion ops (i::rest)::k)).eval (.func f) = .func (.func f) #[] #[]:=rfl
 have e2:as.map (ba c tmps (.inRegion ops (i::rest)::k)).eval=vs.toArray:=by apply Array.ext'; simpa using Dy hk _ _ ha
 unfold execOp
 simp [au,resolve,Deferred.ofValue,invoke,ef,e2]
theorem N6(ho:ops[i]? = some o)(hw:cX ops st o=some true)(gv:(c.kind == CallKind.early)=false)(au:o.op = .call ⟨.value (.func f),as,iU⟩)(hf:gN P f e)(ht:de c.n st tmps)(ha:jw st as.toList=some vs)(hE:nV P (e vs.toArray) f w v w' nz) :
  stepG P main (bc (ba c tmps (.inRegion ops (i::rest)::k)) c.cs) w = .go (bc (ba c (gb o.dst v tmps) (.inRegion ops rest::k)) c.cs) w' nz:=by
 obtain ⟨fn,h1,h2,h3,h4,h5⟩:=hf.ex
 obtain ⟨kV,ko,hs⟩:=hE
 rw [qN ho (ln ht hw) (by rw [au]; rfl),← rf (rest:=rest) (k:=k) (c:=c) (tmps:=tmps) (v:=v) ho,He au ht ha]
 have hr:(callFunc f vs.toArray).run P w = .ok (.value v) w':=by rw [run_callFunc_extern h1 h2 h3 h4 h5,kV]; rfl
 rw [Dx (by simpa [ba] using gv) hr]
 congr 1
 rw [events_callFunc_extern h1 h2 h3 h4 h5]
 simp only [List.push_toArray,List.nil_append]
 rw [ko,seen_entry _ _ _ hs]
theorem alB(ho:ops[i]? = some o)(hw:cX ops st o=some true)(au:o.op = .call ⟨.value (.func f),as,iU⟩)(hf:gN P f e)(ht:de c.n st tmps)(ha:jw st as.toList=some vs)(kV:(e vs.toArray).run P w = .halt .blocked w) :
  stepG P main (bc (ba c tmps (.inRegion ops (i::rest)::k)) c.cs) w = .go { bc (ba c tmps (.inRegion ops (i::rest)::k)) c.cs with status:=.blocked } w #[]:=by
 obtain ⟨fn,h1,h2,h3,h4,h5⟩:=hf.ex
 rw [qN ho (ln ht hw) (by rw [au]; rfl),He au ht ha]
 have hr:(callFunc f vs.toArray).run P w = .halt .blocked w:=by rw [run_callFunc_extern h1 h2 h3 h4 h5,kV]; rfl
 simp [stepG.apply,hr,bc,GStep.after,seen_none]
theorem aRJ(ho:ops[i]? = some o)(au:o.op = .call ⟨.value (.func f),as,iU⟩)(hf:gN P f e):mayWake P (bc (ba c tmps (.inRegion ops (i::rest)::k)) c.cs)=true:=by
 obtain ⟨fn,h1,_,h3,_⟩:=hf.ex
 have h3':fn.body.isSome=false:=by cases hb:fn.body <;> simp_all
 simp [mayWake,bc,ba,ho,au,Frame.eval,h1,h3']
end
section
variable {P:Program} {f:FuncId} {w:World} {ad:Addr} {k:IntKind}
theorem r7{m:Mark}(hm:∀ g,m ≠ .extern g):nV P (do mark m; pure Extern.Race.none_) f w (.tuple #[]) w (said m) :=
 ⟨by simp [Extern.Race.none_],by simp [said],λ x hx=>by
  simp [said] at hx; subst hx; exact ⟨rfl,λ g h=>hm g (by cases h; rfl)⟩⟩
theorem DN{mk:Addr→Mark}(hm:∀ ad g,mk ad ≠ .extern g){vs:List Value}(hv:vs[0]? = some (.pointer (some ad))):nV P (Extern.Race.marked mk vs.toArray) f w (.tuple #[]) w (said (mk ad)) :=
 ⟨by simp [Extern.Race.marked,Extern.Race.at_,hv,Extern.Race.none_],by simp [Extern.Race.marked,Extern.Race.at_,hv,said],λ x hx=>by
  simp [said] at hx; subst hx; exact ⟨rfl,λ g h=>hm ad g (Loc.mark.inj h)⟩⟩
def atR(ad:Addr):Array Event:=#[⟨.cell ad,false,true⟩]
def Ki(ad:Addr):Array Event:=#[⟨.cell ad,true,true⟩]
def Pk(ad:Addr):Array Event:=#[⟨.cell ad,false,true⟩,⟨.cell ad,true,true⟩]
theorem Hb{v n:Int}(hc:w.cell? ad=some (.int k v))(hz:w.frozen? ad=false):nV P (Extern.Atomic.casT (.int k) #[.pointer (some ad),.int k v,.int k n]) f w (.bool true) (w.setCell ad (.int k n)) (Pk ad) :=
 ⟨by rw [casT_eq]; exact run_cas_hit_entry hc hz,by rw [casT_eq,events_cas_hit_entry hc hz]; rfl,sync_rw ad⟩
theorem KE{v old n:Int}(hc:w.cell? ad=some (.int k v))(hz:w.frozen? ad=false)(cU:¬ v=old):nV P (Extern.Atomic.casT (.int k) #[.pointer (some ad),.int k old,.int k n]) f w (.bool false) w (atR ad) :=
 ⟨by rw [casT_eq]; exact run_cas_miss_entry hc hz cU,by rw [casT_eq,events_cas_miss_entry hc hz cU]; rfl,sync_r ad⟩
theorem Bz{v d:Int}(hc:w.cell? ad=some (.int k v))(hz:w.frozen? ad=false):nV P (Extern.Atomic.update (Op.intArith .add) k true #[.pointer (some ad),.int k d]) f w (.int k (k.wrap (v+d))) (w.setCell ad (.int k (k.wrap (v+d)))) (Pk ad) :=
 ⟨run_add_entry hc hz,by rw [events_add_entry hc hz]; rfl,sync_rw ad⟩
theorem P5{v:Int}(hc:w.cell? ad=some (.int k v)):nV P (Extern.Atomic.loadT (.int k) #[.pointer (some ad)]) f w (.int k v) w (atR ad):=by
 have e:Extern.Atomic.loadT (.int k) #[.pointer (some ad)]=(do Extern.Atomic.read (.int k) (← asAddr (.pointer (some ad)))):=rfl
 refine ⟨?_,?_,sync_r ad⟩
 ·rw [e]; simp [Extern.Atomic.read,asAddr,hc]
 ·rw [e]; simp [Extern.Atomic.read,asAddr,hc,events_load,atR]
theorem asZ{v:Int}{u:Value}(hc:w.cell? ad=some u)(hz:w.frozen? ad=false):nV P (Extern.Atomic.storeT #[.pointer (some ad),.int k v]) f w (.tuple #[]) (w.setCell ad (.int k v)) (Ki ad):=by
 have e:Extern.Atomic.storeT #[.pointer (some ad),.int k v]=(do store (← asAddr (.pointer (some ad))) (.int k v) .atomic; pure Extern.Atomic.none_):=rfl
 refine ⟨?_,?_,λ x hx=>by simp [Ki] at hx; subst hx; exact ⟨rfl,λ g h=>by cases h⟩⟩
 ·rw [e]; simp [asAddr,hc,hz,run_store P w ad (.int k v) .atomic rfl,Extern.Atomic.none_]
 ·rw [e]; simp [asAddr,hc,hz,events_store P w _ ad (.int k v) .atomic rfl,Ki]
theorem agN{n:Int}{vs:List Value}(hv:vs[0]? = some (.pointer (some ad)))(hc:w.cell? ad=some (.int .u32 n))(Ee:n≠0)(hz:w.frozen? ad=false):nV P (Extern.Sync.semacquire vs.toArray) f w (.tuple #[]) (w.setCell ad (.int .u32 (n - 1))) (semEvents ad) :=
 ⟨by simp [Extern.Sync.semacquire,Extern.Sync.count,hv,hc,Ee,hz,Extern.Sync.none_,run_store P w ad (.int .u32 (n - 1)) .atomic rfl,Result.andThen],
  by simp [Extern.Sync.semacquire,Extern.Sync.count,hv,hc,Ee,hz,semEvents,events_load,events_store P w _ ad (.int .u32 (n - 1)) .atomic rfl,run_store P w ad (.int .u32 (n - 1)) .atomic rfl,Result.evThen],semEvents_sync ad⟩
theorem aeB{vs:List Value}(hv:vs[0]? = some (.pointer (some ad)))(hc:w.cell? ad=some (.int .u32 0)):(Extern.Sync.semacquire vs.toArray).run P w = .halt .blocked w:=by
 simp [Extern.Sync.semacquire,Extern.Sync.count,hv,hc]
theorem Wk{n:Int}{vs:List Value}(hv:vs[0]? = some (.pointer (some ad)))(hc:w.cell? ad=some (.int .u32 n))(hz:w.frozen? ad=false):nV P (Extern.Sync.semrelease vs.toArray) f w (.tuple #[]) (w.setCell ad (.int .u32 (IntKind.u32.wrap (n+1)))) (semEvents ad) :=
 ⟨by simp [Extern.Sync.semrelease,Extern.Sync.count,hv,hc,hz,Extern.Sync.none_,Op.intArith,run_store P w ad (.int .u32 (IntKind.u32.wrap (n+1))) .atomic rfl,Result.andThen],
  by simp [Extern.Sync.semrelease,Extern.Sync.count,hv,hc,hz,semEvents,Op.intArith,events_load,events_store P w _ ad (.int .u32 (IntKind.u32.wrap (n+1))) .atomic rfl,run_store P w ad (.int .u32 (IntKind.u32.wrap (n+1))) .atomic rfl,Result.evThen],semEvents_sync ad⟩
theorem asY{n:Int}(h4:4≤n):nV P (Extern.Sync.canSpin #[.int k n]) f w (.bool false) w #[] :=
 ⟨by rw [canSpin_eq,if_pos h4]; rfl,by rw [canSpin_eq,if_pos h4]; rfl,by simp⟩
theorem agO{n:Int}(h4:n < 4):nV P (Extern.Sync.canSpin #[.int k n]) f w (.bool w.spins) w.asked #[]:=by
 have h4':¬ (n ≥ 4):=by omega
 exact ⟨by rw [canSpin_eq,if_neg h4']; rfl,by rw [canSpin_eq,if_neg h4']; rfl,by simp⟩
end
section
variable {F:Fx} {s s':Sh} {w:World}
theorem fS.cm(h:fS F s w):w.cell? (am F)=some (.int .i32 s.mu.val):=by simp [World.cell?,am,h.m,qy]
theorem fS.PK(h:fS F s w):w.cell? ⟨F.bm,1,none⟩=some (.int .u32 (s.ms:Int)):=by simp [World.cell?,h.m,qy]
theorem fS.cg(h:fS F s w):w.cell? (aw F)=some (.int .u64 (AR s)):=by simp [World.cell?,aw,h.g,qP]
theorem fS.PI(h:fS F s w):w.cell? (rW F)=some (.int .u32 (s.ws:Int)):=by simp [World.cell?,rW,h.g,qP]
theorem fS.zm(h:fS F s w)(i:Nat):w.frozen? ⟨F.bm,i,none⟩=false:=by simp [World.frozen?,h.m,qy]
theorem fS.zg(h:fS F s w)(i:Nat):w.frozen? ⟨F.bw,i,none⟩=false:=by simp [World.frozen?,h.g,qP]
theorem cJ.refl(h:fS F s w):cJ F s w w:=⟨rfl,λ _ _ _=>rfl,h,id,rfl,rfl⟩
theorem cJ.asked(h:fS F s w):cJ F s w w.asked:=⟨rfl,λ _ _ _=>rfl,⟨h.m,h.g⟩,id,rfl,rfl⟩
theorem cJ.later(h:fS F s w)(zw:F.B.os w.os→F.B.os w.later.os):cJ F s w w.later:=⟨rfl,λ _ _ _=>rfl,⟨h.m,h.g⟩,zw,rfl,rfl⟩
theorem ale{w:World}{a:Addr}{cs:Array Value}{t:TypeId}{v:Value}(h:w.heap[a.block]? = some (.cells cs t (0,0)))(ha:a.spot=none):w.setCell a v={ w with heap:=w.heap.setIfInBounds a.block (.cells (cs.setIfInBounds a.off v) t (0,0)) }:=by
 simp only [World.setCell]
 congr 1
 apply Array.ext_getElem?
 intro i
 rw [Array.getElem?_modify]
 by_cases hi:a.block=i
 ·subst hi
  rw [u6 (l9 h),h]
  simp [ha]
 ·simp [hi,nk hi]
theorem cJ.bm{v:Value}{i:Nat}(h:fS F s w)(ho:qy F.tm s' = .cells (#[.int .i32 s.mu.val,.int .u32 (s.ms:Int)].setIfInBounds i v) F.tm (0,0))(hg:qP F.tw s'=qP F.tw s):cJ F s' w (w.setCell ⟨F.bm,i,none⟩ v):=by
 rw [ale (a:=⟨F.bm,i,none⟩) h.m rfl]
 refine ⟨by simp,λ b h1 h2=>nk (Ne.symm h1),⟨?_,?_⟩,id,rfl,rfl⟩
 ·rw [ho]; exact u6 (l9 h.m)
 ·rw [hg]
  show (w.heap.setIfInBounds _ _)[F.bw]? = _
  rw [nk F.ho.1]; exact h.g
theorem cJ.bw{v:Value}{i:Nat}(h:fS F s w)(ho:qP F.tw s' = .cells (#[.int .u64 (AR s),.int .u32 (s.ws:Int)].setIfInBounds i v) F.tw (0,0))(hg:qy F.tm s'=qy F.tm s):cJ F s' w (w.setCell ⟨F.bw,i,none⟩ v):=by
 rw [ale (a:=⟨F.bw,i,none⟩) h.g rfl]
 refine ⟨by simp,λ b h1 h2=>nk (Ne.symm h2),⟨?_,?_⟩,id,rfl,rfl⟩
 ·rw [hg]
  show (w.heap.setIfInBounds _ _)[F.bm]? = _
  rw [nk (Ne.symm F.ho.1)]; exact h.m
 ·rw [ho]; exact u6 (l9 h.g)
theorem cJ.mu{m:Wd}(h:fS F s w):cJ F { s with mu:=m } w (w.setCell (am F) (.int .i32 m.val)):=cJ.bm h rfl rfl
theorem cJ.ms{n:Nat}(h:fS F s w):cJ F { s with ms:=n } w (w.setCell ⟨F.bm,1,none⟩ (.int .u32 (n:Int))):=cJ.bm h rfl rfl
theorem cJ.wg{v u:Nat}(h:fS F s w):cJ F { s with v:=v,w:=u } w (w.setCell (aw F) (.int .u64 (4294967296 * v+u))):=cJ.bw h rfl rfl
theorem cJ.ws{n:Nat}(h:fS F s w):cJ F { s with ws:=n } w (w.setCell (rW F) (.int .u32 (n:Int))):=cJ.bw h rfl rfl
theorem za{a:Addr}(h:a.block=F.bm∨a.block=F.bw):qV F (atR a):=.inl λ e he=>by simp [atR] at he; subst he; exact ⟨a,false,rfl,h⟩
theorem ap2{a:Addr}(h:a.block=F.bm∨a.block=F.bw):qV F (Ki a):=.inl λ e he=>by simp [Ki] at he; subst he; exact ⟨a,true,rfl,h⟩
theorem qZ{a:Addr}(h:a.block=F.bm∨a.block=F.bw):qV F (Pk a):=.inl λ e he=>by simp [Pk] at he; rcases he with rfl | rfl <;> exact ⟨a,_,rfl,h⟩
theorem qY:qV F #[]:=.inl λ e he=>by simp at he
theorem Kh{a:Addr}(h:a.block=F.bm∨a.block=F.bw):qV F (semEvents a):=.inr ⟨a,h,rfl⟩
end
section
variable {F:Fx} {c:Ctx} {R:az} {H:ah} {st:St} {kk:List Item} {ops:Array Oper} {i:Nat} {rest:List Nat} {o:Oper} {f:FuncId} {as:Array Operand} {iU:Array TypeId} {e:Array Value→Sem Value} {vs:List Value} {n k j:Nat} {T:Lp} {T0:Mp}
theorem KW.ext(ho:ops[i]? = some o)(hw:cX ops st o=some true)(gv:(c.kind == CallKind.early)=false)(au:o.op = .call ⟨.value (.func f),as,iU⟩)(hf:gN F.P f e)(ha:jw st as.toList=some vs)(hd:cB o.dst c.n)
  (h:rF F.N T→∀ w s,Fits F.B R H w→fS F s w→Fz F.N T s→okW F.N T s →
   ((∃ c,T = .s1 c)∧s.ms=0∧(e vs.toArray).run F.P w = .halt .blocked w) ∨
   ∃ v w' nz T' s',nV F.P (e vs.toArray) f w v w' nz∧dF T s T' s'∧AD F j T T'∧Hc F T nz∧cJ F s' w w'∧∀ bg,de c.n (cE o.dst v st) bg→y8 F (KW F n k) k j T T' R H (bc (ba c bg (.inRegion ops rest::kk)) c.cs)) :
  ∀ tmps,de c.n st tmps→KW F (n+1) k j T R H (bc (ba c tmps (.inRegion ops (i::rest)::kk)) c.cs):=by
 intro tmps ht ot
 refine ⟨rfl,rfl,λ _=>aRJ ho au hf,λ w s zr br zw mU=>?_⟩
 rcases h ot w s zr br zw mU with ⟨h1,h2,h3⟩ | ⟨v,w',nz,T',s',hE,h2,h3,h4,h5,h6⟩
 ·exact .inl ⟨h1,h2,alB ho hw au hf ht ha h3⟩
 ·exact .inr ⟨_,w',nz,T',s',h2,h3,h4,N6 ho hw gv au hf ht ha hE,h5,h6 _ (ht.put v hd)⟩
theorem KM.ext(ho:ops[i]? = some o)(hw:cX ops st o=some true)(gv:(c.kind == CallKind.early)=false)(au:o.op = .call ⟨.value (.func f),as,iU⟩)(hf:gN F.P f e)(ha:jw st as.toList=some vs)(hd:cB o.dst c.n)(h1:∀ r,T0 ≠ .go r)(h2:T0 ≠ .wq)
  (h:∀ w s,Fits F.B R H w→fS F s w→uy F.N T0 s→(T0 = .w3∧s.ws=0∧(e vs.toArray).run F.P w = .halt .blocked w) ∨
   ∃ v w' nz T' s',nV F.P (e vs.toArray) f w v w' nz∧gP T0 s T' s'∧DQ F T0 nz∧cJ F s' w w'∧∀ bg,de c.n (cE o.dst v st) bg→Own F.P F.B true (KM F n T') R H (bc (ba c bg (.inRegion ops rest::kk)) c.cs)) :
  ∀ tmps,de c.n st tmps→KM F (n+1) T0 R H (bc (ba c tmps (.inRegion ops (i::rest)::kk)) c.cs):=by
 intro tmps ht
 have key:∀ w s,Fits F.B R H w→fS F s w→uy F.N T0 s→(T0 = .w3∧s.ws=0∧stepG F.P true (bc (ba c tmps (.inRegion ops (i::rest)::kk)) c.cs) w = .go { bc (ba c tmps (.inRegion ops (i::rest)::kk)) c.cs with status:=.blocked } w #[]) ∨
   ∃ g' w' es T' s',gP T0 s T' s'∧DQ F T0 es∧stepG F.P true (bc (ba c tmps (.inRegion ops (i::rest)::kk)) c.cs) w = .go g' w' es∧cJ F s' w w'∧Own F.P F.B true (KM F n T') R H g':=λ w s zr br jG=>by
  rcases h w s zr br jG with ⟨h1,h2,h3⟩ | ⟨v,w',nz,T',s',hE,h3,h4,h5,h6⟩
  ·exact .inl ⟨h1,h2,alB ho hw au hf ht ha h3⟩
  ·exact .inr ⟨_,w',nz,T',s',h3,h4,N6 ho hw gv au hf ht ha hE,h5,h6 _ (ht.put v hd)⟩
 refine ⟨rfl,rfl,?_⟩
 cases T0 <;> first | exact absurd rfl (h1 _) | exact absurd rfl h2 | exact key
theorem KM.acq(ho:ops[i]? = some o)(hw:cX ops st o=some true)(gv:(c.kind == CallKind.early)=false)(au:o.op = .call ⟨.value (.func f),as,iU⟩)(hf:gN F.P f (Extern.Race.marked .acquire))(ha:jw st as.toList=some vs)(hv:vs[0]? = some (.pointer (some (aw F))))(hd:cB o.dst c.n)
  (h:∀ js,(∀ k,k < F.N→js k=F.J)→∀ bg,de c.n (cE o.dst (.tuple #[]) st) bg→F.mj R ((F.bo,F.cont js)::H) (bc (ba c bg (.inRegion ops rest::kk)) c.cs)) :
  ∀ tmps,de c.n st tmps→KM F (n+1) .wq R H (bc (ba c tmps (.inRegion ops (i::rest)::kk)) c.cs):=λ tmps ht =>
 ⟨rfl,rfl,λ w s _ br _=>⟨_,w,N6 ho hw gv au hf ht ha (DN (λ _ _=>by simp) hv),cJ.refl br,λ js iK=>h js iK _ (ht.put _ hd)⟩⟩
end
def ve(P:Program)(c:Ctx)(o:Oper)(st:St)(v:Value):Prop:=nG o.op=false∧cB o.dst c.n∧∀ ρ,Knows st ρ→ai P (execOp ρ o) (.value v)
section
variable {P:Program} {B:Base} {main:Bool} {ab:Jd P B main} {c:Ctx} {R:az} {H:ah} {st st':St} {k:List Item} {ops:Array Oper} {i:Nat} {rest:List Nat} {o:Oper} {v:Value} {x y z:Operand}
theorem At.val(ho:ops[i]? = some o)(hw:cX ops st o=some true)(hk:(c.kind == CallKind.early)=false)(hv:ve P c o st v)(hs:ay (cE o.dst v st) st')(h:At ab c R H st' (.inRegion ops rest::k)):At ab c R H st (.inRegion ops (i::rest)::k) :=
 At.jb ho hw hk (Ox.val hv.1 hv.2.1 hv.2.2 hs h)
theorem OV.move(au:o.op = .move x)(hd:cB o.dst c.n)(hx:bn st x=some v):ve P c o st v:=⟨by rw [au]; rfl,hd,λ ρ bl=>by simp only [execOp,au,bl x v hx]; exact ai.bL _⟩
theorem OV.assign(au:o.op = .assign x)(hd:cB o.dst c.n)(hx:bn st x=some v):ve P c o st v:=⟨by rw [au]; rfl,hd,λ ρ bl=>by simp only [execOp,au,bl x v hx]; exact ai.bL _⟩
theorem OV.aOX(au:o.op = .pick x y z)(hd:cB o.dst c.n)(hx:bn st x=some (.bool true))(hy:bn st y=some v):ve P c o st v:=⟨by rw [au]; rfl,hd,λ ρ bl=>by
 simp only [execOp,au,bl x _ hx,bl y v hy,asBool]; exact ai.bR (ai.bL true) (ai.bL _)⟩
theorem OV.aOW(au:o.op = .pick x y z)(hd:cB o.dst c.n)(hx:bn st x=some (.bool false))(hz:bn st z=some v):ve P c o st v:=⟨by rw [au]; rfl,hd,λ ρ bl=>by
 simp only [execOp,au,bl x _ hx,bl z v hz,asBool]; exact ai.bR (ai.bL false) (ai.bL _)⟩
theorem OV.nilCheck{a:Addr}(au:o.op = .nilCheck x)(hd:cB o.dst c.n)(hx:bn st x=some (.pointer (some a))):ve P c o st (.pointer (some a)):=⟨by rw [au]; rfl,hd,λ ρ bl=>by
 simp only [execOp,au,bl x _ hx]; exact ai.bR (ai.bL _) (ai.bL _)⟩
theorem OV.fieldAddr{s f off b n:Nat}(au:o.op = .fieldAddr s x f)(hd:cB o.dst c.n)(hx:bn st x=some (.pointer (some ⟨b,n,none⟩)))(hf:gO P s f off):ve P c o st (.pointer (some ⟨b,n+off,none⟩)):=⟨by rw [au]; rfl,hd,λ ρ bl=>by
 simp only [execOp,au,bl x _ hx]; exact ai.bR (hf b n) (ai.bL _)⟩
theorem OV.bin{bo:BinOp}{t u:TypeId}{ka kb:IntKind}{a b:Int}(au:o.op = .binOp bo t x y u)(hd:cB o.dst c.n)(hx:bn st x=some (.int ka a))(hy:bn st y=some (.int kb b))(hv:ai P (binOp bo t (.int ka a) (.int kb b)) v):ve P c o st v:=⟨by rw [au]; rfl,hd,λ ρ bl=>by
 simp only [execOp,au,bl x _ hx,bl y _ hy]; exact ai.bR (ai.bR (FX _ _ _ _ _ _ _ _) hv) (ai.bL _)⟩
theorem OV.not{t:TypeId}{a:Bool}(au:o.op = .unOp .not t x)(hd:cB o.dst c.n)(hx:bn st x=some (.bool a)):ve P c o st (.bool (!a)):=⟨by rw [au]; rfl,hd,λ ρ bl=>by
 simp only [execOp,au,bl x _ hx]; exact ai.bR (ai.bL _) (ai.bL _)⟩
end
structure QJ (P:Program) where
 Q:Goroutine→Prop
 step:∀ {g g':Goroutine},g.status = .running→(∀ w,stepG P false g w = .go g' w #[])→Q g'→Q g
def toJ(P:Program)(K:Goroutine→Prop):QJ P:=⟨λ g=>∃ q,Dq P K q g,λ hs h ⟨q,hq⟩=>⟨q+1,.inr ⟨hs,_,h,hq⟩⟩⟩
def Am(P:Program)(d:Nat):QJ P:=⟨λ g=>∃ q,QuitsD P q d g,λ hs h ⟨q,hq⟩=>⟨q+1,QuitsD.ctl hs h hq⟩⟩
section
variable {P:Program} (J:QJ P)
def aH(c:Ctx)(st:St)(todo:List Item):Prop:=∀ tmps,de c.n st tmps→J.Q (bc (ba c tmps todo) c.cs)
variable {J} {c:Ctx} {st st':St} {k:List Item} {ops:Array Oper} {i:Nat} {rest:List Nat} {o:Oper} {v:Value}
theorem aH.sub{todo:List Item}(hs:ay st st')(h:aH J c st' todo):aH J c st todo:=λ tmps ht=>h tmps (ht.sub hs)
theorem aH.skip(h:aH J c st k):aH J c st (.code .skip::k):=λ tmps ht=>J.step rfl (λ w=>by simp [stepG,stepG.exec,bc,ba]) (h tmps ht)
theorem aH.inBlock{id:Nat}(h:aH J c st k):aH J c st (.inBlock id::k):=λ tmps ht=>J.step rfl (λ w=>by simp [stepG,stepG.exec,bc,ba]) (h tmps ht)
theorem aH.seq{x y:Code}(h:aH J c st (.code x :: .code y::k)):aH J c st (.code (.seq x y)::k):=λ tmps ht=>J.step rfl (λ w=>by simp [stepG,stepG.exec,bc,ba]) (h tmps ht)
theorem aH.block{id:Nat}{x:Code}(h:aH J c st (.code x :: .inBlock id::k)):aH J c st (.code (.block id x)::k):=λ tmps ht=>J.step rfl (λ w=>by simp [stepG,stepG.exec,bc,ba]) (h tmps ht)
theorem aH.enterLoop{x:Code}(h:aH J c st (.code x :: .inLoop x::k)):aH J c st (.code (.loop x)::k):=λ tmps ht=>J.step rfl (λ w=>by simp [stepG,stepG.exec,bc,ba]) (h tmps ht)
theorem aH.inLoop{x:Code}(h:aH J c st (.code x :: .inLoop x::k)):aH J c st (.inLoop x::k):=λ tmps ht=>J.step rfl (λ w=>by simp [stepG,stepG.exec,bc,ba]) (h tmps ht)
theorem aH.exit{id:Nat}{k':List Item}(he:exitTo id k=some k')(h:aH J c st k'):aH J c st (.code (.exit id)::k):=λ tmps ht=>J.step rfl (λ w=>by simp [stepG,stepG.exec,bc,ba,he]) (h tmps ht)
theorem aH.region{id n:Nat}{is:List Nat}(hn:ops.size=n)(mT:List.range n=is)(h:aH J c st (.inRegion ops is::k)):aH J c st (.code (.region id ops false)::k):=by
 subst hn; subst mT
 exact λ tmps ht=>J.step rfl (λ w=>by simp [stepG,stepG.exec,bc,ba]) (h tmps ht)
theorem aH.aV(h:aH J c st k):aH J c st (.inRegion ops []::k):=λ tmps ht=>J.step rfl (λ w=>by simp [stepG,stepG.exec,bc,ba]) (h tmps ht)
theorem aH.fX{x:Operand}{th el:Code}(hx:bn st x=some (.bool true))(h:aH J c st (.code th::k)):aH J c st (.code (.cond x th el)::k):=λ tmps ht=>by
 have he:=ht.knows c (.code (.cond x th el)::k) x _ hx
 exact J.step rfl (λ w=>by simp only [ba] at he; simp [stepG,stepG.exec,bc,ba,he]) (h tmps ht)
theorem aH.eU{x:Operand}{th el:Code}(hx:bn st x=some (.bool false))(h:aH J c st (.code el::k)):aH J c st (.code (.cond x th el)::k):=λ tmps ht=>by
 have he:=ht.knows c (.code (.cond x th el)::k) x _ hx
 exact J.step rfl (λ w=>by simp only [ba] at he; simp [stepG,stepG.exec,bc,ba,he]) (h tmps ht)
theorem aH.unwanted(ho:ops[i]? = some o)(hw:cX ops st o=some false)(mi:cB o.dst c.n)(hs:ay (cE o.dst undef st) st')(h:aH J c st' (.inRegion ops rest::k)):aH J c st (.inRegion ops (i::rest)::k) :=
 λ _ ht=>J.step rfl (λ _=>acR ho (ln ht hw)) (h _ ((ht.put undef mi).sub hs))
theorem aH.val(ho:ops[i]? = some o)(hw:cX ops st o=some true)(hk:(c.kind == CallKind.early)=false)(hv:ve P c o st v)(hs:ay (cE o.dst v st) st')(h:aH J c st' (.inRegion ops rest::k)):aH J c st (.inRegion ops (i::rest)::k):=λ tmps ht=>by
 refine J.step rfl (λ w=>?_) (h _ ((ht.put v hv.2.1).sub hs))
 have hr:=hv.2.2 _ (ht.knows c (.inRegion ops (i::rest)::k)) w
 rw [qN ho (ln ht hw) hv.1,← rf (rest:=rest) (k:=k) (c:=c) (tmps:=tmps) (v:=v) ho,Dx (by simpa [ba] using hk) hr.1,hr.2]
 rfl
theorem aH.ext{f:FuncId}{as:Array Operand}{iU:Array TypeId}{e:Array Value→Sem Value}{vs:List Value}(ho:ops[i]? = some o)(hw:cX ops st o=some true)(hk:(c.kind == CallKind.early)=false)(au:o.op = .call ⟨.value (.func f),as,iU⟩)(hd:cB o.dst c.n)(hf:gN P f e)(ha:jw st as.toList=some vs)
  (hE:∀ w,nV P (e vs.toArray) f w v w #[]) (hs:ay (cE o.dst v st) st') (h:aH J c st' (.inRegion ops rest::k)):aH J c st (.inRegion ops (i::rest)::k):=λ _ ht =>
 J.step rfl (λ w=>N6 ho hw hk au hf ht ha (hE w)) (h _ ((ht.put v hd).sub hs))
theorem aH.enter{f:FuncId}{fn:Func}{body:Code}{as:Array Operand}{iU:Array TypeId}{vs:List Value}{n:Nat}(ho:ops[i]? = some o)(hw:cX ops st o=some true)(hk:(c.kind == CallKind.early)=false)(au:o.op = .call ⟨.value (.func f),as,iU⟩)(ha:jw st as.toList=some vs)
  (hf:P.funcs[f]? = some fn) (LV:(fn.name == "runtime.NumGoroutine")=false) (hb:fn.body=some body) (qn:fn.ntmps=n) (hn:Nat.ble vs.length n=true)
  (h:∀ tmps,de c.n st tmps→aH J ⟨f,.normal,none,n,[],ba c tmps (.inRegion ops (i::rest)::k)::c.cs⟩ (vg 0 vs) [.code body]):aH J c st (.inRegion ops (i::rest)::k):=λ tmps ht=>by
 have hv:ai P (execOp (ba c tmps (.inRegion ops (i::rest)::k)).eval o) (.enter f vs.toArray):=by
  rw [He au ht ha]
  exact FW hf LV (by rw [hb]; rfl)
 subst qn
 have zu:vs.length≤fn.ntmps:=by simpa [Nat.ble_eq] using hn
 have e:Frame.enter P f vs.toArray .normal=ba ⟨f,.normal,none,fn.ntmps,[],ba c tmps (.inRegion ops (i::rest)::k)::c.cs⟩ (vs.toArray++Array.replicate (fn.ntmps - vs.length) undef) [.code body]:=by
  simp [Frame.enter,ba,hf,hb]
 refine J.step rfl (λ w=>?_) (h tmps ht (vs.toArray++Array.replicate (fn.ntmps - vs.length) undef) ⟨by simp; omega,λ t v bp=>?_⟩)
 ·rw [qN ho (ln ht hw) (by rw [au]; rfl),Kf rfl (by simpa [ba] using hk) (hv w).1,(hv w).2,e]
  rfl
 ·obtain ⟨_,h2⟩:=Kg vs 0 t v bp
  have bS:t < vs.length:=by
   have:=(iF.1 h2).1
   simpa using this
  rw [Array.getElem?_append_left (by simpa using bS)]
  simpa using h2
def jL(c:Ctx)(tmps:Array Value)(todo:List Item):Frame:={ ba c tmps todo with mode:=.returning }
theorem QJ.back{fr:Frame}{cs:List Frame}{f:FuncId}{n:Nat}{fn:Func}{vs:List Value}{tmps:Array Value}{todo:List Item}(hf:P.funcs[f]? = some fn)(ht:de n st tmps)(hr:Ao st fn.results.toList=some vs)(hj:J.Q (bc (fr.finish (iO vs)) cs)) :
  J.Q (bc (jL ⟨f,.normal,none,n,[],fr::cs⟩ tmps todo) (fr::cs)) :=
 J.step rfl (λ w=>by
  have hv:=ac9 (P:=P) ht hr
  simp [jL,stepG,unwind,doReturn,bc,ba,hf,(hv w).1,(hv w).2,GStep.after,seen_none]) hj
theorem QJ.afe{fr:Frame}{cs:List Frame}{f:FuncId}{n:Nat}{fn:Func}{vs:List Value}{tmps:Array Value}{todo:List Item}(hf:P.funcs[f]? = some fn)(ht:de n st tmps)(hr:Ao st fn.results.toList=some vs)(hm:fr.mode = .returning∨fr.mode = .panicking [goexitEntry])(hj:J.Q (bc fr cs)) :
  J.Q (bc (jL ⟨f,.deferred,none,n,[],fr::cs⟩ tmps todo) (fr::cs)) :=
 J.step rfl (λ w=>by
  have hv:=ac9 (P:=P) ht hr
  rcases hm with hm | hm <;> simp [jL,stepG,unwind,doReturn,bc,ba,hf,(hv w).1,(hv w).2,GStep.after,seen_none,hm,goexitEntry]) hj
theorem aH.ret(kT:c.ro=none)(h:∀ tmps,de c.n st tmps→J.Q (bc (jL c tmps (.code .ret::k)) c.cs)):aH J c st (.code .ret::k):=λ tmps ht =>
 J.step rfl (λ w=>by simp [stepG,stepG.exec,bc,ba,jL,kT]) (h tmps ht)
theorem aH.V2(kT:c.ro=none)(h:∀ tmps,de c.n st tmps→J.Q (bc (jL c tmps []) c.cs)):aH J c st []:=λ tmps ht =>
 J.step rfl (λ w=>by simp [stepG,stepG.exec,bc,ba,jL,kT]) (h tmps ht)
theorem aH.resume{c':Ctx}{tmps:Array Value}(ho:ops[i]? = some o)(ht:de c.n st tmps)(hd:cB o.dst c.n)(hs:ay (cE o.dst v st) st')(h:aH J c st' (.inRegion ops rest::k))(_:c'.cs=ba c tmps (.inRegion ops (i::rest)::k)::c.cs) :
  J.Q (bc ((ba c tmps (.inRegion ops (i::rest)::k)).finish v) c.cs):=by
 rw [rf ho]
 exact h _ ((ht.put v hd).sub hs)
end
section
variable {P:Program} {B:Base} {main:Bool} {ab:Jd P B main} {c:Ctx} {R:az} {H:ah} {st st':St} {k:List Item} {ops:Array Oper} {i:Nat} {rest:List Nat} {o:Oper} {f:FuncId} {as:Array Operand} {iU:Array TypeId} {vs:List Value}
theorem step_defer{tmps:Array Value}{w:World}(ho:ops[i]? = some o)(hw:cX ops st o=some true)(gv:(c.kind == CallKind.early)=false)(kT:c.ro=none)(au:o.op = .defer ⟨.value (.func f),as,iU⟩)(ht:de c.n st tmps)(ha:jw st as.toList=some vs) :
  stepG P main (bc (ba c tmps (.inRegion ops (i::rest)::k)) c.cs) w = .go (bc (ba { c with defers:=dcall f vs.toArray::c.defers } (gb o.dst undef tmps) (.inRegion ops rest::k)) c.cs) w #[]:=by
 have hk:=ht.knows c (.inRegion ops (i::rest)::k)
 have ef:(ba c tmps (.inRegion ops (i::rest)::k)).eval (.func f) = .func (.func f) #[] #[]:=rfl
 have e2:as.map (ba c tmps (.inRegion ops (i::rest)::k)).eval=vs.toArray:=by apply Array.ext'; simpa using Dy hk _ _ ha
 have hr:(execOp (ba c tmps (.inRegion ops (i::rest)::k)).eval o).run P w = .ok (.defer (dcall f vs.toArray)) w:=by
  unfold execOp
  simp [au,resolve,Deferred.ofValue,ef,e2,dcall]
 have he:(execOp (ba c tmps (.inRegion ops (i::rest)::k)).eval o).events P w #[]=#[]:=by
  unfold execOp
  simp [au,resolve,Deferred.ofValue,ef]
 have hww:=ln ht hw
 obtain ⟨Hg,kind,ro,n,defers,cs⟩:=c
 simp only at kT gv
 subst kT
 have e0:stepG P main (bc (ba ⟨Hg,kind,none,n,defers,cs⟩ tmps (.inRegion ops (i::rest)::k)) cs) w=stepG.apply P true (ba ⟨Hg,kind,none,n,defers,cs⟩ tmps (.inRegion ops (i::rest)::k)) cs none (execOp (ba ⟨Hg,kind,none,n,defers,cs⟩ tmps (.inRegion ops (i::rest)::k)).eval o) w:=by
  simp [bc,stepG,stepG.exec,stepG.oper,Frame.oper?,ba,ho,hww]
 refine e0.trans ?_
 unfold stepG.apply
 rw [show (execOp (ba ⟨Hg,kind,none,n,defers,cs⟩ tmps (.inRegion ops (i::rest)::k)).eval o).runT P w #[]=(.ok (.defer (dcall f vs.toArray)) w,#[]) by rw [Sem.runT_eq,hr,he]]
 cases om:o.dst <;> simp [GStep.after,seen_none,bc,ba,Frame.finish,ho,om,gb,gv]
end
section
variable {F:Fx} {c:Ctx} {R:az} {H:ah} {st:St} {kk:List Item} {ops:Array Oper} {i:Nat} {rest:List Nat} {o:Oper} {n k j:Nat} {T:Lp} {T0:Mp}
theorem aQu{main:Bool}{t:TypeId}{x:Operand}{tmps:Array Value}{w:World}{s:Sh}(ho:ops[i]? = some o)(hw:cX ops st o=some true)(gv:(c.kind == CallKind.early)=false)(au:o.op = .load t x)(hx:bn st x=some (.pointer (some (am F))))(ht:de c.n st tmps)(YJ:gG F.P t)(hq:(F.P.funcs[c.fn]?).any (·.norace)=true)(br:fS F s w) :
  stepG F.P main (bc (ba c tmps (.inRegion ops (i::rest)::kk)) c.cs) w = .go (bc (ba c (gb o.dst (.int .i32 s.mu.val) tmps) (.inRegion ops rest::kk)) c.cs) w #[]:=by
 have hk:=ht.knows c (.inRegion ops (i::rest)::kk)
 have hR:(execOp (ba c tmps (.inRegion ops (i::rest)::kk)).eval o).run F.P w = .ok (.value (.int .i32 s.mu.val)) w∧(execOp (ba c tmps (.inRegion ops (i::rest)::kk)).eval o).events F.P w #[]=#[⟨.cell (am F),false,false⟩]:=by
  simp only [execOp,au,hk x _ hx]
  have h1:=YJ.1 w
  have hc:=br.cm
  constructor
  ·simp [Instr.loadAt,Instr.sureAddr,loadVar,h1.1,hc]
  ·simp [Instr.loadAt,Instr.sureAddr,loadVar,h1.1,h1.2,hc,events_load]
 rw [qN ho (ln ht hw) (by rw [au]; rfl),← rf (rest:=rest) (k:=kk) (c:=c) (tmps:=tmps) (v:=.int .i32 s.mu.val) ho,Dx (by simpa [ba] using gv) hR.1,hR.2]
 congr 1
 rw [seen_def]
 simp [seenStep,ba,hq]
theorem KW.look{t:TypeId}{x:Operand}(ho:ops[i]? = some o)(hw:cX ops st o=some true)(gv:(c.kind == CallKind.early)=false)(au:o.op = .load t x)(hx:bn st x=some (.pointer (some (am F))))(YJ:gG F.P t)(hq:(F.P.funcs[c.fn]?).any (·.norace)=true)(hd:cB o.dst c.n)(hu:T ≠ .us∧T ≠ .d4)
  (ko:∀ es,qV F es→Hc F T es)
  (h:rF F.N T→∀ s,Fz F.N T s→∃ T',dF T s T' s∧AD F j T T'∧∀ bg,de c.n (cE o.dst (.int .i32 s.mu.val) st) bg→y8 F (KW F n k) k j T T' R H (bc (ba c bg (.inRegion ops rest::kk)) c.cs)) :
  ∀ tmps,de c.n st tmps→KW F (n+1) k j T R H (bc (ba c tmps (.inRegion ops (i::rest)::kk)) c.cs):=by
 intro tmps ht ot
 refine ⟨rfl,rfl,λ e=>by rcases e with e | e; exact absurd e hu.1; exact absurd e hu.2,λ w s zr br zw mU=>.inr ?_⟩
 obtain ⟨T',h2,h3,h6⟩:=h ot s zw
 exact ⟨_,w,#[],T',s,h2,h3,ko _ qY,aQu ho hw gv au hx ht YJ hq br,cJ.refl br,h6 _ (ht.put _ hd)⟩
def GJ(P:Program)(src dst:TypeId):Prop:=∃ t,P.underlying src=some (.pointer t)∧P.underlying dst=some .unsafePointer∧(P.info? t).map (λ i=>decide (i.size=0))=some false
theorem alA{src dst:TypeId}{x:Operand}{a:Addr}{v:Value}{w:World}{main:Bool}{tmps:Array Value}(ho:ops[i]? = some o)(hw:cX ops st o=some true)(gv:(c.kind == CallKind.early)=false)(au:o.op = .convert src dst x)(hx:bn st x=some (.pointer (some a)))(ht:de c.n st tmps)(hu:GJ F.P src dst)(hc:w.cell? a=some v) :
  stepG F.P main (bc (ba c tmps (.inRegion ops (i::rest)::kk)) c.cs) w = .go (bc (ba c (gb o.dst (.pointer (some a)) tmps) (.inRegion ops rest::kk)) c.cs) w #[]:=by
 obtain ⟨t,u1,u2,u3⟩:=hu
 have hk:=ht.knows c (.inRegion ops (i::rest)::kk)
 have h1:=run_convert_to_unsafe u1 u2 u3 hc
 have h2:=events_convert_to_unsafe u1 u2 u3 hc #[]
 have hR:(execOp (ba c tmps (.inRegion ops (i::rest)::kk)).eval o).run F.P w = .ok (.value (.pointer (some a))) w∧(execOp (ba c tmps (.inRegion ops (i::rest)::kk)).eval o).events F.P w #[]=#[]:=by
  simp only [execOp,au,hk x _ hx]
  constructor
  ·simp [h1]
  ·simp [h2]
 rw [qN ho (ln ht hw) (by rw [au]; rfl),← rf (rest:=rest) (k:=kk) (c:=c) (tmps:=tmps) (v:=.pointer (some a)) ho,Dx (by simpa [ba] using gv) hR.1,hR.2,seen_none]
theorem KW.conv{src dst:TypeId}{x:Operand}{a:Addr}(ho:ops[i]? = some o)(hw:cX ops st o=some true)(gv:(c.kind == CallKind.early)=false)(au:o.op = .convert src dst x)(hx:bn st x=some (.pointer (some a)))(hu:GJ F.P src dst)(hd:cB o.dst c.n)
  (hc:∀ s w,fS F s w→∃ v,w.cell? a=some v) {T':Lp} (hT:T ≠ .us∧T ≠ .d4) (ko:Hc F T #[]) (dL:∀ s,dF T s T' s) (B4:AD F j T T')
  (h:∀ bg,de c.n (cE o.dst (.pointer (some a)) st) bg→y8 F (KW F n k) k j T T' R H (bc (ba c bg (.inRegion ops rest::kk)) c.cs)) :
  ∀ tmps,de c.n st tmps→KW F (n+1) k j T R H (bc (ba c tmps (.inRegion ops (i::rest)::kk)) c.cs):=by
 intro tmps ht ot
 refine ⟨rfl,rfl,λ e=>by rcases e with e | e; exact absurd e hT.1; exact absurd e hT.2,λ w s zr br zw mU=>.inr ?_⟩
 obtain ⟨v,hv⟩:=hc s w br
 exact ⟨_,w,#[],T',s,dL s,B4,ko,alA ho hw gv au hx ht hu hv,cJ.refl br,h _ (ht.put _ hd)⟩
theorem KM.conv{src dst:TypeId}{x:Operand}{a:Addr}{T0 T':Mp}(ho:ops[i]? = some o)(hw:cX ops st o=some true)(gv:(c.kind == CallKind.early)=false)(au:o.op = .convert src dst x)(hx:bn st x=some (.pointer (some a)))(hu:GJ F.P src dst)(hd:cB o.dst c.n)
  (hc:∀ s w,fS F s w→∃ v,w.cell? a=some v) (h1:∀ r,T0 ≠ .go r) (h2:T0 ≠ .wq) (ko:DQ F T0 #[]) (dL:∀ s,gP T0 s T' s)
  (h:∀ bg,de c.n (cE o.dst (.pointer (some a)) st) bg→Own F.P F.B true (KM F n T') R H (bc (ba c bg (.inRegion ops rest::kk)) c.cs)) :
  ∀ tmps,de c.n st tmps→KM F (n+1) T0 R H (bc (ba c tmps (.inRegion ops (i::rest)::kk)) c.cs):=by
 intro tmps ht
 have key:∀ w s,Fits F.B R H w→fS F s w→uy F.N T0 s→(T0 = .w3∧s.ws=0∧stepG F.P true (bc (ba c tmps (.inRegion ops (i::rest)::kk)) c.cs) w = .go { bc (ba c tmps (.inRegion ops (i::rest)::kk)) c.cs with status:=.blocked } w #[]) ∨
   ∃ g' w' es T' s',gP T0 s T' s'∧DQ F T0 es∧stepG F.P true (bc (ba c tmps (.inRegion ops (i::rest)::kk)) c.cs) w = .go g' w' es∧cJ F s' w w'∧Own F.P F.B true (KM F n T') R H g':=λ w s zr br jG=>by
  obtain ⟨v,hv⟩:=hc s w br
  exact .inr ⟨_,w,#[],T',s,dL s,ko,alA ho hw gv au hx ht hu hv,cJ.refl br,h _ (ht.put _ hd)⟩
 refine ⟨rfl,rfl,?_⟩
 cases T0 <;> first | exact absurd rfl (h1 _) | exact absurd rfl h2 | exact key
theorem U6:∀ s w,fS F s w→∃ v,w.cell? (am F)=some v:=λ _ _ h=>⟨_,h.cm⟩
theorem U7:∀ s w,fS F s w→∃ v,w.cell? (aw F)=some v:=λ _ _ h=>⟨_,h.cg⟩
theorem ae0:∀ s w,fS F s w→∃ v,w.cell? (rW F)=some v:=λ _ _ h=>⟨_,h.PI⟩
section
variable {P:Program} {B:Base} {main:Bool} {ab:Jd P B main} {tmps:Array Value} {todo:List Item} {f:FuncId} {ds:List Deferred} {args:Array Value}
theorem At.acY(kT:c.ro=none)(h:∀ tmps,de c.n st tmps→ab.J R H (bc (jL c tmps (.code .ret::kk)) c.cs)):At ab c R H st (.code .ret::kk):=λ tmps ht =>
 Jd.ctl rfl (λ w=>by simp [stepG,stepG.exec,bc,ba,jL,kT]) (h tmps ht)
theorem At.toEnd(kT:c.ro=none)(h:∀ tmps,de c.n st tmps→ab.J R H (bc (jL c tmps []) c.cs)):At ab c R H st []:=λ tmps ht =>
 Jd.ctl rfl (λ w=>by simp [stepG,stepG.exec,bc,ba,jL,kT]) (h tmps ht)
theorem Jd.unwind{fn:Func}(hd:c.defers=dcall f args::ds)(hf:P.funcs[f]? = some fn)(LV:(fn.name == "runtime.NumGoroutine")=false)(hb:fn.body.isNone=false)
  (h:ab.J R H (bc (Frame.enter P f args .deferred) (jL { c with defers:=ds } tmps todo::c.cs))):ab.J R H (bc (jL c tmps todo) c.cs):=by
 have hv:=FW (P:=P) (args:=args) hf LV hb
 refine Jd.ctl rfl (λ w=>?_) h
 simp [jL,bc,ba,stepG,Go.unwind,callDeferred,hd,dcall,invoke,(hv w).1,(hv w).2,GStep.after,seen_none]
theorem Jd.back{fr:Frame}{cs:List Frame}{g:FuncId}{m:Nat}{fn:Func}{vs:List Value}(hf:P.funcs[g]? = some fn)(ht:de m st tmps)(hr:Ao st fn.results.toList=some vs)(hj:ab.J R H (bc (fr.finish (iO vs)) cs)):ab.J R H (bc (jL ⟨g,.normal,none,m,[],fr::cs⟩ tmps todo) (fr::cs)):=by
 have hv:=ac9 (P:=P) ht hr
 refine Jd.ctl rfl (λ w=>?_) hj
 simp [jL,stepG,Go.unwind,doReturn,bc,ba,hf,(hv w).1,(hv w).2,GStep.after,seen_none]
theorem At.defer{as:Array Operand}{iU:Array TypeId}{vs:List Value}{st':St}(ho:ops[i]? = some o)(hw:cX ops st o=some true)(gv:(c.kind == CallKind.early)=false)(kT:c.ro=none)(au:o.op = .defer ⟨.value (.func f),as,iU⟩)(ha:jw st as.toList=some vs)(hd:cB o.dst c.n)(hs:ay (cE o.dst undef st) st')
  (h:At ab { c with defers:=dcall f vs.toArray::c.defers } R H st' (.inRegion ops rest::kk)):At ab c R H st (.inRegion ops (i::rest)::kk):=λ _ ht =>
 Jd.ctl rfl (λ _=>step_defer ho hw gv kT au ht ha) (h _ ((ht.put undef hd).sub hs))
theorem aH.defer{J:QJ P}{as:Array Operand}{iU:Array TypeId}{vs:List Value}{st':St}(ho:ops[i]? = some o)(hw:cX ops st o=some true)(gv:(c.kind == CallKind.early)=false)(kT:c.ro=none)(au:o.op = .defer ⟨.value (.func f),as,iU⟩)(ha:jw st as.toList=some vs)(hd:cB o.dst c.n)(hs:ay (cE o.dst undef st) st')
  (h:aH J { c with defers:=dcall f vs.toArray::c.defers } st' (.inRegion ops rest::kk)):aH J c st (.inRegion ops (i::rest)::kk):=λ _ ht =>
 J.step rfl (λ _=>step_defer ho hw gv kT au ht ha) (h _ ((ht.put undef hd).sub hs))
theorem alC{e:Array Value→Sem Value}{w w':World}{v:Value}{nz:Array Event}(hd:c.defers=dcall f args::ds)(hf:gN P f e)(hE:nV P (e args) f w v w' nz) :
  stepG P main (bc (jL c tmps todo) c.cs) w = .go (bc (jL { c with defers:=ds } tmps todo) c.cs) w' nz:=by
 obtain ⟨fn,h1,h2,h3,h4,h5⟩:=hf.ex
 obtain ⟨kV,ko,hs⟩:=hE
 have hr:(callFunc f args).run P w = .ok (.value v) w':=by rw [run_callFunc_extern h1 h2 h3 h4 h5,kV]; rfl
 have hl:seen P c.fn ((callFunc f args).events P w #[])=nz:=by
  rw [events_callFunc_extern h1 h2 h3 h4 h5]
  simp only [List.push_toArray,List.nil_append]
  rw [ko,seen_entry _ _ _ hs]
 simp [jL,bc,ba,stepG,Go.unwind,callDeferred,hd,dcall,invoke,hr,GStep.after] at hl ⊢
 exact hl
theorem aO7{d:Nat}(hd:c.defers=dcall f args::ds)(hf:gN P f (λ _=>do mark .enable; pure Extern.Race.none_))(h:∃ q,QuitsD P q (d - 1) (bc (jL { c with defers:=ds } tmps todo) c.cs)):∃ q,QuitsD P q d (bc (jL c tmps todo) c.cs):=by
 obtain ⟨q,hq⟩:=h
 exact ⟨q+1,QuitsD.said ⟨.mark .enable,false,true⟩ rfl rfl (λ w=>alC hd hf (r7 (by simp))) hq⟩
end
theorem KM.unwind{f:FuncId}{args:Array Value}{ds:List Deferred}{tmps:Array Value}{todo:List Item}{r:Nat}(hd:c.defers=dcall f args::ds)(hf:gN F.P f (λ _=>do mark .enable; pure Extern.Race.none_))
  (h:Own F.P F.B true (KM F n (.go r)) R H (bc (jL { c with defers:=ds } tmps todo) c.cs)):KM F (n+1) (.ke r) R H (bc (jL c tmps todo) c.cs) :=
 ⟨rfl,rfl,λ w s _ br _=>.inr ⟨_,w,_,_,s,.ke,rfl,alC hd hf (r7 (by simp)),cJ.refl br,h⟩⟩
section
variable {P:Program} {B:Base} {main:Bool}
def AS(P:Program):Frame:={ (default:Frame) with fn:=P.funcs.size,defers:=[],mode:=.panicking [goexitEntry] }
def Ku(P:Program)(d:Deferred):Goroutine:={ frame:={ (default:Frame) with fn:=P.funcs.size,defers:=[d],mode:=.panicking [goexitEntry] },callers:=[],status:=.running,dying:=none }
theorem aQK{cl:Call}{d:Deferred}{tmps:Array Value}{w:World}(ho:ops[i]? = some o)(hw:cX ops st o=some true)(au:o.op = .go cl)(ht:de c.n st tmps)(hr:∀ ρ,Knows st ρ→ai P (resolve ρ cl o.type) d)(hd:(d.target matches .nil)=false) :
  stepG P main (bc (ba c tmps (.inRegion ops (i::rest)::kk)) c.cs) w = .spawn (bc (ba c (gb o.dst undef tmps) (.inRegion ops rest::kk)) c.cs) (Ku P d) w #[]:=by
 rw [qN ho (ln ht hw) (by rw [au]; rfl)]
 have hk:=ht.knows c (.inRegion ops (i::rest)::kk)
 have:ai P (execOp (ba c tmps (.inRegion ops (i::rest)::kk)).eval o) (.spawn d):=by
  simp only [execOp,au]
  exact ai.bR (hr _ hk) (ai.bL _)
 have h:=this w
 rw [← rf (rest:=rest) (k:=kk) (c:=c) (tmps:=tmps) (v:=undef) ho]
 clear hr this
 obtain ⟨tg,apZ⟩:=d
 cases tg <;> simp_all [stepG.apply,bc,GStep.after,seen_none,Ku]
theorem Own.child{K:az→ah→Goroutine→Prop}{f:FuncId}{args:Array Value}{d:Deferred}(hd:(d.target matches .nil)=false)(hv:ai P (invoke d.target d.args) (.enter f args))(h:Own P B false K R H (bc (Frame.enter P f args .deferred) [AS P])):Own P B false K R H (Ku P d):=by
 refine (NO P B false K).step rfl λ w hw=>⟨_,w,#[],R,H,?_,by simp,gu.refl hw,h⟩
 have hc:(match d.target with | .collected _=>false | _=>true)=true:=by
  cases ht:d.target with
  | collected b =>
   rw [ht] at hv
   have:=(hv w).1
   simp [invoke] at this
  | _=>rfl
 have hvw:=hv w
 obtain ⟨tg,apZ⟩:=d
 simp only at hc hvw hd
 unfold stepG Ku
 simp only
 unfold Go.unwind
 cases tg with
 | collected b=>cases hc
 | _=>simp_all [callDeferred,Sem.runT_eq,GStep.after,seen_none,bc,AS]
theorem aQ4{f:FuncId}{captured args:Array Value}(he:bj P f):ai P (invoke (.fn (.func f) captured) args) (.enter f (args++captured)):=by
 obtain ⟨fn,h1,h2,h3⟩:=he.ex
 simp only [invoke]
 exact FW h1 h2 h3
theorem aPs{x:Operand}{cl:Call}{f:FuncId}{cap:Array Value}{t:TypeId}(hc:cl.callee = .value x)(ha:cl.args=#[])(hx:bn st x=some (.func (.func f) #[] cap))(ρ:Operand→Value)(bl:Knows st ρ):ai P (resolve ρ cl t) ⟨.fn (.func f) cap,#[]⟩:=by
 simp only [resolve,hc,ha,bl x _ hx,Deferred.ofValue]
 have e:(#[]:Array Value)++Array.map ρ #[]=#[]:=by simp
 rw [e]
 exact ai.bL _
theorem as1{f:FuncId}{fn:Func}{body:Code}{args:List Value}{m:Nat}{kd:CallKind}{cs:List Frame}(hf:P.funcs[f]? = some fn)(hb:fn.body=some body)(qn:fn.ntmps=m)(hn:Nat.ble args.length m=true) :
  ∃ tmps,de m (vg 0 args) tmps∧Frame.enter P f args.toArray kd=ba ⟨f,kd,none,m,[],cs⟩ tmps [.code body]:=by
 subst qn
 have hn:args.length≤fn.ntmps:=by simpa [Nat.ble_eq] using hn
 refine ⟨args.toArray++Array.replicate (fn.ntmps - args.length) undef,⟨by simp; omega,λ t v ht=>?_⟩,by simp [Frame.enter,ba,hf,hb]⟩
 obtain ⟨_,h2⟩:=Kg args 0 t v ht
 have bS:t < args.length:=by
  have:=(iF.1 h2).1
  simpa using this
 rw [Array.getElem?_append_left (by simpa using bS)]
 simpa using h2
theorem Jd.enter{ab:Jd P B main}{f:FuncId}{fn:Func}{body:Code}{args:List Value}{m:Nat}{kd:CallKind}{cs:List Frame}(hf:P.funcs[f]? = some fn)(hb:fn.body=some body)(qn:fn.ntmps=m)(hn:Nat.ble args.length m=true)
  (h:At ab ⟨f,kd,none,m,[],cs⟩ R H (vg 0 args) [.code body]):ab.J R H (bc (Frame.enter P f args.toArray kd) cs):=by
 obtain ⟨tmps,ht,e⟩:=as1 (kd:=kd) (cs:=cs) hf hb qn hn
 rw [e]; exact h tmps ht
theorem aO8:QuitsD P 1 0 (bc (AS P) []):=by
 refine .inr ⟨rfl,{ bc (AS P) [] with status:=.finished },#[],by simp,λ w=>?_,rfl,rfl⟩
 have e:(default:Frame).todo=[]:=rfl
 simp [stepG,Go.unwind,bc,AS,goexitEntry,Frame.catches,e]
end
theorem KM.spawn{cl:Call}{d:Deferred}{r:Nat}(ho:ops[i]? = some o)(hw:cX ops st o=some true)(au:o.op = .go cl)(hr:∀ ρ,Knows st ρ→ai F.P (resolve ρ cl o.type) d)(hd:(d.target matches .nil)=false)(mi:cB o.dst c.n)
  (hc:Own F.P F.B false (KW F n (F.N - (r+1)) 0 .ld) R [] (Ku F.P d)) (h:∀ bg,de c.n (cE o.dst undef st) bg→Own F.P F.B true (KM F n (lg r)) R H (bc (ba c bg (.inRegion ops rest::kk)) c.cs)) :
  ∀ tmps,de c.n st tmps→KM F (n+1) (.go r) R H (bc (ba c tmps (.inRegion ops (i::rest)::kk)) c.cs):=λ _ ht =>
 ⟨rfl,rfl,λ _ _ _ _ _=>⟨_,_,aQK ho hw au ht hr hd,hc,h _ (ht.put undef mi)⟩⟩
end
def s0:Sh:=⟨.zero,0,0,0,0⟩
theorem jr.crowd{F:Fx}{Post:Value→World→Prop}{R:az}{H0:ah}{g:Goroutine}{r:Nat}(tW:F.mj=jr F.P F.B Post)(hN:F.N=r+1)(h:∀ n,Own F.P F.B true (KM F n (.ka r)) R H0 g) :
  jr F.P F.B Post R ((F.bo,F.cont λ _=>0)::(F.bw,qP F.tw s0)::(F.bm,qy F.tm s0)::H0) g:=by
 intro gs w sl t q dd h0 hA
 have bS:=EP h0
 have hf:=hA.fits
 have dM:=hf.nd
 simp only [List.map_cons,List.nodup_cons,fR,not_or,List.mem_map,not_exists] at dM
 have mo:(F.bo,F.cont λ _=>0)∈(F.bo,F.cont λ _=>0)::(F.bw,qP F.tw s0)::(F.bm,qy F.tm s0)::H0:=by simp
 have mw:(F.bw,qP F.tw s0)∈(F.bo,F.cont λ _=>0)::(F.bw,qP F.tw s0)::(F.bm,qy F.tm s0)::H0:=by simp
 have mm:(F.bm,qy F.tm s0)∈(F.bo,F.cont λ _=>0)::(F.bw,qP F.tw s0)::(F.bm,qy F.tm s0)::H0:=by simp
 have out:∀ b,(b=F.bo∨b=F.bw∨b=F.bm)→R b=none∧∀ o',(b,o') ∉ H0:=λ b hb=>by
  rcases hb with rfl | rfl | rfl
  ·exact ⟨hf.dj _ _ mo,λ o' fA=>dM.1.2.2 (F.bo,o') ⟨fA,rfl⟩⟩
  ·exact ⟨hf.dj _ _ mw,λ o' fA=>dM.2.1.2 (F.bw,o') ⟨fA,rfl⟩⟩
  ·exact ⟨hf.dj _ _ mm,λ o' fA=>dM.2.2.1 (F.bm,o') ⟨fA,rfl⟩⟩
 have hc:∀ n,cnt (cL (λ _=>.no) 0 (.mn (.ka r))) n = .zero:=λ n=>by
  have z:∀ f:Cn→Nat,f .zero=0→dA n (λ i=>f (cA (cL (λ _=>.no) 0 (.mn (.ka r)) i)))=0:=λ f hf=>by
   have e:∀ i,f (cA (cL (λ _=>.no) 0 (.mn (.ka r)) i))=0:=λ i=>by
    unfold cL; split <;> exact hf
   have:=Ta (b:=0) (f:=λ i=>f (cA (cL (λ _=>.no) 0 (.mn (.ka r)) i))) (λ i=>by rw [e]; exact dD _) n
   omega
  unfold cnt
  simp only [z (·.ow) rfl,z (·.hl) rfl,z (·.pu) rfl,z (·.pc) rfl,z (·.al) rfl,z (·.z) rfl,z (·.a1) rfl,z (·.ak) rfl,z (·.ux) rfl,z (·.wk) rfl,z (·.lv) rfl,z (·.dw) rfl,z (·.d4) rfl]
  rfl
 have Ef:∀ i k j T,cL (λ _=>.no) 0 (.mn (.ka r)) i ≠ .wk k j T:=λ i k j T e=>by
  unfold cL at e; split at e <;> cases e
 have nB:Bk F (31 * (gs.size+F.N)+1) (.ka r) (cL (λ _=>.no) 0 (.mn (.ka r))) (λ _=>0) s0 gs.size:=by
  refine ⟨j0 _ _ _,by simp,bS,λ i hi=>fV (by omega),λ i T hT=>?_,?_,?_,λ i k j T e=>absurd e (Ef i k j T),λ i i' k j j' T T' e=>absurd e (Ef i k j T),λ k hk=>?_,λ k hk=>rfl,by simp only [rem,hN]; omega⟩
  ·apply Classical.byContradiction
   intro hn
   rw [fV hn] at hT; cases hT
  ·rw [hc]; constructor <;> simp [Cn.zero,s0,Wd.zero]
  ·rw [hc]; refine ⟨by simp [lD,Cn.zero,s0],by simp [Cn.zero,Cn.jZ],by simp [Cn.zero,Cn.jZ,rem,hN]⟩
  ·simp only [rem,hN] at hk; omega
 have hd0:=hA.d0
 obtain ⟨T,hT⟩:=h (MM F (31 * (gs.size+F.N)+1) (cL (λ _=>.no) 0 (.mn (.ka r))) s0 gs.size)
 refine MI.runs (F:=F) (Q:=31 * (gs.size+F.N)+1) (T0:=.ka r) (D:=cL (λ _=>.no) 0 (.mn (.ka r))) (m:=λ i=>if i=0 then some T else some (sX (q i))) (js:=λ _=>0) (s:=s0) (th:=only ⟨R,H0⟩) (mu:=λ _=>false) (dd:=dd) tW ⟨?_,?_,λ i x hx=>?_,λ i hi=>⟨?_,rfl,hA.dz i hi⟩,nB⟩
 ·rw [hc]
  have sub:∀ i x,only ⟨R,H0⟩ i=some x→i=0∧x=⟨R,H0⟩:=λ i x hx=>by
   unfold only at hx; split at hx
   ·cases hx; exact ⟨‹_›,rfl⟩
   ·cases hx
  refine ⟨λ i x hx=>?_,λ i j x y fY hx hy=>?_,λ c o Hw=>?_,λ c o Hw i x hx=>?_⟩
  ·obtain ⟨rfl,rfl⟩:=sub i x hx
   exact ⟨hf.r,λ b o hb=>hf.h b o (by simp [hb]),dM.2.2.2,λ b o hb=>hf.dj b o (by simp [hb]),hf.os,hf.tape,hf.out⟩
  ·obtain ⟨rfl,_⟩:=sub i x hx
   obtain ⟨rfl,_⟩:=sub j y hy
   exact absurd rfl fY
  ·rcases Fs Hw with ⟨rfl,rfl⟩ | ⟨rfl,rfl⟩ | ⟨rfl,rfl,_⟩
   ·exact hf.h _ _ mm
   ·exact hf.h _ _ mw
   ·exact hf.h _ _ mo
  ·obtain ⟨rfl,rfl⟩:=sub i x hx
   rcases Fs Hw with ⟨rfl,rfl⟩ | ⟨rfl,rfl⟩ | ⟨rfl,rfl,_⟩
   ·exact out _ (.inr (.inr rfl))
   ·exact out _ (.inr (.inl rfl))
   ·exact out _ (.inl rfl)
 ·rw [hc]
  refine dg.share (bs:=[F.bm,F.bw]) (b:=F.bo) hA.tr (λ c Hw=>?_) (λ x hx=>by simp [hx]) _ _
  simp only [fR,List.not_mem_nil,or_false] at Hw
  rcases Hw with rfl | rfl | rfl
  ·exact ⟨_,mo⟩
  ·exact ⟨_,mm⟩
  ·exact ⟨_,mw⟩
 ·by_cases hi:i=0
  ·subst hi
   rw [h0] at hx; cases hx
   rw [j0]
   exact ⟨rfl,hd0,rfl,⟨R,H0⟩,_,rfl,dD _,.inl ⟨T,by simp,hT⟩⟩
  ·rw [fV hi]
   refine ⟨by simp [only,hi],by omega,q i,by simp [hi],hA.lv i x (by omega) hx⟩
 ·have:i≠0:=by omega
  simp [only,this]
theorem aQA:∀ (l w s:Fin 2) (n:Fin 6),let v:Int:=(l.1:Int)+2 * w.1+4 * s.1+8 * n.1;
  fT .and .i32 v 1=some (l.1:Int)∧fT .and .i32 v 2=some (2 * w.1:Int)∧fT .and .i32 v 3=some ((l.1:Int)+2 * w.1)∧fT .and .i32 v 4=some (4 * s.1:Int)∧fT .and .i32 v 5=some ((l.1:Int)+4 * s.1) ∧
  fT .and .i32 v 7=some ((l.1:Int)+2 * w.1+4 * s.1)∧fT .or .i32 v 1=some (1+2 * w.1+4 * s.1+8 * n.1:Int)∧fT .or .i32 v 2=some ((l.1:Int)+2+4 * s.1+8 * n.1)∧fT .or .i32 v 4=some ((l.1:Int)+2 * w.1+4+8 * n.1) ∧
  fT .andNot .i32 v 2=some ((l.1:Int)+4 * s.1+8 * n.1)∧mD .i32 v 3=some (n.1:Int):=by decide +kernel
section
variable {m:Wd} (h:m.ok 5)
include h
theorem Wd.uJ:fT .and .i32 m.val 1=some (m.l:Int)∧fT .and .i32 m.val 2=some (2 * m.w:Int)∧fT .and .i32 m.val 3=some ((m.l:Int)+2 * m.w)∧fT .and .i32 m.val 4=some (4 * m.s:Int)∧fT .and .i32 m.val 5=some ((m.l:Int)+4 * m.s) ∧
  fT .and .i32 m.val 7=some ((m.l:Int)+2 * m.w+4 * m.s)∧fT .or .i32 m.val 1=some (Wd.val { m with l:=1 })∧fT .or .i32 m.val 2=some (Wd.val { m with w:=1 })∧fT .or .i32 m.val 4=some (Wd.val { m with s:=1 }) ∧
  fT .andNot .i32 m.val 2=some (Wd.val { m with w:=0 })∧mD .i32 m.val 3=some (m.n:Int):=by
 obtain ⟨l,w,s,n⟩:=m
 obtain ⟨h1,h2,h3,h4⟩:=h
 have:=aQA ⟨l,by simp only at h1; omega⟩ ⟨w,by simp only at h2; omega⟩ ⟨s,by simp only at h3; omega⟩ ⟨n,by simp only at h4; omega⟩
 simpa [Wd.val] using this
theorem Wd.fit:0≤m.val∧m.val≤47:=by
 obtain ⟨h1,h2,h3,h4⟩:=h
 unfold Wd.val; omega
end
theorem wrap_i32{z:Int}(h1 : -2147483648≤z)(h2:z≤2147483647):IntKind.i32.wrap z=z:=by
 unfold IntKind.wrap
 simp [IntKind.signed,IntKind.bits]
 omega
theorem wrap_u32{z:Int}(h1:0≤z)(h2:z≤4294967295):IntKind.u32.wrap z=z:=by
 unfold IntKind.wrap
 simp [IntKind.signed,IntKind.bits]
 omega
theorem amH{z:Int}(h1:0≤z)(h2:z≤18446744073709551615):IntKind.u64.wrap z=z:=by
 unfold IntKind.wrap
 simp [IntKind.signed,IntKind.bits]
 omega
theorem aRR{z:Int}(h1:4294967296≤z)(h2:z≤18446744073709551615):IntKind.u64.wrap (z+18446744069414584320)=z - 4294967296:=by
 unfold IntKind.wrap
 simp [IntKind.signed,IntKind.bits]
 omega
theorem aQz:∀ (v:Fin 6) (w:Fin 2),let z:Int:=4294967296 * (v.1:Int)+w.1;
  fT .and .u64 z 2147483648=some 0∧fT .and .u64 z 2147483647=some (w.1:Int)∧mD .u64 z 32=some (v.1:Int):=by decide +kernel
theorem adp{v w:Nat}(hv:v≤5)(hw:w≤1):fT .and .u64 (4294967296 * (v:Int)+w) 2147483648=some 0∧fT .and .u64 (4294967296 * (v:Int)+w) 2147483647=some (w:Int)∧mD .u64 (4294967296 * (v:Int)+w) 32=some (v:Int):=by
 simpa using aQz ⟨v,by omega⟩ ⟨w,by omega⟩
class vd (P:Program) where
 ki:Nat→Option IntKind
 ok:∀ t k,ki t=some k→P.underlying t=some (.int k)
def Vr(bo:BinOp)(kd:IntKind)(a b:Int):Option Value :=
 match bo with
 | .eql=>some (.bool (a == b))
 | .neq=>some (.bool (a != b))
 | .lss=>some (.bool (decide (a < b)))
 | .leq=>some (.bool (decide (a≤b)))
 | .gtr=>some (.bool (decide (a > b)))
 | .geq=>some (.bool (decide (a ≥ b)))
 | .add=>some (.int kd (kd.wrap (a+b)))
 | .sub=>some (.int kd (kd.wrap (a - b)))
 | .and=>some (.int kd ((fT .and kd a b).getD 0))
 | .or=>some (.int kd ((fT .or kd a b).getD 0))
 | .andNot=>some (.int kd ((fT .andNot kd a b).getD 0))
 | _=>none
def RO(fo:Nat→Nat→Option Nat)(ki:Nat→Option IntKind)(st:St)(o:Oper):Option Value :=
 match o.op with
 | .move x=>bn st x
 | .assign x=>bn st x
 | .nilCheck x=>match bn st x with
  | some (.pointer (some a))=>some (.pointer (some a))
  | _=>none
 | .pick x y z=>match bn st x with
  | some (.bool true)=>bn st y
  | some (.bool false)=>bn st z
  | _=>none
 | .unOp .not _ x=>match bn st x with
  | some (.bool a)=>some (.bool (!a))
  | _=>none
 | .binOp .shr _ x y _=>match bn st x,bn st y with
  | some (.int kd a),some (.int _ b)=>if b < 0 then none else some (.int kd (a.fdiv (2 ^ (min b.toNat kd.bits))))
  | _,_=>none
 | .binOp .shl _ x y _=>match bn st x,bn st y with
  | some (.int kd a),some (.int _ b)=>if b < 0 then none else some (.int kd (kd.wrap (a * 2 ^ (min b.toNat kd.bits))))
  | _,_=>none
 | .binOp bo _ x y _=>match bn st x,bn st y with
  | some (.int kd a),some (.int EM b)=>if kd=EM then Vr bo kd a b else none
  | _,_=>none
 | .convert s d x=>match bn st x,ki s,ki d with
  | some (.int _ a),some _,some kd=>some (.int kd (kd.wrap a))
  | _,_,_=>none
 | .fieldAddr s x f=>match bn st x,fo s f with
  | some (.pointer (some ⟨b,n,none⟩)),some off=>some (.pointer (some ⟨b,n+off,none⟩))
  | _,_=>none
 | _=>none
section
variable {P:Program} [ns P] [vd P] {B:Base} {main:Bool} {ab:Jd P B main} {J:QJ P} {c:Ctx} {R:az} {H:ah} {st st':St} {o:Oper} {k:List Item}
omit [ns P] [vd P] in
theorem alY{kd yk:IntKind}{a b:Int}{t:TypeId}(hb:¬ b < 0):ai P (binOp .shr t (.int kd a) (.int yk b)) (.int kd (a.fdiv (2 ^ (min b.toNat kd.bits))))∧ai P (binOp .shl t (.int kd a) (.int yk b)) (.int kd (kd.wrap (a * 2 ^ (min b.toNat kd.bits)))):=by
 constructor <;> (simp only [binOp,Op.shift,if_false,hb]; exact ai.bL _)
omit [ns P] [vd P] in
theorem aQW{bo:BinOp}{kd:IntKind}{a b:Int}{t:TypeId}{v:Value}(h:Vr bo kd a b=some v):ai P (binOp bo t (.int kd a) (.int kd b)) v:=by
 unfold Vr at h
 cases bo <;> simp only [jl,reduceCtorEq] at h <;> subst h <;> simp only [binOp,ne_eq,jo,if_false,Op.intArith,Op.intBits,fT,nm] <;> exact ai.bL _
theorem aja{v:Value}(h:RO (ns.off P) (vd.ki P) st o=some v)(hd:cB o.dst c.n):ve P c o st v:=by
 unfold RO at h
 split at h
 ·rename_i x au; exact OV.move au hd h
 ·rename_i x au; exact OV.assign au hd h
 ·rename_i x au
  split at h
  ·rename_i hx; cases h; exact OV.nilCheck au hd hx
  ·cases h
 ·rename_i x y z au
  split at h
  ·rename_i hx; exact OV.aOX au hd hx h
  ·rename_i hx; exact OV.aOW au hd hx h
  ·cases h
 ·rename_i t x au
  split at h
  ·rename_i hx; cases h; exact OV.not au hd hx
  ·cases h
 ·rename_i t x y u au
  split at h
  ·rename_i kd a EM b hx hy
   split at h
   ·cases h
   ·rename_i hb; cases h; exact OV.bin au hd hx hy (alY hb).1
  ·cases h
 ·rename_i t x y u au
  split at h
  ·rename_i kd a EM b hx hy
   split at h
   ·cases h
   ·rename_i hb; cases h; exact OV.bin au hd hx hy (alY hb).2
  ·cases h
 ·rename_i bo t x y u _ _ au
  split at h
  ·rename_i kd a EM b hx hy
   split at h
   ·rename_i e; subst e; exact OV.bin au hd hx hy (aQW h)
   ·cases h
  ·cases h
 ·rename_i s d x au
  split at h
  ·rename_i ks a k0 kd hx hs hk
   cases h
   refine ⟨by rw [au]; rfl,hd,λ ρ bl=>?_⟩
   simp only [execOp,au,bl x _ hx]
   refine ai.bR ?_ (ai.bL _)
   unfold convert
   exact ai.bR (ai.underlying (vd.ok _ _ hs)) (ai.bR (ai.underlying (vd.ok _ _ hk)) (ai.bL _))
  ·cases h
 ·rename_i s x f au
  split at h
  ·rename_i hx hf; cases h; exact OV.fieldAddr au hd hx (ns.ok s f _ hf)
  ·cases h
 ·cases h
def acS(fo:Nat→Nat→Option Nat)(ki:Nat→Option IntKind)(ops:Array Oper)(n:Nat)(st:St)(i:Nat):Option St :=
 match ops[i]? with
 | none=>none
 | some o=>match cX ops st o with
  | some true=>match RO fo ki st o,o.dst with
   | some v,some d=>if Nat.blt d n=true then some ((d,v)::st) else none
   | _,_=>none
  | some false=>match nG o.op,o.dst with
   | false,some d=>if Nat.blt d n=true then some ((d,undef)::st) else none
   | false,none=>some st
   | _,_=>none
  | none=>none
def td(fo:Nat→Nat→Option Nat)(ki:Nat→Option IntKind)(ops:Array Oper)(n:Nat):List Nat→St→Option St
 | [],st=>some st
 | i::is,st=>match acS fo ki ops n st i with
  | some st'=>td fo ki ops n is st'
  | none=>none
theorem alx{ops:Array Oper}{n i:Nat}{fo:Nat→Nat→Option Nat}{ki:Nat→Option IntKind}(h:acS fo ki ops n st i=some st'):∃ o,ops[i]? = some o ∧
  ((cX ops st o=some true∧∃ v d,RO fo ki st o=some v∧o.dst=some d∧cB (some d) n∧st'=(d,v)::st) ∨
   (cX ops st o=some false∧nG o.op=false∧cB o.dst n∧st'=cE o.dst undef st)):=by
 unfold acS at h
 split at h
 ·cases h
 ·rename_i o ho
  refine ⟨o,ho,?_⟩
  split at h
  ·rename_i hw
   split at h
   ·rename_i v d hv hd
    split at h
    ·rename_i hl; cases h; exact .inl ⟨hw,v,d,hv,hd,hl,rfl⟩
    ·cases h
   ·cases h
  ·rename_i hw
   split at h
   ·rename_i d mS hd
    split at h
    ·rename_i hl; cases h; exact .inr ⟨hw,mS,by rw [hd]; exact hl,by rw [hd]; rfl⟩
    ·cases h
   ·rename_i mS hd
    cases h; exact .inr ⟨hw,mS,by rw [hd]; rfl,by rw [hd]; rfl⟩
   ·cases h
  ·cases h
theorem At.td{ops:Array Oper}(hk:(c.kind == CallKind.early)=false):∀ {is rest:List Nat} {st:St},Go.Lg.td (ns.off P) (vd.ki P) ops c.n is st=some st'→At ab c R H st' (.inRegion ops rest::k)→At ab c R H st (.inRegion ops (is++rest)::k)
 | [],rest,st,h,ha=>by cases h; exact ha
 | i::is,rest,st,h,ha=>by
  unfold Go.Lg.td at h
  split at h
  ·rename_i m7 h1
   have ih:=At.td hk h ha
   obtain ⟨o,ho,⟨hw,v,d,hv,hd,hl,rfl⟩ | ⟨hw,mS,hl,rfl⟩⟩:=alx h1
   ·exact At.val ho hw hk (aja hv (by rw [hd]; exact hl)) (by rw [hd]; exact ay.refl _) ih
   ·exact At.unwanted ho hw hl (ay.refl _) ih
  ·cases h
theorem aH.td{ops:Array Oper}(hk:(c.kind == CallKind.early)=false):∀ {is rest:List Nat} {st:St},Go.Lg.td (ns.off P) (vd.ki P) ops c.n is st=some st'→aH J c st' (.inRegion ops rest::k)→aH J c st (.inRegion ops (is++rest)::k)
 | [],rest,st,h,ha=>by cases h; exact ha
 | i::is,rest,st,h,ha=>by
  unfold Go.Lg.td at h
  split at h
  ·rename_i m7 h1
   have ih:=aH.td hk h ha
   obtain ⟨o,ho,⟨hw,v,d,hv,hd,hl,rfl⟩ | ⟨hw,mS,hl,rfl⟩⟩:=alx h1
   ·exact aH.val ho hw hk (aja hv (by rw [hd]; exact hl)) (by rw [hd]; exact ay.refl _) ih
   ·exact aH.unwanted ho hw hl (ay.refl _) ih
  ·cases h
theorem At.lv(m:Nat){ops:Array Oper}{is sN:List Nat}(ha:At ab c R H st' (.inRegion ops sN::k))(h:Go.Lg.td (ns.off P) (vd.ki P) ops c.n (is.take m) st=some st':=by rfl)(hr:is.drop m=sN:=by rfl)(hk:(c.kind == CallKind.early)=false:=by rfl):At ab c R H st (.inRegion ops is::k):=by
 subst hr
 have:=At.td (rest:=is.drop m) hk h ha
 rwa [List.take_append_drop] at this
theorem aH.lv(m:Nat){ops:Array Oper}{is sN:List Nat}(ha:aH J c st' (.inRegion ops sN::k))(h:Go.Lg.td (ns.off P) (vd.ki P) ops c.n (is.take m) st=some st':=by rfl)(hr:is.drop m=sN:=by rfl)(hk:(c.kind == CallKind.early)=false:=by rfl):aH J c st (.inRegion ops is::k):=by
 subst hr
 have:=aH.td (rest:=is.drop m) hk h ha
 rwa [List.take_append_drop] at this
end
section
variable {P:Program} {B:Base} {main:Bool} {ab:Jd P B main} {J:QJ P} {c:Ctx} {R:az} {H:ah} {st st':St} {k:List Item}
theorem At.is(t:Nat){v v':Value}{todo:List Item}(hx:st.lookup t=some v)(hv:v=v')(h:At ab c R H ((t,v')::st) todo):At ab c R H st todo:=by
 subst hv
 refine At.sub (λ u x hu=>?_) h
 rw [List.lookup_cons] at hu
 split at hu
 ·rename_i e; rw [beq_iff_eq] at e; subst e; rw [hx]; exact hu
 ·exact hu
theorem aH.is(t:Nat){v v':Value}{todo:List Item}(hx:st.lookup t=some v)(hv:v=v')(h:aH J c ((t,v')::st) todo):aH J c st todo:=by
 subst hv
 refine aH.sub (λ u x hu=>?_) h
 rw [List.lookup_cons] at hu
 split at hu
 ·rename_i e; rw [beq_iff_eq] at e; subst e; rw [hx]; exact hu
 ·exact hu
theorem aH.rg(is:List Nat){id:Nat}{ops:Array Oper}(h:aH J c st (.inRegion ops is::k))(hn:ops.size=is.length:=by rfl)(mT:List.range is.length=is:=by rfl):aH J c st (.code (.region id ops false)::k):=aH.region hn mT h
def lC(P:Program)(J K:Goroutine→Prop)(f:FuncId)(vs:List Value):Prop :=
 ∀ fr cs,K (bc (Frame.finish fr (iO [])) cs)→J (bc (Frame.enter P f vs.toArray .normal) (fr::cs))
variable {ops:Array Oper} {i:Nat} {rest:List Nat} {o:Oper} {f:FuncId} {as:Array Operand} {iU:Array TypeId} {vs:List Value} {K:Goroutine→Prop}
theorem At.yl(ho:ops[i]? = some o)(hw:cX ops st o=some true)(gv:(c.kind == CallKind.early)=false)(au:o.op = .call ⟨.value (.func f),as,iU⟩)(ha:jw st as.toList=some vs)(he:bj P f)(hd:cB o.dst c.n)
  (hf:lC P (ab.J R H) K f vs) (h:∀ bg,de c.n (cE o.dst (iO []) st) bg→K (bc (ba c bg (.inRegion ops rest::k)) c.cs)):At ab c R H st (.inRegion ops (i::rest)::k):=λ tmps ht=>by
 obtain ⟨fn,h1,h2,h3⟩:=he.ex
 have hv:ai P (execOp (ba c tmps (.inRegion ops (i::rest)::k)).eval o) (.enter f vs.toArray):=by
  rw [He au ht ha]
  exact FW h1 h2 h3
 refine Jd.ctl rfl (λ w=>?_) (hf (ba c tmps (.inRegion ops (i::rest)::k)) c.cs ?_)
 ·rw [qN ho (ln ht hw) (by rw [au]; rfl),Kf rfl (by simpa [ba] using gv) (hv w).1,(hv w).2]
  rfl
 ·rw [rf ho]
  exact h _ (ht.put _ hd)
theorem lC.oZ{fn:Func}{body:Code}{n:Nat}(hf:P.funcs[f]? = some fn)(hb:fn.body=some body)(qn:fn.ntmps=n)(hn:Nat.ble vs.length n=true)
  (h:∀ fr cs,K (bc (Frame.finish fr (iO [])) cs)→At ab ⟨f,.normal,none,n,[],fr::cs⟩ R H (vg 0 vs) [.code body]):lC P (ab.J R H) K f vs:=λ fr cs hk=>Jd.enter hf hb qn hn (h fr cs hk)
theorem At.q8{m:Nat}{fn:Func}{fr:Frame}{cs:List Frame}{todo:List Item}(hf:P.funcs[f]? = some fn)(hr:fn.results.toList=[])(hj:ab.J R H (bc (fr.finish (iO [])) cs))(hm:todo=[]∨∃ k,todo = .code .ret::k):At ab ⟨f,.normal,none,m,[],fr::cs⟩ R H st todo:=by
 have key:∀ tmps todo,de m st tmps→ab.J R H (bc (jL ⟨f,.normal,none,m,[],fr::cs⟩ tmps todo) (fr::cs)):=λ tmps todo ht=>Jd.back hf ht (by rw [hr]; rfl) hj
 rcases hm with rfl | ⟨k,rfl⟩
 ·exact At.toEnd rfl λ tmps ht=>key tmps _ ht
 ·exact At.acY rfl λ tmps ht=>key tmps _ ht
end
section
variable {P:Program} {main:Bool} {c:Ctx} {st:St} {k:List Item} {ops:Array Oper} {i:Nat} {rest:List Nat} {o:Oper} {f:FuncId} {as:Array Operand} {iU:Array TypeId} {vs:List Value}
theorem aQv{tmps:Array Value}{w:World}(ho:ops[i]? = some o)(hw:cX ops st o=some true)(gv:(c.kind == CallKind.early)=false)(au:o.op = .call ⟨.value (.func f),as,iU⟩)(hf:gN P f Extern.OsHooks.nano)(hq:(P.funcs[f]?).any (·.norace)=true)(ht:de c.n st tmps)(ha:jw st as.toList=some vs) :
  stepG P main (bc (ba c tmps (.inRegion ops (i::rest)::k)) c.cs) w = .go (bc (ba c (gb o.dst (.int .i64 ((w.os.mono+w.tick:Nat):Int)) tmps) (.inRegion ops rest::k)) c.cs) w.later #[]:=by
 obtain ⟨fn,h1,h2,h3,h4,h5⟩:=hf.ex
 have kV:(Extern.OsHooks.nano vs.toArray).run P w = .ok (.int .i64 ((w.os.mono+w.tick:Nat):Int)) w.later:=rfl
 rw [qN ho (ln ht hw) (by rw [au]; rfl),← rf (rest:=rest) (k:=k) (c:=c) (tmps:=tmps) (v:=.int .i64 ((w.os.mono+w.tick:Nat):Int)) ho,He au ht ha]
 have hr:(callFunc f vs.toArray).run P w = .ok (.value (.int .i64 ((w.os.mono+w.tick:Nat):Int))) w.later:=by rw [run_callFunc_extern h1 h2 h3 h4 h5,kV]; rfl
 rw [Dx (by simpa [ba] using gv) hr]
 congr 1
 rw [events_callFunc_extern h1 h2 h3 h4 h5]
 simp only [List.push_toArray,List.nil_append]
 have ko:(Extern.OsHooks.nano vs.toArray).events P w #[⟨.mark (.extern f),false,true⟩]=#[⟨.mark (.extern f),false,true⟩]++#[⟨.output,true,false⟩]:=rfl
 rw [ko,seen_entry_out _ _ hq]
end
section
variable {F:Fx} {c:Ctx} {R:az} {H:ah} {st:St} {kk:List Item} {ops:Array Oper} {i:Nat} {rest:List Nat} {o:Oper} {f:FuncId} {as:Array Operand} {iU:Array TypeId} {vs:List Value} {n k j:Nat} {T:Lp}
theorem KW.nano(hB:∀ w:World,F.B.os w.os→F.B.os w.later.os)(ho:ops[i]? = some o)(hw:cX ops st o=some true)(gv:(c.kind == CallKind.early)=false)(au:o.op = .call ⟨.value (.func f),as,iU⟩)(hf:gN F.P f Extern.OsHooks.nano)(hq:(F.P.funcs[f]?).any (·.norace)=true)(ha:jw st as.toList=some vs)(hd:cB o.dst c.n)
  (hT:T ≠ .us∧T ≠ .d4) (ko:Hc F T #[])
  (h:rF F.N T→∀ z:Int,∃ T',(∀ s,dF T s T' s)∧AD F j T T'∧∀ bg,de c.n (cE o.dst (.int .i64 z) st) bg→y8 F (KW F n k) k j T T' R H (bc (ba c bg (.inRegion ops rest::kk)) c.cs)) :
  ∀ tmps,de c.n st tmps→KW F (n+1) k j T R H (bc (ba c tmps (.inRegion ops (i::rest)::kk)) c.cs):=by
 intro tmps ht ot
 refine ⟨rfl,rfl,λ e=>by rcases e with e | e; exact absurd e hT.1; exact absurd e hT.2,λ w s zr br zw mU=>.inr ?_⟩
 obtain ⟨T',h1,h2,h3⟩:=h ot ((w.os.mono+w.tick:Nat):Int)
 exact ⟨_,w.later,#[],T',s,h1 s,h2,ko,aQv ho hw gv au hf hq ht ha,cJ.later br (hB w),h3 _ (ht.put _ hd)⟩
end
section
variable {F:Fx} {c:Ctx} {R:az} {H:ah} {st:St} {todo:List Item} {n k j:Nat} {T T':Lp} {T0:Mp}
theorem At.aQx(h:∀ m,m < n→∀ tmps,de c.n st tmps→KW F (m+1) k j T R H (bc (ba c tmps todo) c.cs)):At (NO F.P F.B false (KW F n k j T)) c R H st todo:=λ tmps ht=>by
 cases n with
 | zero=>exact Own.stop _ _ _ _ trivial
 | succ n=>exact Own.stop _ _ _ _ (h n (Nat.lt_succ_self n) tmps ht)
theorem At.aQw(h:∀ m,m < n→∀ tmps,de c.n st tmps→KM F (m+1) T0 R H (bc (ba c tmps todo) c.cs)):At (NO F.P F.B true (KM F n T0)) c R H st todo:=λ tmps ht=>by
 cases n with
 | zero=>exact Own.stop _ _ _ _ trivial
 | succ n=>exact Own.stop _ _ _ _ (h n (Nat.lt_succ_self n) tmps ht)
theorem pU(h:T ≠ .ue):AD F j T T':=by unfold AD; split <;> first | trivial | exact absurd rfl h
theorem axl(c:Lc):hd c = .sq c∨hd c = .c2 c:=by unfold hd; split; exact .inl rfl; exact .inr rfl
theorem aQa(c:Lc):jN c = .c1 c∨jN c = .r1 c:=by unfold jN; split; exact .inl rfl; exact .inr rfl
theorem aEN(m:Wd):hu m = .ue∨hu m = .uc m:=by unfold hu; split; exact .inl rfl; exact .inr rfl
theorem So{K:Nat→Lp→az→ah→Goroutine→Prop}{c:Lc}{g:Goroutine}(h:Own F.P F.B false (K j (hd c)) R H g):y8 F K k j T (hd c) R H g:=by rcases axl c with e | e <;> rw [e] at h ⊢ <;> exact h
theorem aNS{K:Nat→Lp→az→ah→Goroutine→Prop}{c:Lc}{g:Goroutine}(h:Own F.P F.B false (K j (jN c)) R H g):y8 F K k j T (jN c) R H g:=by rcases aQa c with e | e <;> rw [e] at h ⊢ <;> exact h
theorem akf{K:Nat→Lp→az→ah→Goroutine→Prop}{m:Wd}{g:Goroutine}(h:Own F.P F.B false (K j (hu m)) R H g):y8 F K k j T (hu m) R H g:=by rcases aEN m with e | e <;> rw [e] at h ⊢ <;> exact h
end
section
variable {P:Program} {B:Base} {main:Bool} {ab:Jd P B main} {c:Ctx} {R:az} {H:ah} {st st':St} {k:List Item} {ops:Array Oper} {i:Nat} {rest:List Nat} {o:Oper} {f:FuncId} {as:Array Operand} {iU:Array TypeId} {e:Array Value→Sem Value} {vs:List Value} {v:Value}
theorem At.ext(ho:ops[i]? = some o)(hw:cX ops st o=some true)(gv:(c.kind == CallKind.early)=false)(au:o.op = .call ⟨.value (.func f),as,iU⟩)(hd:cB o.dst c.n)(hf:gN P f e)(ha:jw st as.toList=some vs)
  (hE:∀ w,nV P (e vs.toArray) f w v w #[]) (hs:ay (cE o.dst v st) st') (h:At ab c R H st' (.inRegion ops rest::k)):At ab c R H st (.inRegion ops (i::rest)::k):=λ _ ht =>
 Jd.ctl rfl (λ w=>N6 ho hw gv au hf ht ha (hE w)) (h _ ((ht.put v hd).sub hs))
theorem Wj{w:World}:nV P (pure v) f w v w #[]:=⟨rfl,rfl,by simp⟩
theorem At.join{x:Operand}{th el:Code}{b:Bool}(hx:bn st x=some (.bool b))(h1:b=true→At ab c R H st' k→At ab c R H st (.code th::k))(h2:b=false→At ab c R H st' k→At ab c R H st (.code el::k))(h:At ab c R H st' k):At ab c R H st (.code (.cond x th el)::k):=by
 cases b
 ·exact At.eU hx rfl (h2 rfl h)
 ·exact At.fX hx rfl (h1 rfl h)
theorem At.head{X:Type}{Jn:Nat→X→Jd P B main}{S:X→St}{ok:X→Prop}{todo:List Item}(step:∀ n,(∀ m,m < n→∀ x,ok x→At (Jn m x) c R H (S x) todo)→∀ x,ok x→At (Jn n x) c R H (S x) todo)(n:Nat)(x:X)(hx:ok x):At (Jn n x) c R H (S x) todo:=by
 induction n using Nat.strongRecOn generalizing x with
 | _ n ih=>exact step n (λ m hm x hx=>ih m hm x hx) x hx
end
open Go.ChangeShapes Go.RowKit
open Go.ConcM (OsLater)
section
variable {P:Program} {B:Base} {PW:Value→World→Prop} {R:az} {H:ah} {st:St} {k:List Item}
theorem jr.arn{g:Goroutine}(hs:g.status = .running)(h:∀ w,Fits B R H w→∃ v w' es R' H',stepG P true g w = .ended (.done v) w' es∧(∀ e∈es,iG R H w.heap.size w'.heap.size e)∧gu B R H w R' H' w'∧PW v w'):jr P B PW R H g:=by
 refine jr.pick hs λ gs w sl rM d t q dd h0 hA dc=>?_
 obtain ⟨v,w',es,R',H',h1,h2,hu,h3⟩:=h _ hA.fits
 have L2:=runT_many_ended (P:=P) (sl:=rM) (i:=0) h0 (show stepG P (0 == 0) g (w.at d)=_ from h1)
 have Q0:=NQ hA.mem ab7 ab6 hA.tr (i:=0) rfl (.inl rfl) h2 (.inl rfl) hu g.frame.fn g.frame.place
 rw [Sw] at Q0
 refine lX.end (dc.trans L2) ⟨v,rfl,h3,Q0.2.clean,Q0.2.handed,⟨λ x hx=>?_,rfl⟩,λ j x hx hj=>?_⟩
 ·obtain ⟨j,hj⟩:=List.mem_iff_getElem?.1 hx
  rw [List.getElem?_drop] at hj
  exact ⟨_,(hA.lv (1+j) x (by omega) (by simpa [Go.Conc.crowd] using hj)).leaves⟩
 ·have hq:=hA.lv j x (by omega) hx
  refine ⟨q j,?_⟩
  have e:Trace.deaf _ j _=dd j:=Q0.2.deaf j
  rw [e]
  exact hq.hears _
def Pe(P:Program)(B:Base)(PW:Value→World→Prop)(f:FuncId)(args:Array Value)(R:az)(H:ah)(Post:Value→az→ah→Prop):Prop :=
 (∀ v R' H' w,Post v R' H'→Fits B R' H' w→PW v w)→jr P B PW R H (bc (Frame.enter P f args .normal) [])
theorem Pe.oZ{f:FuncId}{fn:Func}{body:Code}{args:List Value}{n:Nat}{Post:Value→az→ah→Prop}(hf:P.funcs[f]? = some fn)(hb:fn.body=some body)(qn:fn.ntmps=n)(hn:Nat.ble args.length n=true)
  (h:(∀ v R' H' w,Post v R' H'→Fits B R' H' w→PW v w)→At (Fu P B PW) ⟨f,.normal,none,n,[],[]⟩ R H (vg 0 args) [.code body]):Pe P B PW f args.toArray R H Post:=by
 subst qn
 intro hk
 have hn:args.length≤fn.ntmps:=by simpa [Nat.ble_eq] using hn
 have:=h hk (args.toArray++Array.replicate (fn.ntmps - args.length) undef) ⟨by simp; omega,λ t v ht=>?_⟩
 ·have e:Frame.enter P f args.toArray .normal=ba ⟨f,.normal,none,fn.ntmps,[],[]⟩ (args.toArray++Array.replicate (fn.ntmps - args.length) undef) [.code body]:=by
   simp [Frame.enter,ba,hf,hb]
  rw [e]
  exact this
 ·obtain ⟨_,h2⟩:=Kg args 0 t v ht
  have bS:t < args.length:=by
   have:=(iF.1 h2).1
   simpa using this
  rw [Array.getElem?_append_left (by simpa using bS)]
  simpa using h2
theorem At.I2{H':ah}{f:FuncId}{n:Nat}{fn:Func}{vs:List Value}{Post:Value→az→ah→Prop}(hf:P.funcs[f]? = some fn)(hi:P.inits.idxOf? f=none)(hr:qb P R H st fn.results.toList vs)(hs:List.Sublist H' H)
  (hk:∀ v R' H' w,Post v R' H'→Fits B R' H' w→PW v w) (hp:Post (iO vs) R H'):At (Fu P B PW) ⟨f,.normal,none,n,[],[]⟩ R H st (.code .ret::k):=λ tmps ht=>by
 refine Jd.ctl (g':=bc { (ba ⟨f,.normal,none,n,[],[]⟩ tmps (.code .ret::k)) with mode:=.returning } []) rfl (λ w=>by simp [stepG,stepG.exec,bc,ba])
  (jr.arn rfl λ w hw=>?_)
 obtain ⟨v,w',R',H2,h1,h2,h3,rfl,rfl,rfl⟩:=S1 (P:=P) ht hr w hw
 refine ⟨iO vs,w',seen P f ((results fn tmps).events P w #[]),_,_,?_,λ e he=>h2 e (mem_seen he),h3,hk _ _ _ _ hp (Tf hs h3.fits).fits⟩
 simp [stepG,unwind,doReturn,bc,ba,hf,h1,GStep.after,hi]
end
def rq(W:World):az:=λ b=>W.heap[b]?
def G1(W:World):Base:=⟨OsLater W.os,W.tape,W.output⟩
theorem axn(W:World):Fits (G1 W) (rq W) [] W:=⟨λ _ _ h=>h,by simp,by simp,by simp,OsLater.refl _,rfl,rfl⟩
theorem aqj{W w:World}(h:(G1 W).os w.os):(G1 W).os w.later.os:=OsLater.trans h ⟨w.tick,rfl⟩
theorem aNM{P:Program}{PW:Value→World→Prop}{W:World}{g:Goroutine}(h:jr P (G1 W) PW (rq W) [] g) :
  ∃ M last o w' t',runNT P (M+1) (solo g W) #[]=(.ended o w',t')∧runN P M (solo g W) = .next last∧step P last = .ended o w'∧Conc.Good P PW last o w' t':=by
 have nt:∀ k a,touchAt (#[]:Trace) k=some a→False:=λ k a hk=>by simp [touchAt,Trace.act?] at hk
 refine h #[g] W none #[] (λ _=>0) (λ _=>0) rfl ⟨⟨λ i x hx=>?_,λ i j x y fY hx hy=>?_,by simp,by simp⟩,⟨λ i x hx b o hb k a hk=>(nt k a hk).elim,λ i x hx b o hb k a hk=>(nt k a hk).elim,λ b hb=>(by cases hb),λ b hb=>(by cases hb),by simp,λ k a hk=>(nt k a hk).elim,λ i=>rfl,λ a i hi=>(by simp [Trace.act?] at hi),λ said=>?_,λ k a hk=>(nt k a hk).elim⟩,rfl,λ _ _=>rfl,λ i g' hi hg=>?_⟩
 ·unfold only at hx
  split at hx
  ·cases hx; exact axn W
  ·cases hx
 ·unfold only at hx hy
  split at hx
  ·split at hy
   ·omega
   ·cases hy
  ·cases hx
 ·rintro ⟨i,j,_,⟨a,b,h1,_⟩,_⟩
  exact nt i a h1
 ·have:i < 1:=(Array.getElem?_eq_some_iff.1 hg).1
  omega
theorem aqk{W w:World}{R:az}{H:ah}(h:Fits (G1 W) R H w)(hR:aR (rq W) R):Below W.heap.size W { w with os:=W.os }:=by
 have hb:∀ k,k < W.heap.size→w.heap[k]? = W.heap[k]? := λ k hk=>by
  have e:W.heap[k]? = some W.heap[k]:=qT hk
  rw [e]
  exact h.r k _ (hR k _ e)
 refine ⟨rfl,h.tape,h.out,?_,hb⟩
 by_cases hz:W.heap.size=0
 ·omega
 ·have h1:=hb (W.heap.size - 1) (by omega)
  rw [qT (xs:=W.heap) (by omega)] at h1
  have:=(Array.getElem?_eq_some_iff.1 h1).1
  show W.heap.size≤w.heap.size
  omega
structure gH (P:Program) (t:TypeId) {α:Type} (C:cM α) (k:Nat):Prop where
 size:P.cellsOf t=k
 rd:∀ (W:World) (T:Type) (enc:TypeId × Value→T) (sp:Nat→Bool) (held:Bool) (fuel:Nat) (cs:List Value) (x:DataW T × List MemPlace),DataW.trod enc P W 0 sp held fuel t cs=some x→cs.length=k∧∃ a,C (rq W) a cs
theorem gH.int{P:Program}{t:TypeId}{kd:IntKind}(hs:P.cellsOf t=1)(ht:P.underlying t=some (.int kd)):gH P t (CI kd) 1:=⟨hs,λ W T enc sp held fuel cs x h=>by
 obtain ⟨n,rfl,_,_⟩:=DataW.trod_int ht h
 exact ⟨rfl,n,rfl⟩⟩
theorem gH.str{P:Program}{t:TypeId}(hs:P.cellsOf t=1)(ht:P.underlying t=some .string):gH P t CS 1:=⟨hs,λ W T enc sp held fuel cs x h=>by
 obtain ⟨s,rfl,_,_⟩:=DataW.trod_string ht h
 exact ⟨rfl,s,rfl⟩⟩
theorem aoY(a:Addr)(i j:Nat)(h:a.spot=none):(a.add i).add j=⟨a.block,a.off+(i+j),none⟩:=by
 obtain ⟨b,o,s⟩:=a
 cases h
 rw [tE,tE,Nat.add_assoc]
theorem gH.slice{P:Program}{t e:TypeId}{α:Type}{C:cM α}{k:Nat}(hs:P.cellsOf t=1)(ht:P.underlying t=some (.slice e))(hk:0 < k)(he:gH P e C k):gH P t (fi C k) 1:=⟨hs,λ W T enc sp held fuel cs x h=>by
 rcases DataW.trod_slice ht h with ⟨rfl,_⟩ | ⟨a,len,cap,elems,rest,n,_,rfl,_,_,hl,_,hlen,mq,_⟩
 ·exact ⟨rfl,[],_,rfl,aa.nil⟩
 refine ⟨rfl,?_⟩
 rw [he.size] at mq
 have each:∀ i:Fin len,∃ (p:α × List Value),C (rq W) p.1 p.2∧p.2.length=k∧∀ j w,p.2[j]? = some w→W.cell? ((a.add (i * k)).add j)=some w:=λ i=>by
  have h1:=mq i i.2
  rw [lz (by omega),Option.bind_eq_some_iff] at h1
  obtain ⟨ch,h2,h3⟩:=h1
  obtain ⟨h4,y,hy⟩:=he.rd _ _ _ _ _ _ _ _ h3
  refine ⟨(y,ch),hy,h4,λ j w hj=>?_⟩
  have h5:=(World.cells?_some h2).2.2 j (by have:=(iF.1 hj).1; simp only at this; omega)
  rw [h5]
  exact hj
 have aiq:0 < len→a.spot=none:=λ gS=>by
  obtain ⟨p,_,h2,h3⟩:=each ⟨0,gS⟩
  have h4:=h3 0 p.2[0] (lz (by omega))
  simpa [Addr.add] using World.cell?_spot h4
 let f:Fin len→α × List Value:=λ i=>(each i).choose
 have hf:∀ i,_:=λ i=>(each i).choose_spec
 let xs:List α:=List.ofFn λ i=>(f i).1
 let es:List Value:=(List.range (len * k)).map λ m=>(W.cell? ⟨a.block,a.off+m,none⟩).getD undef
 have RA:xs.length=len:=by simp [xs]
 have cell:∀ i j w (hi:i < len),(f ⟨i,hi⟩).2[j]? = some w→W.cell? ⟨a.block,a.off+(i * k+j),none⟩=some w:=λ i j w hi hj=>by
  have:=(hf ⟨i,hi⟩).2.2 j w hj
  rwa [aoY _ _ _ (aiq (by omega))] at this
 have idx:∀ i j,i < len→j < k→i * k+j < len * k:=λ i j hi hj=>by
  have:(i+1) * k≤len * k:=Nat.mul_le_mul_right k hi
  rw [Nat.add_mul] at this
  omega
 refine ⟨xs,_,rfl,some a,cap,es,by rw [RA],⟨by simp [es,RA],λ i x hx=>?_⟩,by omega,λ cU=>?_⟩
 ·have hi:i < len:=by rw [← RA]; exact (iF.1 hx).1
  have hxe:x=(f ⟨i,hi⟩).1:=by
   simp only [xs,List.getElem?_ofFn,hi,dif_pos,jl] at hx
   exact hx.symm
  subst hxe
  refine ⟨(f ⟨i,hi⟩).2,(hf ⟨i,hi⟩).1,(hf ⟨i,hi⟩).2.1,λ j w hj=>?_⟩
  have oq:j < k:=by have:=(iF.1 hj).1; rw [(hf ⟨i,hi⟩).2.1] at this; exact this
  simp only [es,List.getElem?_map,List.getElem?_range (idx i j hi oq),Option.map_some,cell i j w hi hj,nm]
 ·have gS:0 < len:=by rw [← RA]; exact List.length_pos_iff.2 cU
  obtain ⟨b,o,s⟩:=a
  obtain rfl:s=none:=aiq gS
  have all:∀ m,m < len * k→∃ w,W.cell? ⟨b,o+m,none⟩=some w:=λ m hm=>by
   have hi:m / k < len:=Nat.div_lt_of_lt_mul (by rw [Nat.mul_comm]; exact hm)
   have hj:m % k < (f ⟨m / k,hi⟩).2.length:=by rw [(hf ⟨m / k,hi⟩).2.1]; exact Nat.mod_lt _ hk
   have:=cell (m / k) (m % k) _ hi (lz hj)
   rw [show m / k * k+m % k=m by rw [Nat.mul_comm]; exact Nat.div_add_mod m k] at this
   exact ⟨_,this⟩
  have h0:∃ arr e fz,W.heap[b]? = some (.cells arr e fz):=by
   obtain ⟨w,hw⟩:=all 0 (Nat.mul_pos gS hk)
   unfold World.cell? at hw
   simp only at hw
   split at hw
   ·rename_i c e' fz hb
    exact ⟨c,e',fz,hb⟩
   ·cases hw
  obtain ⟨arr,e',fz,hb⟩:=h0
  refine ⟨b,o,arr,e',fz,rfl,hb,λ j w hj=>?_⟩
  have Hz:j < len * k:=by have:=(iF.1 hj).1; simpa [es] using this
  obtain ⟨w',Rp⟩:=all j Hz
  simp only [es,List.getElem?_map,List.getElem?_range Hz,Option.map_some,Rp,nm,jl] at hj
  subst hj
  simpa [World.cell?,hb] using Rp⟩
theorem gH.field{P:Program}{t:TypeId}{α:Type}{C:cM α}{k:Nat}(hC:gH P t C k){W:World}{T:Type}{enc:TypeId × Value→T}{sp:Nat→Bool}{held:Bool}{n:Nat}{cs:List Value}{xs:List (DataW T × List MemPlace)}{i m:Nat}{f:Field}(es:List Value)(hx:xs.length=m)
  (h:DataW.trod enc P W 0 sp held n f.type ((cs.drop f.offset).take (P.cellsOf f.type))=xs[i]?) (hi:Nat.blt i m=true:=by rfl) (hf:f.type=t:=by rfl) (he:(cs.drop f.offset).take k=es:=by rfl):∃ a,C (rq W) a es:=by
 rw [hf,hC.size,he,lz (by rw [hx]; simpa [Nat.blt_eq] using hi)] at h
 exact (hC.rd _ _ _ _ _ _ _ _ h).2
theorem alI{T:Type}{enc:TypeId × Value→T}{P:Program}(hl:laidOutB P=true){W W':World}(hb:Below W.heap.size W W') :
  ∀ {ts:List TypeId} {vs:List Value} {ds:List (DataW T)} {ps:List MemPlace},(ts.all λ t=>P.readableRec t && decide (t < P.types.size))=true→DataW.TrodAll enc P W 0 (λ _=>true) true ts vs ds ps→(∀ x∈ps,x.block < W.heap.size) →
   DataW.TrodAll enc P W' 0 (λ b=>decide (b < W.heap.size)) true ts vs ds ps
 | [],[],[],_,_,h,_=>h
 | t::ts,v::vs,d::ds,_,hr,⟨p,q,h1,h2,e⟩,bS=>by
  subst e
  simp only [List.all_cons,jm,decide_eq_true_eq] at hr
  exact ⟨p,q,Below.trod hl hr.1.1 hr.1.2 h1 hb (λ x hx=>bS x (by simp [hx])),alI hl hb hr.2 h2 (λ x hx=>bS x (by simp [hx])),rfl⟩
 | [],[],_::_,_,_,h,_=>h.elim
 | [],_::_,_,_,_,h,_=>h.elim
 | _::_,[],_,_,_,h,_=>h.elim
 | _::_,_::_,[],_,_,h,_=>h.elim
theorem aRP{T:Type}{enc:TypeId × Value→T}{C:Checked}{os:Os}{f:FuncId}{fn:Func}{s:ChangeSpec}{conds:List PathCond}{apart:Bool}{X:World→Array Value→Prop}(w0:World)(args:Array Value)(fuel:Nat)(zw:w0.os=os)
  (br:(w0.forCall (λ _ _=>0) ⟨#[],args,[]⟩).Shaped C.prog)
  (jG:Input.okWideB C.prog (w0.forCall (λ _ _=>0) ⟨#[],args,[]⟩) f ⟨#[],args,[]⟩=true)
  (L1:s.preB enc C.prog fn conds apart (w0.forCall (λ _ _=>0) ⟨#[],args,[]⟩).memory args fuel=true)
  (gm:s.sizedB enc C.prog fn apart (w0.forCall (λ _ _=>0) ⟨#[],args,[]⟩).memory args fuel=true)
  (hx:X (w0.forCall (λ _ _=>0) ⟨#[],args,[]⟩).memory args) :
  ∃ (w:World) (tape:Tape) (i:Input),w.os=os∧(w.forCall tape i).Shaped C.prog∧i.vars=[]∧Input.okWide C.prog (w.forCall tape i) .any w.heap.size f i ∧
   ((s.pre enc C.prog fn conds apart (w.forCall tape i).memory i.args∧X (w.forCall tape i).memory i.args)∧sizedMet enc C.prog fn (OpenSpec.ofChange s) apart (w.forCall tape i).memory i.args)∧({ calm:=true }:Assume).holds C.prog (lone (Frame.enter C.prog f i.args .normal) [] (w.forCall tape i)) :=
 ⟨w0,λ _ _=>0,⟨#[],args,[]⟩,zw,br,(Input.okWide_of_okWideB (base:=0) jG).1,(Input.okWide_of_okWideB jG).2,⟨⟨ChangeSpec.pre_of_preB L1,hx⟩,sizedMet_of_sizedB gm⟩,by
  simp only [Assume.holds]
  exact ⟨by simp,λ _ _ _ _=>rfl,by simp,by simp,by simp⟩⟩
theorem aKT{T:Type}{enc:TypeId × Value→T}{a:Assume}{C:Checked}{os:Os}{f:FuncId}{fn:Func}{s:ChangeSpec}{F:Stop.Interp}{conds:List PathCond}{apart fresh handsOn:Bool}{X:World→Array Value→Prop}
  (hX:∀ (w w':World) (args:Array Value),w.heap=w'.heap→X w args→X w' args)
  (own:ownKnob C.prog.godebug=none) (started:os.Started) (XU:C.prog.funcs[f]? = some fn)
  (witness:∃ (w:World) (tape:Tape) (i:Input),w.os=os∧(w.forCall tape i).Shaped C.prog∧i.vars=[]∧Input.okWide C.prog (w.forCall tape i) .any w.heap.size f i ∧
   ((s.pre enc C.prog fn conds apart (w.forCall tape i).memory i.args∧X (w.forCall tape i).memory i.args)∧sizedMet enc C.prog fn (OpenSpec.ofChange s) apart (w.forCall tape i).memory i.args)∧a.holds C.prog (lone (Frame.enter C.prog f i.args .normal) [] (w.forCall tape i)))
  (runs:∀ (W:World) (base:Nat) (args:Array Value) (ds gs:List (DataW T)) (before:List MemPlace),
   (∀ (j:Nat) t v,fn.params[j]? = some t→args[j]? = some v→Value.okWide C.prog W .any base t v) →
   DataW.Whole enc C.prog fn.params.toList s.vars apart W args.toList ds gs before→X W args →
   ∃ M last o w' t',runNT C.prog (M+1) (solo (bc (Frame.enter C.prog f args .normal) []) W) #[]=(.ended o w',t')∧runN C.prog M (solo (bc (Frame.enter C.prog f args .normal) []) W) = .next last ∧
    Go.step C.prog last = .ended o w'∧Conc.Good C.prog (λ v W'=>s.post enc C.prog fn apart fresh handsOn false W args v { W' with os:=W.os }∧OsLater W.os W'.os) last o w' t') :
  ReturnsInLeavingWide a C os f .any (λ w args=>(s.pre enc C.prog fn conds apart w args∧X w args)∧sizedMet enc C.prog fn (OpenSpec.ofChange s) apart w args) ((OpenSpec.ofChange s).postWith enc C.prog fn F (outsideKept [.timePasses]) apart fresh handsOn):=by
 refine returnsInLeavingWide_of_good own started witness ?_
 intro w tape i _ _ _ jG L1 _
 obtain ⟨_,_,_,Hg,axz,_,_,_,_,B5⟩:=jG
 have e:Hg=fn:=j6 (axz.symm.trans XU)
 subst e
 obtain ⟨⟨⟨ds,gs,before,hw,hc⟩,hx⟩,_⟩:=L1
 have Rp:=DataW.Whole.of_heap (w':=w.forCall tape i) (by rfl) hw
 obtain ⟨M,last,o,w',t',h1,h2,h3,h4⟩:=runs (w.forCall tape i) w.heap.size i.args ds gs before B5 Rp (hX _ _ _ (by rfl) hx)
 exact ⟨M,last,o,w',t',h1,h2,h3,h4.mono λ v hp=>postWith_blind (postWith_of_post hp.1 hp.2)⟩
theorem aO1{T:Type}{enc:TypeId × Value→T}{P:Program}{fn:Func}{s:ChangeSpec}{apart fresh handsOn again:Bool}{W w:World}{args:Array Value}{ds gs:List (DataW T)}{before:List MemPlace}{tb:TypeId}
  (hl:laidOutB P=true) (hr:(fn.params.toList.all λ t=>P.readableRec t && decide (t < P.types.size))=true) (hv:s.vars=[]) (aBG:fn.resultTypes=#[tb]) (htb:P.underlying tb=some .bool)
  (hW:DataW.Whole enc P fn.params.toList s.vars apart W args.toList ds gs before) (hag:again=false) (hb:Below W.heap.size W w)
  (h1:(s.fn T (ds++[])).results=[.lit (.bool true)]) (h2:(s.fn T (ds++[])).args=ds) (h3:(s.fn T (ds++[])).vars=[]):s.post enc P fn apart fresh handsOn again W args (.bool true) w:=by
 have Qw:=hW
 have bS:∀ x∈before,x.block < W.heap.size:=λ x hx=>by simpa using Qw.lt x hx
 obtain ⟨p,q,hA,hV,e,_,_⟩:=hW
 rw [hv] at hV
 obtain ⟨e1,e2⟩:=trodVars_none hV
 subst e1 e2 e
 refine ⟨ds,[],p++[],[],p,[],Qw,?_,?_,by rw [hv,h3]; rfl,hb.frame _,λ h=>by rw [hag] at h; cases h⟩
 ·rw [h1,aBG]
  exact trodAll_mk1 (shut_bool htb true)
 ·rw [h2]
  exact alI hl hb hr hA (λ x hx=>bS x (by simp [hx]))
theorem aqQ{W:World}{b o:Nat}{v:Value}(h:W.cell? ⟨b,o,none⟩=some v):Cell (rq W) [] ⟨b,o,none⟩ v:=by
 unfold World.cell? at h
 simp only at h
 split at h
 ·rename_i c e fz hb
  exact ⟨rfl,c,e,fz,.inl hb,by simpa using h⟩
 ·cases h
end Go.Lg
