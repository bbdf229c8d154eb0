/- What enters and leaves the machine; the run of a row. Conditions: none. -/
import Derived.Test.YtikficpdfaajlaaGreatDoorQSWLgC
import Derived.Test.YtikficpdfaajlaaGreatDoorQSWLgB
import Derived.Test.YtikficpdfaajlaaGreatDoorQSWLgD
import Derived.Conc.AtomicLaws2
import Derived.Conc.ClockLaws
import Derived.Conc.EventLaws
import Derived.Laws.LoneSync
import Derived.Conc.SmallLaws
import Derived.Conc.LeavingOf
import Derived.Conc.HoldsTime
import Derived.Handed
import Derived.LaidMore
import Derived.Below
import Derived.Carry
import Derived.SizedLaws
namespace Go.Lg
open Go.Conc Go.ConcN
structure ee (P:Program) (f:FuncId) (e:aU→Sem Value):Prop where
 ex:∃ fn,P.funcs[f]? = some fn∧(fn.name == "runtime.NumGoroutine")=false∧fn.body.isNone=true∧Extern.findNext fn=none∧Extern.find fn=some e
def gQ(P:Program)(s:Sem Value)(f:FuncId)(w:World)(v:Value)(w':World)(gF:Array Event):Prop :=
 s.run P w = .ok v w'∧s.events P w #[⟨.mark (.extern f),false,true⟩]=#[⟨.mark (.extern f),false,true⟩]++gF∧∀ x∈gF,x.sync=true∧∀ g,x.loc ≠ .mark (.extern g)
section
variable {P:Program} {main:Bool} {c:Ctx} {st:St} {k:List Item} {ops:Array Oper} {i:Nat} {rest:List Nat} {o:Oper} {f:FuncId} {as:Array Operand} {eX:Array TypeId} {e:aU→Sem Value} {vs:bn} {tmps:aU} {w w':World} {v:Value} {gF:Array Event}
theorem pR{tmps:aU}(A:o.op = .call ⟨.value (.func f),as,eX⟩)(C:cf c.n st tmps)(g:eO st as.toList=some vs):execOp (aR c tmps (.inRegion ops (i::rest)::k)).eval o=callFunc f vs.toArray:=by
 have p:=C.knows c (.inRegion ops (i::rest)::k)
 have d:(aR c tmps (.inRegion ops (i::rest)::k)).eval (.func f) = .func (.func f) #[] #[]:=rfl
 have b:as.map (aR c tmps (.inRegion ops (i::rest)::k)).eval=vs.toArray:=by apply Array.ext'; simpa using oc p _ _ g
 unfold execOp
 simp [A,resolve,Deferred.ofValue,invoke,d,b]
theorem te(ho:ops[i]? = some o)(hw:ca ops st o=some true)(D:(c.kind == CallKind.early)=false)(b:o.op = .call ⟨.value (.func f),as,eX⟩)(C:ee P f e)(d:cf c.n st tmps)(p:eO st as.toList=some vs)(g:gQ P (e vs.toArray) f w v w' gF) :
  stepG P main (aS (aR c tmps (.inRegion ops (i::rest)::k)) c.cs) w = .go (aS (aR c (dG o.dst v tmps) (.inRegion ops rest::k)) c.cs) w' gF:=by
 obtain ⟨fn,h1,h2,h3,h4,h5⟩:=C.ex
 obtain ⟨G,A,I⟩:=g
 rw [hX ho (fF d hw) (by rw [b]; rfl),← ir (rest:=rest) (k:=k) (c:=c) (tmps:=tmps) (v:=v) ho,pR b d p]
 have E:(callFunc f vs.toArray).run P w = .ok (.value v) w':=by rw [run_callFunc_extern h1 h2 h3 h4 h5,G]; rfl
 rw [ob (by simpa [aR] using D) E]
 congr 1
 rw [events_callFunc_extern h1 h2 h3 h4 h5]
 simp only [List.push_toArray,List.nil_append]
 rw [A,seen_entry _ _ _ I]
theorem Gd(ho:ops[i]? = some o)(hw:ca ops st o=some true)(b:o.op = .call ⟨.value (.func f),as,eX⟩)(p:ee P f e)(d:cf c.n st tmps)(g:eO st as.toList=some vs)(C:(e vs.toArray).run P w = .halt .blocked w) :
  stepG P main (aS (aR c tmps (.inRegion ops (i::rest)::k)) c.cs) w = .go { aS (aR c tmps (.inRegion ops (i::rest)::k)) c.cs with status:=.blocked } w #[]:=by
 obtain ⟨fn,h1,h2,h3,h4,h5⟩:=p.ex
 rw [hX ho (fF d hw) (by rw [b]; rfl),pR b d g]
 have A:(callFunc f vs.toArray).run P w = .halt .blocked w:=by rw [run_callFunc_extern h1 h2 h3 h4 h5,C]; rfl
 simp [stepG.apply,A,aS,GStep.after,seen_none]
theorem TF(ho:ops[i]? = some o)(g:o.op = .call ⟨.value (.func f),as,eX⟩)(d:ee P f e):mayWake P (aS (aR c tmps (.inRegion ops (i::rest)::k)) c.cs)=true:=by
 obtain ⟨fn,h1,_,h3,_⟩:=d.ex
 have b:fn.body.isSome=false:=by cases hb:fn.body <;> simp_all
 simp [mayWake,aS,aR,ho,g,Frame.eval,h1,b]
end
section
variable {P:Program} {f:FuncId} {w:World} {ad:Addr} {k:IntKind}
theorem iX{m:Mark}(hm:∀ g,m ≠ .extern g):gQ P (do mark m; pure Extern.Race.none_) f w (.tuple #[]) w (said m) :=
 ⟨by simp [Extern.Race.none_],by simp [said],λ x b=>by
  simp [said] at b; subst b; exact ⟨rfl,λ g h=>hm g (by cases h; rfl)⟩⟩
theorem ot{mk:Addr→Mark}(hm:∀ ad g,mk ad ≠ .extern g){vs:bn}(b:vs[0]? = some (.pointer (some ad))):gQ P (Extern.Race.marked mk vs.toArray) f w (.tuple #[]) w (said (mk ad)) :=
 ⟨by simp [Extern.Race.marked,Extern.Race.at_,b,Extern.Race.none_],by simp [Extern.Race.marked,Extern.Race.at_,b,said],λ x d=>by
  simp [said] at d; subst d; exact ⟨rfl,λ g h=>hm ad g (Loc.mark.inj h)⟩⟩
def atR(ad:Addr):Array Event:=#[⟨.cell ad,false,true⟩]
def rp(ad:Addr):Array Event:=#[⟨.cell ad,true,true⟩]
def tG(ad:Addr):Array Event:=#[⟨.cell ad,false,true⟩,⟨.cell ad,true,true⟩]
theorem pP{v n:Int}(b:w.cell? ad=some (.int k v))(d:w.frozen? ad=false):gQ P (Extern.Atomic.casT (.int k) #[.pointer (some ad),.int k v,.int k n]) f w (.bool true) (w.setCell ad (.int k n)) (tG ad) :=
 ⟨by rw [casT_eq]; exact run_cas_hit_entry b d,by rw [casT_eq,events_cas_hit_entry b d]; rfl,sync_rw ad⟩
theorem rM{v old n:Int}(b:w.cell? ad=some (.int k v))(g:w.frozen? ad=false)(d:¬ v=old):gQ P (Extern.Atomic.casT (.int k) #[.pointer (some ad),.int k old,.int k n]) f w (.bool false) w (atR ad) :=
 ⟨by rw [casT_eq]; exact run_cas_miss_entry b g d,by rw [casT_eq,events_cas_miss_entry b g d]; rfl,sync_r ad⟩
theorem na{v d:Int}(b:w.cell? ad=some (.int k v))(g:w.frozen? ad=false):gQ P (Extern.Atomic.update (Op.intArith .add) k true #[.pointer (some ad),.int k d]) f w (.int k (k.wrap (v+d))) (w.setCell ad (.int k (k.wrap (v+d)))) (tG ad) :=
 ⟨run_add_entry b g,by rw [events_add_entry b g]; rfl,sync_rw ad⟩
theorem uG{v:Int}(b:w.cell? ad=some (.int k v)):gQ P (Extern.Atomic.loadT (.int k) #[.pointer (some ad)]) f w (.int k v) w (atR ad):=by
 have e:Extern.Atomic.loadT (.int k) #[.pointer (some ad)]=(do Extern.Atomic.read (.int k) (← asAddr (.pointer (some ad)))):=rfl
 refine ⟨?_,?_,sync_r ad⟩
 ·rw [e]; simp [Extern.Atomic.read,asAddr,b]
 ·rw [e]; simp [Extern.Atomic.read,asAddr,b,events_load,atR]
theorem Ks{v:Int}{u:Value}(b:w.cell? ad=some u)(p:w.frozen? ad=false):gQ P (Extern.Atomic.storeT #[.pointer (some ad),.int k v]) f w (.tuple #[]) (w.setCell ad (.int k v)) (rp ad):=by
 have e:Extern.Atomic.storeT #[.pointer (some ad),.int k v]=(do store (← asAddr (.pointer (some ad))) (.int k v) .atomic; pure Extern.Atomic.none_):=rfl
 refine ⟨?_,?_,λ x d=>by simp [rp] at d; subst d; exact ⟨rfl,λ g h=>by cases h⟩⟩
 ·rw [e]; simp [asAddr,b,p,run_store P w ad (.int k v) .atomic rfl,Extern.Atomic.none_]
 ·rw [e]; simp [asAddr,b,p,events_store P w _ ad (.int k v) .atomic rfl,rp]
theorem CN{n:Int}{vs:bn}(g:vs[0]? = some (.pointer (some ad)))(b:w.cell? ad=some (.int .u32 n))(d:n≠0)(p:w.frozen? ad=false):gQ P (Extern.Sync.semacquire vs.toArray) f w (.tuple #[]) (w.setCell ad (.int .u32 (n - 1))) (semEvents ad) :=
 ⟨by simp [Extern.Sync.semacquire,Extern.Sync.count,g,b,d,p,Extern.Sync.none_,run_store P w ad (.int .u32 (n - 1)) .atomic rfl,Result.andThen],
  by simp [Extern.Sync.semacquire,Extern.Sync.count,g,b,d,p,semEvents,events_load,events_store P w _ ad (.int .u32 (n - 1)) .atomic rfl,run_store P w ad (.int .u32 (n - 1)) .atomic rfl,Result.evThen],semEvents_sync ad⟩
theorem AE{vs:bn}(d:vs[0]? = some (.pointer (some ad)))(b:w.cell? ad=some (.int .u32 0)):(Extern.Sync.semacquire vs.toArray).run P w = .halt .blocked w:=by
 simp [Extern.Sync.semacquire,Extern.Sync.count,d,b]
theorem yt{n:Int}{vs:bn}(d:vs[0]? = some (.pointer (some ad)))(b:w.cell? ad=some (.int .u32 n))(g:w.frozen? ad=false):gQ P (Extern.Sync.semrelease vs.toArray) f w (.tuple #[]) (w.setCell ad (.int .u32 (IntKind.u32.wrap (n+1)))) (semEvents ad) :=
 ⟨by simp [Extern.Sync.semrelease,Extern.Sync.count,d,b,g,Extern.Sync.none_,Op.intArith,run_store P w ad (.int .u32 (IntKind.u32.wrap (n+1))) .atomic rfl,Result.andThen],
  by simp [Extern.Sync.semrelease,Extern.Sync.count,d,b,g,semEvents,Op.intArith,events_load,events_store P w _ ad (.int .u32 (IntKind.u32.wrap (n+1))) .atomic rfl,run_store P w ad (.int .u32 (IntKind.u32.wrap (n+1))) .atomic rfl,Result.evThen],semEvents_sync ad⟩
theorem Kr{n:Int}(h4:4≤n):gQ P (Extern.Sync.canSpin #[.int k n]) f w (.bool false) w #[] :=
 ⟨by rw [canSpin_eq,if_pos h4]; rfl,by rw [canSpin_eq,if_pos h4]; rfl,by simp⟩
theorem CO{n:Int}(h4:n < 4):gQ P (Extern.Sync.canSpin #[.int k n]) f w (.bool w.spins) w.asked #[]:=by
 have b:¬ (n ≥ 4):=by omega
 exact ⟨by rw [canSpin_eq,if_neg b]; rfl,by rw [canSpin_eq,if_neg b]; rfl,by simp⟩
end
section
variable {F:Fx} {s s':Sh} {w:World}
theorem dA.cm(h:dA F s w):w.cell? (am F)=some (.int .i32 s.mu.val):=by simp [World.cell?,am,h.m,hU]
theorem dA.uf(h:dA F s w):w.cell? ⟨F.bm,1,none⟩=some (.int .u32 (s.ms:Int)):=by simp [World.cell?,h.m,hU]
theorem dA.cg(h:dA F s w):w.cell? (aw F)=some (.int .u64 (mH s)):=by simp [World.cell?,aw,h.g,hZ]
theorem dA.ua(h:dA F s w):w.cell? (iQ F)=some (.int .u32 (s.ws:Int)):=by simp [World.cell?,iQ,h.g,hZ]
theorem dA.zm(h:dA F s w)(i:Nat):w.frozen? ⟨F.bm,i,none⟩=false:=by simp [World.frozen?,h.m,hU]
theorem dA.zg(h:dA F s w)(i:Nat):w.frozen? ⟨F.bw,i,none⟩=false:=by simp [World.frozen?,h.g,hZ]
theorem bZ.refl(h:dA F s w):bZ F s w w:=⟨rfl,λ _ _ _=>rfl,h,id,rfl,rfl⟩
theorem bZ.asked(h:dA F s w):bZ F s w w.asked:=⟨rfl,λ _ _ _=>rfl,⟨h.m,h.g⟩,id,rfl,rfl⟩
theorem bZ.later(h:dA F s w)(b:F.B.os w.os→F.B.os w.later.os):bZ F s w w.later:=⟨rfl,λ _ _ _=>rfl,⟨h.m,h.g⟩,b,rfl,rfl⟩
theorem FU{w:World}{a:Addr}{cs:aU}{t:TypeId}{v:Value}(h:w.heap[a.block]? = some (.cells cs t (0,0)))(b:a.spot=none):w.setCell a v={ w with heap:=w.heap.setIfInBounds a.block (.cells (cs.setIfInBounds a.off v) t (0,0)) }:=by
 simp only [World.setCell]
 congr 1
 apply Array.ext_getElem?
 intro i
 rw [Array.getElem?_modify]
 by_cases hi:a.block=i
 ·subst hi
  rw [j4 (gg h),h]
  simp [b]
 ·simp [hi,gB hi]
theorem bZ.bm{v:Value}{i:Nat}(h:dA F s w)(ho:hU F.tm s' = .cells (#[.int .i32 s.mu.val,.int .u32 (s.ms:Int)].setIfInBounds i v) F.tm (0,0))(d:hZ F.tw s'=hZ F.tw s):bZ F s' w (w.setCell ⟨F.bm,i,none⟩ v):=by
 rw [FU (a:=⟨F.bm,i,none⟩) h.m rfl]
 refine ⟨by simp,λ b h1 h2=>gB (Ne.symm h1),⟨?_,?_⟩,id,rfl,rfl⟩
 ·rw [ho]; exact j4 (gg h.m)
 ·rw [d]
  show (w.heap.setIfInBounds _ _)[F.bw]? = _
  rw [gB F.ho.1]; exact h.g
theorem bZ.bw{v:Value}{i:Nat}(h:dA F s w)(ho:hZ F.tw s' = .cells (#[.int .u64 (mH s),.int .u32 (s.ws:Int)].setIfInBounds i v) F.tw (0,0))(d:hU F.tm s'=hU F.tm s):bZ F s' w (w.setCell ⟨F.bw,i,none⟩ v):=by
 rw [FU (a:=⟨F.bw,i,none⟩) h.g rfl]
 refine ⟨by simp,λ b h1 h2=>gB (Ne.symm h2),⟨?_,?_⟩,id,rfl,rfl⟩
 ·rw [d]
  show (w.heap.setIfInBounds _ _)[F.bm]? = _
  rw [gB (Ne.symm F.ho.1)]; exact h.m
 ·rw [ho]; exact j4 (gg h.g)
theorem bZ.mu{m:Wd}(h:dA F s w):bZ F { s with mu:=m } w (w.setCell (am F) (.int .i32 m.val)):=bZ.bm h rfl rfl
theorem bZ.ms{n:Nat}(h:dA F s w):bZ F { s with ms:=n } w (w.setCell ⟨F.bm,1,none⟩ (.int .u32 (n:Int))):=bZ.bm h rfl rfl
theorem bZ.wg{v u:Nat}(h:dA F s w):bZ F { s with v:=v,w:=u } w (w.setCell (aw F) (.int .u64 (4294967296 * v+u))):=bZ.bw h rfl rfl
theorem bZ.ws{n:Nat}(h:dA F s w):bZ F { s with ws:=n } w (w.setCell (iQ F) (.int .u32 (n:Int))):=bZ.bw h rfl rfl
theorem lP{a:Addr}(h:a.block=F.bm∨a.block=F.bw):h9 F (atR a):=.inl λ e he=>by simp [atR] at he; subst he; exact ⟨a,false,rfl,h⟩
theorem Hv{a:Addr}(h:a.block=F.bm∨a.block=F.bw):h9 F (rp a):=.inl λ e he=>by simp [rp] at he; subst he; exact ⟨a,true,rfl,h⟩
theorem ih{a:Addr}(h:a.block=F.bm∨a.block=F.bw):h9 F (tG a):=.inl λ e he=>by simp [tG] at he; rcases he with rfl | rfl <;> exact ⟨a,_,rfl,h⟩
theorem ig:h9 F #[]:=.inl λ e he=>by simp at he
theorem rn{a:Addr}(h:a.block=F.bm∨a.block=F.bw):h9 F (semEvents a):=.inr ⟨a,h,rfl⟩
end
section
variable {F:Fx} {c:Ctx} {R:aA} {H:ai} {st:St} {kk:List Item} {ops:Array Oper} {i:Nat} {rest:List Nat} {o:Oper} {f:FuncId} {as:Array Operand} {eX:Array TypeId} {e:aU→Sem Value} {vs:bn} {n k j:Nat} {T:Lp} {T0:Mp}
theorem KW.ext(ho:ops[i]? = some o)(hw:ca ops st o=some true)(E:(c.kind == CallKind.early)=false)(d:o.op = .call ⟨.value (.func f),as,eX⟩)(b:ee F.P f e)(p:eO st as.toList=some vs)(hd:bO o.dst c.n)
  (h:iJ F.N T→∀ w s,Fits F.B R H w→dA F s w→pj F.N T s→okW F.N T s →
   ((∃ c,T = .s1 c)∧s.ms=0∧(e vs.toArray).run F.P w = .halt .blocked w) ∨
   ∃ v w' gF T' s',gQ F.P (e vs.toArray) f w v w' gF∧cz T s T' s'∧mG F j T T'∧pQ F T gF∧bZ F s' w w'∧∀ A,cf c.n (bT o.dst v st) A→lM F (KW F n k) k j T T' R H (aS (aR c A (.inRegion ops rest::kk)) c.cs)) :
  ∀ tmps,cf c.n st tmps→KW F (n+1) k j T R H (aS (aR c tmps (.inRegion ops (i::rest)::kk)) c.cs):=by
 intro tmps g M
 refine ⟨rfl,rfl,λ _=>TF ho d b,λ w s D L G I=>?_⟩
 rcases h M w s D L G I with ⟨h1,h2,h3⟩ | ⟨v,w',gF,T',s',C,h2,h3,h4,h5,h6⟩
 ·exact .inl ⟨h1,h2,Gd ho hw d b g p h3⟩
 ·exact .inr ⟨_,w',gF,T',s',h2,h3,h4,te ho hw E d b g p C,h5,h6 _ (g.put v hd)⟩
theorem KM.ext(ho:ops[i]? = some o)(hw:ca ops st o=some true)(E:(c.kind == CallKind.early)=false)(p:o.op = .call ⟨.value (.func f),as,eX⟩)(g:ee F.P f e)(d:eO st as.toList=some vs)(hd:bO o.dst c.n)(h1:∀ r,T0 ≠ .go r)(h2:T0 ≠ .wq)
  (h:∀ w s,Fits F.B R H w→dA F s w→hx F.N T0 s→(T0 = .w3∧s.ws=0∧(e vs.toArray).run F.P w = .halt .blocked w) ∨
   ∃ v w' gF T' s',gQ F.P (e vs.toArray) f w v w' gF∧ef T0 s T' s'∧ov F T0 gF∧bZ F s' w w'∧∀ A,cf c.n (bT o.dst v st) A→Own F.P F.B true (KM F n T') R H (aS (aR c A (.inRegion ops rest::kk)) c.cs)) :
  ∀ tmps,cf c.n st tmps→KM F (n+1) T0 R H (aS (aR c tmps (.inRegion ops (i::rest)::kk)) c.cs):=by
 intro tmps b
 have key:∀ w s,Fits F.B R H w→dA F s w→hx F.N T0 s→(T0 = .w3∧s.ws=0∧stepG F.P true (aS (aR c tmps (.inRegion ops (i::rest)::kk)) c.cs) w = .go { aS (aR c tmps (.inRegion ops (i::rest)::kk)) c.cs with status:=.blocked } w #[]) ∨
   ∃ g' w' es T' s',ef T0 s T' s'∧ov F T0 es∧stepG F.P true (aS (aR c tmps (.inRegion ops (i::rest)::kk)) c.cs) w = .go g' w' es∧bZ F s' w w'∧Own F.P F.B true (KM F n T') R H g':=λ w s D I G=>by
  rcases h w s D I G with ⟨h1,h2,h3⟩ | ⟨v,w',gF,T',s',C,h3,h4,h5,h6⟩
  ·exact .inl ⟨h1,h2,Gd ho hw p g b d h3⟩
  ·exact .inr ⟨_,w',gF,T',s',h3,h4,te ho hw E p g b d C,h5,h6 _ (b.put v hd)⟩
 refine ⟨rfl,rfl,?_⟩
 cases T0 <;> first | exact absurd rfl (h1 _) | exact absurd rfl h2 | exact key
theorem KM.acq(ho:ops[i]? = some o)(hw:ca ops st o=some true)(C:(c.kind == CallKind.early)=false)(D:o.op = .call ⟨.value (.func f),as,eX⟩)(p:ee F.P f (Extern.Race.marked .acquire))(g:eO st as.toList=some vs)(G:vs[0]? = some (.pointer (some (aw F))))(hd:bO o.dst c.n)
  (h:∀ js,(∀ k,k < F.N→js k=F.J)→∀ d,cf c.n (bT o.dst (.tuple #[]) st) d→F.mj R ((F.bo,F.cont js)::H) (aS (aR c d (.inRegion ops rest::kk)) c.cs)) :
  ∀ tmps,cf c.n st tmps→KM F (n+1) .wq R H (aS (aR c tmps (.inRegion ops (i::rest)::kk)) c.cs):=λ tmps b =>
 ⟨rfl,rfl,λ w s _ E _=>⟨_,w,te ho hw C D p b g (ot (λ _ _=>by simp) G),bZ.refl E,λ js A=>h js A _ (b.put _ hd)⟩⟩
end
def j8(P:Program)(c:Ctx)(o:Oper)(st:St)(v:Value):Prop:=gH o.op=false∧bO o.dst c.n∧∀ b,Knows st b→aj P (execOp b o) (.value v)
section
variable {P:Program} {B:Base} {main:Bool} {ae:Jd P B main} {c:Ctx} {R:aA} {H:ai} {st st':St} {k:List Item} {ops:Array Oper} {i:Nat} {rest:List Nat} {o:Oper} {v:Value} {x y z:Operand}
theorem U.val(ho:ops[i]? = some o)(hw:ca ops st o=some true)(d:(c.kind == CallKind.early)=false)(b:j8 P c o st v)(g:aB (bT o.dst v st) st')(h:U ae c R H st' (.inRegion ops rest::k)):U ae c R H st (.inRegion ops (i::rest)::k) :=
 U.e2 ho hw d (Ox.val b.1 b.2.1 b.2.2 g h)
theorem OV.move(b:o.op = .move x)(hd:bO o.dst c.n)(d:aY st x=some v):j8 P c o st v:=⟨by rw [b]; rfl,hd,λ p g=>by simp only [execOp,b,g x v d]; exact aj.bj _⟩
theorem OV.assign(b:o.op = .assign x)(hd:bO o.dst c.n)(d:aY st x=some v):j8 P c o st v:=⟨by rw [b]; rfl,hd,λ p g=>by simp only [execOp,b,g x v d]; exact aj.bj _⟩
theorem OV.Rf(b:o.op = .pick x y z)(hd:bO o.dst c.n)(g:aY st x=some (.bool true))(p:aY st y=some v):j8 P c o st v:=⟨by rw [b]; rfl,hd,λ A d=>by
 simp only [execOp,b,d x _ g,d y v p,asBool]; exact aj.bt (aj.bj true) (aj.bj _)⟩
theorem OV.Re(b:o.op = .pick x y z)(hd:bO o.dst c.n)(g:aY st x=some (.bool false))(p:aY st z=some v):j8 P c o st v:=⟨by rw [b]; rfl,hd,λ A d=>by
 simp only [execOp,b,d x _ g,d z v p,asBool]; exact aj.bt (aj.bj false) (aj.bj _)⟩
theorem OV.nilCheck{a:Addr}(b:o.op = .nilCheck x)(hd:bO o.dst c.n)(d:aY st x=some (.pointer (some a))):j8 P c o st (.pointer (some a)):=⟨by rw [b]; rfl,hd,λ p g=>by
 simp only [execOp,b,g x _ d]; exact aj.bt (aj.bj _) (aj.bj _)⟩
theorem OV.fieldAddr{s f off b n:Nat}(d:o.op = .fieldAddr s x f)(hd:bO o.dst c.n)(p:aY st x=some (.pointer (some ⟨b,n,none⟩)))(g:cT P s f off):j8 P c o st (.pointer (some ⟨b,n+off,none⟩)):=⟨by rw [d]; rfl,hd,λ C A=>by
 simp only [execOp,d,A x _ p]; exact aj.bt (g b n) (aj.bj _)⟩
theorem OV.bin{bo:BinOp}{t u:TypeId}{ka kb:IntKind}{a b:Int}(d:o.op = .binOp bo t x y u)(hd:bO o.dst c.n)(A:aY st x=some (.int ka a))(C:aY st y=some (.int kb b))(p:aj P (binOp bo t (.int ka a) (.int kb b)) v):j8 P c o st v:=⟨by rw [d]; rfl,hd,λ D g=>by
 simp only [execOp,d,g x _ A,g y _ C]; exact aj.bt (aj.bt (nX _ _ _ _ _ _ _ _) p) (aj.bj _)⟩
theorem OV.not{t:TypeId}{a:Bool}(b:o.op = .unOp .not t x)(hd:bO o.dst c.n)(d:aY st x=some (.bool a)):j8 P c o st (.bool (!a)):=⟨by rw [b]; rfl,hd,λ p g=>by
 simp only [execOp,b,g x _ d]; exact aj.bt (aj.bj _) (aj.bj _)⟩
end
structure QJ (P:Program) where
 Q:Goroutine→Prop
 step:∀ {g g':Goroutine},g.status = .running→(∀ w,stepG P false g w = .go g' w #[])→Q g'→Q g
def Td(P:Program)(K:Goroutine→Prop):QJ P:=⟨λ g=>∃ q,n5 P K q g,λ d h ⟨q,b⟩=>⟨q+1,.inr ⟨d,_,h,b⟩⟩⟩
def mq(P:Program)(d:Nat):QJ P:=⟨λ g=>∃ q,QuitsD P q d g,λ p h ⟨q,b⟩=>⟨q+1,QuitsD.ctl p h b⟩⟩
section
variable {P:Program} (J:QJ P)
def aE(c:Ctx)(st:St)(todo:List Item):Prop:=∀ tmps,cf c.n st tmps→J.Q (aS (aR c tmps todo) c.cs)
variable {J} {c:Ctx} {st st':St} {k:List Item} {ops:Array Oper} {i:Nat} {rest:List Nat} {o:Oper} {v:Value}
theorem aE.sub{todo:List Item}(b:aB st st')(h:aE J c st' todo):aE J c st todo:=λ tmps d=>h tmps (d.sub b)
theorem aE.skip(h:aE J c st k):aE J c st (.code .skip::k):=λ tmps b=>J.step rfl (λ w=>by simp [stepG,stepG.exec,aS,aR]) (h tmps b)
theorem aE.inBlock{id:Nat}(h:aE J c st k):aE J c st (.inBlock id::k):=λ tmps b=>J.step rfl (λ w=>by simp [stepG,stepG.exec,aS,aR]) (h tmps b)
theorem aE.seq{x y:Code}(h:aE J c st (.code x :: .code y::k)):aE J c st (.code (.seq x y)::k):=λ tmps b=>J.step rfl (λ w=>by simp [stepG,stepG.exec,aS,aR]) (h tmps b)
theorem aE.block{id:Nat}{x:Code}(h:aE J c st (.code x :: .inBlock id::k)):aE J c st (.code (.block id x)::k):=λ tmps b=>J.step rfl (λ w=>by simp [stepG,stepG.exec,aS,aR]) (h tmps b)
theorem aE.enterLoop{x:Code}(h:aE J c st (.code x :: .inLoop x::k)):aE J c st (.code (.loop x)::k):=λ tmps b=>J.step rfl (λ w=>by simp [stepG,stepG.exec,aS,aR]) (h tmps b)
theorem aE.inLoop{x:Code}(h:aE J c st (.code x :: .inLoop x::k)):aE J c st (.inLoop x::k):=λ tmps b=>J.step rfl (λ w=>by simp [stepG,stepG.exec,aS,aR]) (h tmps b)
theorem aE.exit{id:Nat}{b:List Item}(he:exitTo id k=some b)(h:aE J c st b):aE J c st (.code (.exit id)::k):=λ tmps d=>J.step rfl (λ w=>by simp [stepG,stepG.exec,aS,aR,he]) (h tmps d)
theorem aE.region{id n:Nat}{is:List Nat}(d:ops.size=n)(b:List.range n=is)(h:aE J c st (.inRegion ops is::k)):aE J c st (.code (.region id ops false)::k):=by
 subst d; subst b
 exact λ tmps g=>J.step rfl (λ w=>by simp [stepG,stepG.exec,aS,aR]) (h tmps g)
theorem aE.aP(h:aE J c st k):aE J c st (.inRegion ops []::k):=λ tmps b=>J.step rfl (λ w=>by simp [stepG,stepG.exec,aS,aR]) (h tmps b)
theorem aE.dF{x:Operand}{th el:Code}(d:aY st x=some (.bool true))(h:aE J c st (.code th::k)):aE J c st (.code (.cond x th el)::k):=λ tmps b=>by
 have he:=b.knows c (.code (.cond x th el)::k) x _ d
 exact J.step rfl (λ w=>by simp only [aR] at he; simp [stepG,stepG.exec,aS,aR,he]) (h tmps b)
theorem aE.cU{x:Operand}{th el:Code}(d:aY st x=some (.bool false))(h:aE J c st (.code el::k)):aE J c st (.code (.cond x th el)::k):=λ tmps b=>by
 have he:=b.knows c (.code (.cond x th el)::k) x _ d
 exact J.step rfl (λ w=>by simp only [aR] at he; simp [stepG,stepG.exec,aS,aR,he]) (h tmps b)
theorem aE.unwanted(ho:ops[i]? = some o)(hw:ca ops st o=some false)(d:bO o.dst c.n)(g:aB (bT o.dst undef st) st')(h:aE J c st' (.inRegion ops rest::k)):aE J c st (.inRegion ops (i::rest)::k) :=
 λ _ b=>J.step rfl (λ _=>zU ho (fF b hw)) (h _ ((b.put undef d).sub g))
theorem aE.val(ho:ops[i]? = some o)(hw:ca ops st o=some true)(p:(c.kind == CallKind.early)=false)(d:j8 P c o st v)(A:aB (bT o.dst v st) st')(h:aE J c st' (.inRegion ops rest::k)):aE J c st (.inRegion ops (i::rest)::k):=λ tmps b=>by
 refine J.step rfl (λ w=>?_) (h _ ((b.put v d.2.1).sub A))
 have g:=d.2.2 _ (b.knows c (.inRegion ops (i::rest)::k)) w
 rw [hX ho (fF b hw) d.1,← ir (rest:=rest) (k:=k) (c:=c) (tmps:=tmps) (v:=v) ho,ob (by simpa [aR] using p) g.1,g.2]
 rfl
theorem aE.ext{f:FuncId}{as:Array Operand}{eX:Array TypeId}{e:aU→Sem Value}{vs:bn}(ho:ops[i]? = some o)(hw:ca ops st o=some true)(A:(c.kind == CallKind.early)=false)(C:o.op = .call ⟨.value (.func f),as,eX⟩)(hd:bO o.dst c.n)(p:ee P f e)(g:eO st as.toList=some vs)
  (d:∀ w,gQ P (e vs.toArray) f w v w #[]) (D:aB (bT o.dst v st) st') (h:aE J c st' (.inRegion ops rest::k)):aE J c st (.inRegion ops (i::rest)::k):=λ _ b =>
 J.step rfl (λ w=>te ho hw A C p b g (d w)) (h _ ((b.put v hd).sub D))
theorem aE.enter{f:FuncId}{fn:Func}{body:Code}{as:Array Operand}{eX:Array TypeId}{vs:bn}{n:Nat}(ho:ops[i]? = some o)(hw:ca ops st o=some true)(C:(c.kind == CallKind.early)=false)(g:o.op = .call ⟨.value (.func f),as,eX⟩)(A:eO st as.toList=some vs)
  (d:P.funcs[f]? = some fn) (G:(fn.name == "runtime.NumGoroutine")=false) (hb:fn.body=some body) (I:fn.ntmps=n) (E:Nat.ble vs.length n=true)
  (h:∀ tmps,cf c.n st tmps→aE J ⟨f,.normal,none,n,[],aR c tmps (.inRegion ops (i::rest)::k)::c.cs⟩ (kh 0 vs) [.code body]):aE J c st (.inRegion ops (i::rest)::k):=λ tmps b=>by
 have p:aj P (execOp (aR c tmps (.inRegion ops (i::rest)::k)).eval o) (.enter f vs.toArray):=by
  rw [pR g b A]
  exact py d G (by rw [hb]; rfl)
 subst I
 have M:vs.length≤fn.ntmps:=by simpa [Nat.ble_eq] using E
 have e:Frame.enter P f vs.toArray .normal=aR ⟨f,.normal,none,fn.ntmps,[],aR c tmps (.inRegion ops (i::rest)::k)::c.cs⟩ (vs.toArray++Array.replicate (fn.ntmps - vs.length) undef) [.code body]:=by
  simp [Frame.enter,aR,d,hb]
 refine J.step rfl (λ w=>?_) (h tmps b (vs.toArray++Array.replicate (fn.ntmps - vs.length) undef) ⟨by simp; omega,λ t v L=>?_⟩)
 ·rw [hX ho (fF b hw) (by rw [g]; rfl),rj rfl (by simpa [aR] using C) (p w).1,(p w).2,e]
  rfl
 ·obtain ⟨_,h2⟩:=rl vs 0 t v L
  have D:t < vs.length:=by
   have:=(eL.1 h2).1
   simpa using this
  rw [Array.getElem?_append_left (by simpa using D)]
  simpa using h2
def fa(c:Ctx)(tmps:aU)(todo:List Item):Frame:={ aR c tmps todo with mode:=.returning }
theorem QJ.back{fr:Frame}{cs:List Frame}{f:FuncId}{n:Nat}{fn:Func}{vs:bn}{tmps:aU}{todo:List Item}(d:P.funcs[f]? = some fn)(A:cf n st tmps)(p:mw st fn.results.toList=some vs)(g:J.Q (aS (fr.finish (eE vs)) cs)) :
  J.Q (aS (fa ⟨f,.normal,none,n,[],fr::cs⟩ tmps todo) (fr::cs)) :=
 J.step rfl (λ w=>by
  have b:=Ag (P:=P) A p
  simp [fa,stepG,unwind,doReturn,aS,aR,d,(b w).1,(b w).2,GStep.after,seen_none]) g
theorem QJ.AS{fr:Frame}{cs:List Frame}{f:FuncId}{n:Nat}{fn:Func}{vs:bn}{tmps:aU}{todo:List Item}(d:P.funcs[f]? = some fn)(A:cf n st tmps)(p:mw st fn.results.toList=some vs)(hm:fr.mode = .returning∨fr.mode = .panicking [goexitEntry])(g:J.Q (aS fr cs)) :
  J.Q (aS (fa ⟨f,.deferred,none,n,[],fr::cs⟩ tmps todo) (fr::cs)) :=
 J.step rfl (λ w=>by
  have b:=Ag (P:=P) A p
  rcases hm with hm | hm <;> simp [fa,stepG,unwind,doReturn,aS,aR,d,(b w).1,(b w).2,GStep.after,seen_none,hm,goexitEntry]) g
theorem aE.ret(b:c.ro=none)(h:∀ tmps,cf c.n st tmps→J.Q (aS (fa c tmps (.code .ret::k)) c.cs)):aE J c st (.code .ret::k):=λ tmps d =>
 J.step rfl (λ w=>by simp [stepG,stepG.exec,aS,aR,fa,b]) (h tmps d)
theorem aE.xX(b:c.ro=none)(h:∀ tmps,cf c.n st tmps→J.Q (aS (fa c tmps []) c.cs)):aE J c st []:=λ tmps d =>
 J.step rfl (λ w=>by simp [stepG,stepG.exec,aS,aR,fa,b]) (h tmps d)
theorem aE.resume{c':Ctx}{tmps:aU}(ho:ops[i]? = some o)(d:cf c.n st tmps)(hd:bO o.dst c.n)(b:aB (bT o.dst v st) st')(h:aE J c st' (.inRegion ops rest::k))(_:c'.cs=aR c tmps (.inRegion ops (i::rest)::k)::c.cs) :
  J.Q (aS ((aR c tmps (.inRegion ops (i::rest)::k)).finish v) c.cs):=by
 rw [ir ho]
 exact h _ ((d.put v hd).sub b)
end
section
variable {P:Program} {B:Base} {main:Bool} {ae:Jd P B main} {c:Ctx} {R:aA} {H:ai} {st st':St} {k:List Item} {ops:Array Oper} {i:Nat} {rest:List Nat} {o:Oper} {f:FuncId} {as:Array Operand} {eX:Array TypeId} {vs:bn}
theorem step_defer{tmps:aU}{w:World}(ho:ops[i]? = some o)(hw:ca ops st o=some true)(g:(c.kind == CallKind.early)=false)(A:c.ro=none)(p:o.op = .defer ⟨.value (.func f),as,eX⟩)(C:cf c.n st tmps)(G:eO st as.toList=some vs) :
  stepG P main (aS (aR c tmps (.inRegion ops (i::rest)::k)) c.cs) w = .go (aS (aR { c with defers:=dcall f vs.toArray::c.defers } (dG o.dst undef tmps) (.inRegion ops rest::k)) c.cs) w #[]:=by
 have L:=C.knows c (.inRegion ops (i::rest)::k)
 have d:(aR c tmps (.inRegion ops (i::rest)::k)).eval (.func f) = .func (.func f) #[] #[]:=rfl
 have E:as.map (aR c tmps (.inRegion ops (i::rest)::k)).eval=vs.toArray:=by apply Array.ext'; simpa using oc L _ _ G
 have M:(execOp (aR c tmps (.inRegion ops (i::rest)::k)).eval o).run P w = .ok (.defer (dcall f vs.toArray)) w:=by
  unfold execOp
  simp [p,resolve,Deferred.ofValue,d,E,dcall]
 have he:(execOp (aR c tmps (.inRegion ops (i::rest)::k)).eval o).events P w #[]=#[]:=by
  unfold execOp
  simp [p,resolve,Deferred.ofValue,d]
 have N:=fF C hw
 obtain ⟨b,kind,ro,n,defers,cs⟩:=c
 simp only at A g
 subst A
 have D:stepG P main (aS (aR ⟨b,kind,none,n,defers,cs⟩ tmps (.inRegion ops (i::rest)::k)) cs) w=stepG.apply P true (aR ⟨b,kind,none,n,defers,cs⟩ tmps (.inRegion ops (i::rest)::k)) cs none (execOp (aR ⟨b,kind,none,n,defers,cs⟩ tmps (.inRegion ops (i::rest)::k)).eval o) w:=by
  simp [aS,stepG,stepG.exec,stepG.oper,Frame.oper?,aR,ho,N]
 refine D.trans ?_
 unfold stepG.apply
 rw [show (execOp (aR ⟨b,kind,none,n,defers,cs⟩ tmps (.inRegion ops (i::rest)::k)).eval o).runT P w #[]=(.ok (.defer (dcall f vs.toArray)) w,#[]) by rw [Sem.runT_eq,M,he]]
 cases I:o.dst <;> simp [GStep.after,seen_none,aS,aR,Frame.finish,ho,I,dG,g]
end
section
variable {F:Fx} {c:Ctx} {R:aA} {H:ai} {st:St} {kk:List Item} {ops:Array Oper} {i:Nat} {rest:List Nat} {o:Oper} {n k j:Nat} {T:Lp} {T0:Mp}
theorem SV{main:Bool}{t:TypeId}{x:Operand}{tmps:aU}{w:World}{s:Sh}(ho:ops[i]? = some o)(hw:ca ops st o=some true)(C:(c.kind == CallKind.early)=false)(g:o.op = .load t x)(I:aY st x=some (.pointer (some (am F))))(p:cf c.n st tmps)(D:dy F.P t)(E:(F.P.funcs[c.fn]?).any (·.norace)=true)(G:dA F s w) :
  stepG F.P main (aS (aR c tmps (.inRegion ops (i::rest)::kk)) c.cs) w = .go (aS (aR c (dG o.dst (.int .i32 s.mu.val) tmps) (.inRegion ops rest::kk)) c.cs) w #[]:=by
 have A:=p.knows c (.inRegion ops (i::rest)::kk)
 have b:(execOp (aR c tmps (.inRegion ops (i::rest)::kk)).eval o).run F.P w = .ok (.value (.int .i32 s.mu.val)) w∧(execOp (aR c tmps (.inRegion ops (i::rest)::kk)).eval o).events F.P w #[]=#[⟨.cell (am F),false,false⟩]:=by
  simp only [execOp,g,A x _ I]
  have h1:=D.1 w
  have d:=G.cm
  constructor
  ·simp [Instr.loadAt,Instr.sureAddr,loadVar,h1.1,d]
  ·simp [Instr.loadAt,Instr.sureAddr,loadVar,h1.1,h1.2,d,events_load]
 rw [hX ho (fF p hw) (by rw [g]; rfl),← ir (rest:=rest) (k:=kk) (c:=c) (tmps:=tmps) (v:=.int .i32 s.mu.val) ho,ob (by simpa [aR] using C) b.1,b.2]
 congr 1
 rw [seen_def]
 simp [seenStep,aR,E]
theorem KW.look{t:TypeId}{x:Operand}(ho:ops[i]? = some o)(hw:ca ops st o=some true)(A:(c.kind == CallKind.early)=false)(D:o.op = .load t x)(I:aY st x=some (.pointer (some (am F))))(C:dy F.P t)(G:(F.P.funcs[c.fn]?).any (·.norace)=true)(hd:bO o.dst c.n)(hu:T ≠ .us∧T ≠ .d4)
  (p:∀ es,h9 F es→pQ F T es)
  (h:iJ F.N T→∀ s,pj F.N T s→∃ T',cz T s T' s∧mG F j T T'∧∀ g,cf c.n (bT o.dst (.int .i32 s.mu.val) st) g→lM F (KW F n k) k j T T' R H (aS (aR c g (.inRegion ops rest::kk)) c.cs)) :
  ∀ tmps,cf c.n st tmps→KW F (n+1) k j T R H (aS (aR c tmps (.inRegion ops (i::rest)::kk)) c.cs):=by
 intro tmps d L
 refine ⟨rfl,rfl,λ e=>by rcases e with e | e; exact absurd e hu.1; exact absurd e hu.2,λ w s M b E O=>.inr ?_⟩
 obtain ⟨T',h2,h3,h6⟩:=h L s E
 exact ⟨_,w,#[],T',s,h2,h3,p _ ig,SV ho hw A D I d C G b,bZ.refl b,h6 _ (d.put _ hd)⟩
def pB(P:Program)(src dst:TypeId):Prop:=∃ t,P.underlying src=some (.pointer t)∧P.underlying dst=some .unsafePointer∧(P.info? t).map (λ i=>decide (i.size=0))=some false
theorem Gc{src dst:TypeId}{x:Operand}{a:Addr}{v:Value}{w:World}{main:Bool}{tmps:aU}(ho:ops[i]? = some o)(hw:ca ops st o=some true)(G:(c.kind == CallKind.early)=false)(g:o.op = .convert src dst x)(I:aY st x=some (.pointer (some a)))(p:cf c.n st tmps)(hu:pB F.P src dst)(d:w.cell? a=some v) :
  stepG F.P main (aS (aR c tmps (.inRegion ops (i::rest)::kk)) c.cs) w = .go (aS (aR c (dG o.dst (.pointer (some a)) tmps) (.inRegion ops rest::kk)) c.cs) w #[]:=by
 obtain ⟨t,A,C,D⟩:=hu
 have E:=p.knows c (.inRegion ops (i::rest)::kk)
 have h1:=run_convert_to_unsafe A C D d
 have h2:=events_convert_to_unsafe A C D d #[]
 have b:(execOp (aR c tmps (.inRegion ops (i::rest)::kk)).eval o).run F.P w = .ok (.value (.pointer (some a))) w∧(execOp (aR c tmps (.inRegion ops (i::rest)::kk)).eval o).events F.P w #[]=#[]:=by
  simp only [execOp,g,E x _ I]
  constructor
  ·simp [h1]
  ·simp [h2]
 rw [hX ho (fF p hw) (by rw [g]; rfl),← ir (rest:=rest) (k:=kk) (c:=c) (tmps:=tmps) (v:=.pointer (some a)) ho,ob (by simpa [aR] using G) b.1,b.2,seen_none]
theorem KW.conv{src dst:TypeId}{x:Operand}{a:Addr}(ho:ops[i]? = some o)(hw:ca ops st o=some true)(D:(c.kind == CallKind.early)=false)(G:o.op = .convert src dst x)(M:aY st x=some (.pointer (some a)))(hu:pB F.P src dst)(hd:bO o.dst c.n)
  (A:∀ s w,dA F s w→∃ v,w.cell? a=some v) {T':Lp} (b:T ≠ .us∧T ≠ .d4) (C:pQ F T #[]) (E:∀ s,cz T s T' s) (I:mG F j T T')
  (h:∀ p,cf c.n (bT o.dst (.pointer (some a)) st) p→lM F (KW F n k) k j T T' R H (aS (aR c p (.inRegion ops rest::kk)) c.cs)) :
  ∀ tmps,cf c.n st tmps→KW F (n+1) k j T R H (aS (aR c tmps (.inRegion ops (i::rest)::kk)) c.cs):=by
 intro tmps g S
 refine ⟨rfl,rfl,λ e=>by rcases e with e | e; exact absurd e b.1; exact absurd e b.2,λ w s N d O Q=>.inr ?_⟩
 obtain ⟨v,L⟩:=A s w d
 exact ⟨_,w,#[],T',s,E s,I,C,Gc ho hw D G M g hu L,bZ.refl d,h _ (g.put _ hd)⟩
theorem KM.conv{src dst:TypeId}{x:Operand}{a:Addr}{T0 T':Mp}(ho:ops[i]? = some o)(hw:ca ops st o=some true)(C:(c.kind == CallKind.early)=false)(E:o.op = .convert src dst x)(I:aY st x=some (.pointer (some a)))(hu:pB F.P src dst)(hd:bO o.dst c.n)
  (p:∀ s w,dA F s w→∃ v,w.cell? a=some v) (h1:∀ r,T0 ≠ .go r) (h2:T0 ≠ .wq) (A:ov F T0 #[]) (D:∀ s,ef T0 s T' s)
  (h:∀ g,cf c.n (bT o.dst (.pointer (some a)) st) g→Own F.P F.B true (KM F n T') R H (aS (aR c g (.inRegion ops rest::kk)) c.cs)) :
  ∀ tmps,cf c.n st tmps→KM F (n+1) T0 R H (aS (aR c tmps (.inRegion ops (i::rest)::kk)) c.cs):=by
 intro tmps d
 have key:∀ w s,Fits F.B R H w→dA F s w→hx F.N T0 s→(T0 = .w3∧s.ws=0∧stepG F.P true (aS (aR c tmps (.inRegion ops (i::rest)::kk)) c.cs) w = .go { aS (aR c tmps (.inRegion ops (i::rest)::kk)) c.cs with status:=.blocked } w #[]) ∨
   ∃ g' w' es T' s',ef T0 s T' s'∧ov F T0 es∧stepG F.P true (aS (aR c tmps (.inRegion ops (i::rest)::kk)) c.cs) w = .go g' w' es∧bZ F s' w w'∧Own F.P F.B true (KM F n T') R H g':=λ w s L b M=>by
  obtain ⟨v,G⟩:=p s w b
  exact .inr ⟨_,w,#[],T',s,D s,A,Gc ho hw C E I d hu G,bZ.refl b,h _ (d.put _ hd)⟩
 refine ⟨rfl,rfl,?_⟩
 cases T0 <;> first | exact absurd rfl (h1 _) | exact absurd rfl h2 | exact key
theorem wY:∀ s w,dA F s w→∃ v,w.cell? (am F)=some v:=λ _ _ h=>⟨_,h.cm⟩
theorem wZ:∀ s w,dA F s w→∃ v,w.cell? (aw F)=some v:=λ _ _ h=>⟨_,h.cg⟩
theorem AJ:∀ s w,dA F s w→∃ v,w.cell? (iQ F)=some v:=λ _ _ h=>⟨_,h.ua⟩
section
variable {P:Program} {B:Base} {main:Bool} {ae:Jd P B main} {tmps:aU} {todo:List Item} {f:FuncId} {ds:List Deferred} {args:aU}
theorem U.z7(b:c.ro=none)(h:∀ tmps,cf c.n st tmps→ae.J R H (aS (fa c tmps (.code .ret::kk)) c.cs)):U ae c R H st (.code .ret::kk):=λ tmps d =>
 Jd.ctl rfl (λ w=>by simp [stepG,stepG.exec,aS,aR,fa,b]) (h tmps d)
theorem U.toEnd(b:c.ro=none)(h:∀ tmps,cf c.n st tmps→ae.J R H (aS (fa c tmps []) c.cs)):U ae c R H st []:=λ tmps d =>
 Jd.ctl rfl (λ w=>by simp [stepG,stepG.exec,aS,aR,fa,b]) (h tmps d)
theorem Jd.unwind{fn:Func}(hd:c.defers=dcall f args::ds)(d:P.funcs[f]? = some fn)(g:(fn.name == "runtime.NumGoroutine")=false)(hb:fn.body.isNone=false)
  (h:ae.J R H (aS (Frame.enter P f args .deferred) (fa { c with defers:=ds } tmps todo::c.cs))):ae.J R H (aS (fa c tmps todo) c.cs):=by
 have b:=py (P:=P) (args:=args) d g hb
 refine Jd.ctl rfl (λ w=>?_) h
 simp [fa,aS,aR,stepG,Go.unwind,callDeferred,hd,dcall,invoke,(b w).1,(b w).2,GStep.after,seen_none]
theorem Jd.back{fr:Frame}{cs:List Frame}{g:FuncId}{m:Nat}{fn:Func}{vs:bn}(d:P.funcs[g]? = some fn)(C:cf m st tmps)(A:mw st fn.results.toList=some vs)(p:ae.J R H (aS (fr.finish (eE vs)) cs)):ae.J R H (aS (fa ⟨g,.normal,none,m,[],fr::cs⟩ tmps todo) (fr::cs)):=by
 have b:=Ag (P:=P) C A
 refine Jd.ctl rfl (λ w=>?_) p
 simp [fa,stepG,Go.unwind,doReturn,aS,aR,d,(b w).1,(b w).2,GStep.after,seen_none]
theorem U.defer{as:Array Operand}{eX:Array TypeId}{vs:bn}{st':St}(ho:ops[i]? = some o)(hw:ca ops st o=some true)(g:(c.kind == CallKind.early)=false)(A:c.ro=none)(p:o.op = .defer ⟨.value (.func f),as,eX⟩)(d:eO st as.toList=some vs)(hd:bO o.dst c.n)(C:aB (bT o.dst undef st) st')
  (h:U ae { c with defers:=dcall f vs.toArray::c.defers } R H st' (.inRegion ops rest::kk)):U ae c R H st (.inRegion ops (i::rest)::kk):=λ _ b =>
 Jd.ctl rfl (λ _=>step_defer ho hw g A p b d) (h _ ((b.put undef hd).sub C))
theorem aE.defer{J:QJ P}{as:Array Operand}{eX:Array TypeId}{vs:bn}{st':St}(ho:ops[i]? = some o)(hw:ca ops st o=some true)(g:(c.kind == CallKind.early)=false)(A:c.ro=none)(p:o.op = .defer ⟨.value (.func f),as,eX⟩)(d:eO st as.toList=some vs)(hd:bO o.dst c.n)(C:aB (bT o.dst undef st) st')
  (h:aE J { c with defers:=dcall f vs.toArray::c.defers } st' (.inRegion ops rest::kk)):aE J c st (.inRegion ops (i::rest)::kk):=λ _ b =>
 J.step rfl (λ _=>step_defer ho hw g A p b d) (h _ ((b.put undef hd).sub C))
theorem Ge{e:aU→Sem Value}{w w':World}{v:Value}{gF:Array Event}(hd:c.defers=dcall f args::ds)(g:ee P f e)(b:gQ P (e args) f w v w' gF) :
  stepG P main (aS (fa c tmps todo) c.cs) w = .go (aS (fa { c with defers:=ds } tmps todo) c.cs) w' gF:=by
 obtain ⟨fn,h1,h2,h3,h4,h5⟩:=g.ex
 obtain ⟨A,d,C⟩:=b
 have p:(callFunc f args).run P w = .ok (.value v) w':=by rw [run_callFunc_extern h1 h2 h3 h4 h5,A]; rfl
 have hl:seen P c.fn ((callFunc f args).events P w #[])=gF:=by
  rw [events_callFunc_extern h1 h2 h3 h4 h5]
  simp only [List.push_toArray,List.nil_append]
  rw [d,seen_entry _ _ _ C]
 simp [fa,aS,aR,stepG,Go.unwind,callDeferred,hd,dcall,invoke,p,GStep.after] at hl ⊢
 exact hl
theorem Rp{d:Nat}(hd:c.defers=dcall f args::ds)(b:ee P f (λ _=>do mark .enable; pure Extern.Race.none_))(h:∃ q,QuitsD P q (d - 1) (aS (fa { c with defers:=ds } tmps todo) c.cs)):∃ q,QuitsD P q d (aS (fa c tmps todo) c.cs):=by
 obtain ⟨q,g⟩:=h
 exact ⟨q+1,QuitsD.said ⟨.mark .enable,false,true⟩ rfl rfl (λ w=>Ge hd b (iX (by simp))) g⟩
end
theorem KM.unwind{f:FuncId}{args:aU}{ds:List Deferred}{tmps:aU}{todo:List Item}{r:Nat}(hd:c.defers=dcall f args::ds)(b:ee F.P f (λ _=>do mark .enable; pure Extern.Race.none_))
  (h:Own F.P F.B true (KM F n (.go r)) R H (aS (fa { c with defers:=ds } tmps todo) c.cs)):KM F (n+1) (.ke r) R H (aS (fa c tmps todo) c.cs) :=
 ⟨rfl,rfl,λ w s _ d _=>.inr ⟨_,w,_,_,s,.ke,rfl,Ge hd b (iX (by simp)),bZ.refl d,h⟩⟩
section
variable {P:Program} {B:Base} {main:Bool}
def mI(P:Program):Frame:={ (default:Frame) with fn:=P.funcs.size,defers:=[],mode:=.panicking [goexitEntry] }
def rA(P:Program)(d:Deferred):Goroutine:={ frame:={ (default:Frame) with fn:=P.funcs.size,defers:=[d],mode:=.panicking [goexitEntry] },callers:=[],status:=.running,dying:=none }
theorem Tc{b:Call}{d:Deferred}{tmps:aU}{w:World}(ho:ops[i]? = some o)(hw:ca ops st o=some true)(g:o.op = .go b)(A:cf c.n st tmps)(p:∀ C,Knows st C→aj P (resolve C b o.type) d)(hd:(d.target matches .nil)=false) :
  stepG P main (aS (aR c tmps (.inRegion ops (i::rest)::kk)) c.cs) w = .spawn (aS (aR c (dG o.dst undef tmps) (.inRegion ops rest::kk)) c.cs) (rA P d) w #[]:=by
 rw [hX ho (fF A hw) (by rw [g]; rfl)]
 have D:=A.knows c (.inRegion ops (i::rest)::kk)
 have:aj P (execOp (aR c tmps (.inRegion ops (i::rest)::kk)).eval o) (.spawn d):=by
  simp only [execOp,g]
  exact aj.bt (p _ D) (aj.bj _)
 have h:=this w
 rw [← ir (rest:=rest) (k:=kk) (c:=c) (tmps:=tmps) (v:=undef) ho]
 clear p this
 obtain ⟨E,G⟩:=d
 cases E <;> simp_all [stepG.apply,aS,GStep.after,seen_none,rA]
theorem Own.child{K:aA→ai→Goroutine→Prop}{f:FuncId}{args:aU}{d:Deferred}(hd:(d.target matches .nil)=false)(g:aj P (invoke d.target d.args) (.enter f args))(h:Own P B false K R H (aS (Frame.enter P f args .deferred) [mI P])):Own P B false K R H (rA P d):=by
 refine (s4 P B false K).step rfl λ w hw=>⟨_,w,#[],R,H,?_,by simp,dN.refl hw,h⟩
 have p:(match d.target with | .collected _=>false | _=>true)=true:=by
  cases A:d.target with
  | collected b =>
   rw [A] at g
   have:=(g w).1
   simp [invoke] at this
  | _=>rfl
 have C:=g w
 obtain ⟨D,E⟩:=d
 simp only at p C hd
 unfold stepG rA
 simp only
 unfold Go.unwind
 cases D with
 | collected b=>cases p
 | _=>simp_all [callDeferred,Sem.runT_eq,GStep.after,seen_none,aS,mI]
theorem Ty{f:FuncId}{captured args:aU}(he:aV P f):aj P (invoke (.fn (.func f) captured) args) (.enter f (args++captured)):=by
 obtain ⟨fn,h1,h2,h3⟩:=he.ex
 simp only [invoke]
 exact py h1 h2 h3
theorem RO{x:Operand}{b:Call}{f:FuncId}{cap:aU}{t:TypeId}(p:b.callee = .value x)(g:b.args=#[])(A:aY st x=some (.func (.func f) #[] cap))(d:Operand→Value)(C:Knows st d):aj P (resolve d b t) ⟨.fn (.func f) cap,#[]⟩:=by
 simp only [resolve,p,g,C x _ A,Deferred.ofValue]
 have e:(#[]:aU)++Array.map d #[]=#[]:=by simp
 rw [e]
 exact aj.bj _
theorem Ku{f:FuncId}{fn:Func}{body:Code}{args:bn}{m:Nat}{kd:CallKind}{cs:List Frame}(d:P.funcs[f]? = some fn)(hb:fn.body=some body)(p:fn.ntmps=m)(b:Nat.ble args.length m=true) :
  ∃ tmps,cf m (kh 0 args) tmps∧Frame.enter P f args.toArray kd=aR ⟨f,kd,none,m,[],cs⟩ tmps [.code body]:=by
 subst p
 have b:args.length≤fn.ntmps:=by simpa [Nat.ble_eq] using b
 refine ⟨args.toArray++Array.replicate (fn.ntmps - args.length) undef,⟨by simp; omega,λ t v A=>?_⟩,by simp [Frame.enter,aR,d,hb]⟩
 obtain ⟨_,h2⟩:=rl args 0 t v A
 have g:t < args.length:=by
  have:=(eL.1 h2).1
  simpa using this
 rw [Array.getElem?_append_left (by simpa using g)]
 simpa using h2
theorem Jd.enter{ae:Jd P B main}{f:FuncId}{fn:Func}{body:Code}{args:bn}{m:Nat}{kd:CallKind}{cs:List Frame}(b:P.funcs[f]? = some fn)(hb:fn.body=some body)(g:fn.ntmps=m)(d:Nat.ble args.length m=true)
  (h:U ae ⟨f,kd,none,m,[],cs⟩ R H (kh 0 args) [.code body]):ae.J R H (aS (Frame.enter P f args.toArray kd) cs):=by
 obtain ⟨tmps,p,e⟩:=Ku (kd:=kd) (cs:=cs) b hb g d
 rw [e]; exact h tmps p
theorem Rq:QuitsD P 1 0 (aS (mI P) []):=by
 refine .inr ⟨rfl,{ aS (mI P) [] with status:=.finished },#[],by simp,λ w=>?_,rfl,rfl⟩
 have e:(default:Frame).todo=[]:=rfl
 simp [stepG,Go.unwind,aS,mI,goexitEntry,Frame.catches,e]
end
theorem KM.spawn{b:Call}{d:Deferred}{r:Nat}(ho:ops[i]? = some o)(hw:ca ops st o=some true)(E:o.op = .go b)(G:∀ A,Knows st A→aj F.P (resolve A b o.type) d)(hd:(d.target matches .nil)=false)(D:bO o.dst c.n)
  (C:Own F.P F.B false (KW F n (F.N - (r+1)) 0 .ld) R [] (rA F.P d)) (h:∀ p,cf c.n (bT o.dst undef st) p→Own F.P F.B true (KM F n (fD r)) R H (aS (aR c p (.inRegion ops rest::kk)) c.cs)) :
  ∀ tmps,cf c.n st tmps→KM F (n+1) (.go r) R H (aS (aR c tmps (.inRegion ops (i::rest)::kk)) c.cs):=λ _ g =>
 ⟨rfl,rfl,λ _ _ _ _ _=>⟨_,_,Tc ho hw E g G hd,C,h _ (g.put undef D)⟩⟩
end
def s0:Sh:=⟨.zero,0,0,0,0⟩
theorem e4.crowd{F:Fx}{Post:Value→World→Prop}{R:aA}{A:ai}{g:Goroutine}{r:Nat}(ag:F.mj=e4 F.P F.B Post)(hN:F.N=r+1)(h:∀ n,Own F.P F.B true (KM F n (.ka r)) R A g) :
  e4 F.P F.B Post R ((F.bo,F.cont λ _=>0)::(F.bw,hZ F.tw s0)::(F.bm,hU F.tm s0)::A) g:=by
 intro gs w sl t q dd V E
 have af:=oF V
 have p:=E.fits
 have G:=p.nd
 simp only [List.map_cons,List.nodup_cons,c8,not_or,List.mem_map,not_exists] at G
 have S:(F.bo,F.cont λ _=>0)∈(F.bo,F.cont λ _=>0)::(F.bw,hZ F.tw s0)::(F.bm,hU F.tm s0)::A:=by simp
 have U:(F.bw,hZ F.tw s0)∈(F.bo,F.cont λ _=>0)::(F.bw,hZ F.tw s0)::(F.bm,hU F.tm s0)::A:=by simp
 have O:(F.bm,hU F.tm s0)∈(F.bo,F.cont λ _=>0)::(F.bw,hZ F.tw s0)::(F.bm,hU F.tm s0)::A:=by simp
 have out:∀ b,(b=F.bo∨b=F.bw∨b=F.bm)→R b=none∧∀ o',(b,o') ∉ A:=λ b hb=>by
  rcases hb with rfl | rfl | rfl
  ·exact ⟨p.dj _ _ S,λ o' I=>G.1.2.2 (F.bo,o') ⟨I,rfl⟩⟩
  ·exact ⟨p.dj _ _ U,λ o' I=>G.2.1.2 (F.bw,o') ⟨I,rfl⟩⟩
  ·exact ⟨p.dj _ _ O,λ o' I=>G.2.2.1 (F.bm,o') ⟨I,rfl⟩⟩
 have M:∀ n,cnt (b6 (λ _=>.no) 0 (.mn (.ka r))) n = .zero:=λ n=>by
  have z:∀ f:Cn→Nat,f .zero=0→cu n (λ i=>f (cA (b6 (λ _=>.no) 0 (.mn (.ka r)) i)))=0:=λ f p=>by
   have e:∀ i,f (cA (b6 (λ _=>.no) 0 (.mn (.ka r)) i))=0:=λ i=>by
    unfold b6; split <;> exact p
   have:=wy (b:=0) (f:=λ i=>f (cA (b6 (λ _=>.no) 0 (.mn (.ka r)) i))) (λ i=>by rw [e]; exact cq _) n
   omega
  unfold cnt
  simp only [z (·.ow) rfl,z (·.hl) rfl,z (·.pu) rfl,z (·.pc) rfl,z (·.al) rfl,z (·.z) rfl,z (·.a1) rfl,z (·.ak) rfl,z (·.ux) rfl,z (·.wk) rfl,z (·.lv) rfl,z (·.dw) rfl,z (·.d4) rfl]
  rfl
 have Y:∀ i k j T,b6 (λ _=>.no) 0 (.mn (.ka r)) i ≠ .wk k j T:=λ i k j T e=>by
  unfold b6 at e; split at e <;> cases e
 have Z:Bk F (31 * (gs.size+F.N)+1) (.ka r) (b6 (λ _=>.no) 0 (.mn (.ka r))) (λ _=>0) s0 gs.size:=by
  refine ⟨fg _ _ _,by simp,af,λ i hi=>dC (by omega),λ i T L=>?_,?_,?_,λ i k j T e=>absurd e (Y i k j T),λ i i' k j j' T T' e=>absurd e (Y i k j T),λ k W=>?_,λ k W=>rfl,by simp only [rem,hN]; omega⟩
  ·apply Classical.byContradiction
   intro ah
   rw [dC ah] at L; cases L
  ·rw [M]; constructor <;> simp [Cn.zero,s0,Wd.zero]
  ·rw [M]; refine ⟨by simp [fN,Cn.zero,s0],by simp [Cn.zero,Cn.ff],by simp [Cn.zero,Cn.ff,rem,hN]⟩
  ·simp only [rem,hN] at W; omega
 have ab:=E.d0
 obtain ⟨T,L⟩:=h (MM F (31 * (gs.size+F.N)+1) (b6 (λ _=>.no) 0 (.mn (.ka r))) s0 gs.size)
 refine MI.runs (F:=F) (Q:=31 * (gs.size+F.N)+1) (T0:=.ka r) (D:=b6 (λ _=>.no) 0 (.mn (.ka r))) (m:=λ i=>if i=0 then some T else some (jh (q i))) (js:=λ _=>0) (s:=s0) (th:=only ⟨R,A⟩) (mu:=λ _=>false) (dd:=dd) ag ⟨?_,?_,λ i x d=>?_,λ i hi=>⟨?_,rfl,E.dz i hi⟩,Z⟩
 ·rw [M]
  have sub:∀ i x,only ⟨R,A⟩ i=some x→i=0∧x=⟨R,A⟩:=λ i x d=>by
   unfold only at d; split at d
   ·cases d; exact ⟨‹_›,rfl⟩
   ·cases d
  refine ⟨λ i x d=>?_,λ i j x y ac d am=>?_,λ c o C=>?_,λ c o C i x d=>?_⟩
  ·obtain ⟨rfl,rfl⟩:=sub i x d
   exact ⟨p.r,λ b o hb=>p.h b o (by simp [hb]),G.2.2.2,λ b o hb=>p.dj b o (by simp [hb]),p.os,p.tape,p.out⟩
  ·obtain ⟨rfl,_⟩:=sub i x d
   obtain ⟨rfl,_⟩:=sub j y am
   exact absurd rfl ac
  ·rcases pb C with ⟨rfl,rfl⟩ | ⟨rfl,rfl⟩ | ⟨rfl,rfl,_⟩
   ·exact p.h _ _ O
   ·exact p.h _ _ U
   ·exact p.h _ _ S
  ·obtain ⟨rfl,rfl⟩:=sub i x d
   rcases pb C with ⟨rfl,rfl⟩ | ⟨rfl,rfl⟩ | ⟨rfl,rfl,_⟩
   ·exact out _ (.inr (.inr rfl))
   ·exact out _ (.inr (.inl rfl))
   ·exact out _ (.inl rfl)
 ·rw [M]
  refine cl.share (bs:=[F.bm,F.bw]) (b:=F.bo) E.tr (λ c C=>?_) (λ x d=>by simp [d]) _ _
  simp only [c8,List.not_mem_nil,or_false] at C
  rcases C with rfl | rfl | rfl
  ·exact ⟨_,S⟩
  ·exact ⟨_,O⟩
  ·exact ⟨_,U⟩
 ·by_cases hi:i=0
  ·subst hi
   rw [V] at d; cases d
   rw [fg]
   exact ⟨rfl,ab,rfl,⟨R,A⟩,_,rfl,cq _,.inl ⟨T,by simp,L⟩⟩
  ·rw [dC hi]
   refine ⟨by simp [only,hi],by omega,q i,by simp [hi],E.lv i x (by omega) d⟩
 ·have:i≠0:=by omega
  simp [only,this]
theorem S6:∀ (l w s:Fin 2) (n:Fin 6),let v:Int:=(l.1:Int)+2 * w.1+4 * s.1+8 * n.1;
  cC .and .i32 v 1=some (l.1:Int)∧cC .and .i32 v 2=some (2 * w.1:Int)∧cC .and .i32 v 3=some ((l.1:Int)+2 * w.1)∧cC .and .i32 v 4=some (4 * s.1:Int)∧cC .and .i32 v 5=some ((l.1:Int)+4 * s.1) ∧
  cC .and .i32 v 7=some ((l.1:Int)+2 * w.1+4 * s.1)∧cC .or .i32 v 1=some (1+2 * w.1+4 * s.1+8 * n.1:Int)∧cC .or .i32 v 2=some ((l.1:Int)+2+4 * s.1+8 * n.1)∧cC .or .i32 v 4=some ((l.1:Int)+2 * w.1+4+8 * n.1) ∧
  cC .andNot .i32 v 2=some ((l.1:Int)+4 * s.1+8 * n.1)∧eR .i32 v 3=some (n.1:Int):=by decide +kernel
section
variable {m:Wd} (h:m.ok 5)
include h
theorem Wd.jZ:cC .and .i32 m.val 1=some (m.l:Int)∧cC .and .i32 m.val 2=some (2 * m.w:Int)∧cC .and .i32 m.val 3=some ((m.l:Int)+2 * m.w)∧cC .and .i32 m.val 4=some (4 * m.s:Int)∧cC .and .i32 m.val 5=some ((m.l:Int)+4 * m.s) ∧
  cC .and .i32 m.val 7=some ((m.l:Int)+2 * m.w+4 * m.s)∧cC .or .i32 m.val 1=some (Wd.val { m with l:=1 })∧cC .or .i32 m.val 2=some (Wd.val { m with w:=1 })∧cC .or .i32 m.val 4=some (Wd.val { m with s:=1 }) ∧
  cC .andNot .i32 m.val 2=some (Wd.val { m with w:=0 })∧eR .i32 m.val 3=some (m.n:Int):=by
 obtain ⟨l,w,s,n⟩:=m
 obtain ⟨h1,h2,h3,h4⟩:=h
 have:=S6 ⟨l,by simp only at h1; omega⟩ ⟨w,by simp only at h2; omega⟩ ⟨s,by simp only at h3; omega⟩ ⟨n,by simp only at h4; omega⟩
 simpa [Wd.val] using this
theorem Wd.fit:0≤m.val∧m.val≤47:=by
 obtain ⟨h1,h2,h3,h4⟩:=h
 unfold Wd.val; omega
end
theorem wrap_i32{z:Int}(h1 : -2147483648≤z)(h2:z≤2147483647):IntKind.i32.wrap z=z:=by
 unfold IntKind.wrap
 simp [IntKind.signed,IntKind.bits]
 omega
theorem wrap_u32{z:Int}(h1:0≤z)(h2:z≤4294967295):IntKind.u32.wrap z=z:=by
 unfold IntKind.wrap
 simp [IntKind.signed,IntKind.bits]
 omega
theorem GN{z:Int}(h1:0≤z)(h2:z≤18446744073709551615):IntKind.u64.wrap z=z:=by
 unfold IntKind.wrap
 simp [IntKind.signed,IntKind.bits]
 omega
theorem TP{z:Int}(h1:4294967296≤z)(h2:z≤18446744073709551615):IntKind.u64.wrap (z+18446744069414584320)=z - 4294967296:=by
 unfold IntKind.wrap
 simp [IntKind.signed,IntKind.bits]
 omega
theorem S5:∀ (v:Fin 6) (w:Fin 2),let z:Int:=4294967296 * (v.1:Int)+w.1;
  cC .and .u64 z 2147483648=some 0∧cC .and .u64 z 2147483647=some (w.1:Int)∧eR .u64 z 32=some (v.1:Int):=by decide +kernel
theorem Ai{v w:Nat}(b:v≤5)(hw:w≤1):cC .and .u64 (4294967296 * (v:Int)+w) 2147483648=some 0∧cC .and .u64 (4294967296 * (v:Int)+w) 2147483647=some (w:Int)∧eR .u64 (4294967296 * (v:Int)+w) 32=some (v:Int):=by
 simpa using S5 ⟨v,by omega⟩ ⟨w,by omega⟩
class j7 (P:Program) where
 ki:Nat→Option IntKind
 ok:∀ t k,ki t=some k→P.underlying t=some (.int k)
def xh(bo:BinOp)(kd:IntKind)(a b:Int):Option Value :=
 match bo with
 | .eql=>some (.bool (a == b))
 | .neq=>some (.bool (a != b))
 | .lss=>some (.bool (decide (a < b)))
 | .leq=>some (.bool (decide (a≤b)))
 | .gtr=>some (.bool (decide (a > b)))
 | .geq=>some (.bool (decide (a ≥ b)))
 | .add=>some (.int kd (kd.wrap (a+b)))
 | .sub=>some (.int kd (kd.wrap (a - b)))
 | .and=>some (.int kd ((cC .and kd a b).getD 0))
 | .or=>some (.int kd ((cC .or kd a b).getD 0))
 | .andNot=>some (.int kd ((cC .andNot kd a b).getD 0))
 | _=>none
def uW(g:Nat→Nat→Option Nat)(ki:Nat→Option IntKind)(st:St)(o:Oper):Option Value :=
 match o.op with
 | .move x=>aY st x
 | .assign x=>aY st x
 | .nilCheck x=>match aY st x with
  | some (.pointer (some a))=>some (.pointer (some a))
  | _=>none
 | .pick x y z=>match aY st x with
  | some (.bool true)=>aY st y
  | some (.bool false)=>aY st z
  | _=>none
 | .unOp .not _ x=>match aY st x with
  | some (.bool a)=>some (.bool (!a))
  | _=>none
 | .binOp .shr _ x y _=>match aY st x,aY st y with
  | some (.int kd a),some (.int _ b)=>if b < 0 then none else some (.int kd (a.fdiv (2 ^ (min b.toNat kd.bits))))
  | _,_=>none
 | .binOp .shl _ x y _=>match aY st x,aY st y with
  | some (.int kd a),some (.int _ b)=>if b < 0 then none else some (.int kd (kd.wrap (a * 2 ^ (min b.toNat kd.bits))))
  | _,_=>none
 | .binOp bo _ x y _=>match aY st x,aY st y with
  | some (.int kd a),some (.int p b)=>if kd=p then xh bo kd a b else none
  | _,_=>none
 | .convert s d x=>match aY st x,ki s,ki d with
  | some (.int _ a),some _,some kd=>some (.int kd (kd.wrap a))
  | _,_,_=>none
 | .fieldAddr s x f=>match aY st x,g s f with
  | some (.pointer (some ⟨b,n,none⟩)),some off=>some (.pointer (some ⟨b,n+off,none⟩))
  | _,_=>none
 | _=>none
section
variable {P:Program} [gC P] [j7 P] {B:Base} {main:Bool} {ae:Jd P B main} {J:QJ P} {c:Ctx} {R:aA} {H:ai} {st st':St} {o:Oper} {k:List Item}
omit [gC P] [j7 P] in
theorem Gx{kd d:IntKind}{a b:Int}{t:TypeId}(hb:¬ b < 0):aj P (binOp .shr t (.int kd a) (.int d b)) (.int kd (a.fdiv (2 ^ (min b.toNat kd.bits))))∧aj P (binOp .shl t (.int kd a) (.int d b)) (.int kd (kd.wrap (a * 2 ^ (min b.toNat kd.bits)))):=by
 constructor <;> (simp only [binOp,Op.shift,if_false,hb]; exact aj.bj _)
omit [gC P] [j7 P] in
theorem Tq{bo:BinOp}{kd:IntKind}{a b:Int}{t:TypeId}{v:Value}(h:xh bo kd a b=some v):aj P (binOp bo t (.int kd a) (.int kd b)) v:=by
 unfold xh at h
 cases bo <;> simp only [ey,reduceCtorEq] at h <;> subst h <;> simp only [binOp,ne_eq,fW,if_false,Op.intArith,Op.intBits,cC,gP] <;> exact aj.bj _
theorem DR{v:Value}(h:uW (gC.off P) (j7.ki P) st o=some v)(hd:bO o.dst c.n):j8 P c o st v:=by
 unfold uW at h
 split at h
 ·rename_i x g; exact OV.move g hd h
 ·rename_i x g; exact OV.assign g hd h
 ·rename_i x g
  split at h
  ·rename_i p; cases h; exact OV.nilCheck g hd p
  ·cases h
 ·rename_i x y z g
  split at h
  ·rename_i p; exact OV.Rf g hd p h
  ·rename_i p; exact OV.Re g hd p h
  ·cases h
 ·rename_i t x g
  split at h
  ·rename_i p; cases h; exact OV.not g hd p
  ·cases h
 ·rename_i t x y u g
  split at h
  ·rename_i kd a C b p A
   split at h
   ·cases h
   ·rename_i hb; cases h; exact OV.bin g hd p A (Gx hb).1
  ·cases h
 ·rename_i t x y u g
  split at h
  ·rename_i kd a C b p A
   split at h
   ·cases h
   ·rename_i hb; cases h; exact OV.bin g hd p A (Gx hb).2
  ·cases h
 ·rename_i bo t x y u _ _ g
  split at h
  ·rename_i kd a C b p A
   split at h
   ·rename_i e; subst e; exact OV.bin g hd p A (Tq h)
   ·cases h
  ·cases h
 ·rename_i s d x g
  split at h
  ·rename_i M a L kd p G E
   cases h
   refine ⟨by rw [g]; rfl,hd,λ N I=>?_⟩
   simp only [execOp,g,I x _ p]
   refine aj.bt ?_ (aj.bj _)
   unfold convert
   exact aj.bt (aj.underlying (j7.ok _ _ G)) (aj.bt (aj.underlying (j7.ok _ _ E)) (aj.bj _))
  ·cases h
 ·rename_i s x f g
  split at h
  ·rename_i p D; cases h; exact OV.fieldAddr g hd p (gC.ok s f _ D)
  ·cases h
 ·cases h
def zV(b:Nat→Nat→Option Nat)(ki:Nat→Option IntKind)(ops:Array Oper)(n:Nat)(st:St)(i:Nat):Option St :=
 match ops[i]? with
 | none=>none
 | some o=>match ca ops st o with
  | some true=>match uW b ki st o,o.dst with
   | some v,some d=>if Nat.blt d n=true then some ((d,v)::st) else none
   | _,_=>none
  | some false=>match gH o.op,o.dst with
   | false,some d=>if Nat.blt d n=true then some ((d,undef)::st) else none
   | false,none=>some st
   | _,_=>none
  | none=>none
def jr(b:Nat→Nat→Option Nat)(ki:Nat→Option IntKind)(ops:Array Oper)(n:Nat):List Nat→St→Option St
 | [],st=>some st
 | i::is,st=>match zV b ki ops n st i with
  | some st'=>jr b ki ops n is st'
  | none=>none
theorem Ga{ops:Array Oper}{n i:Nat}{g:Nat→Nat→Option Nat}{ki:Nat→Option IntKind}(h:zV g ki ops n st i=some st'):∃ o,ops[i]? = some o ∧
  ((ca ops st o=some true∧∃ v d,uW g ki st o=some v∧o.dst=some d∧bO (some d) n∧st'=(d,v)::st) ∨
   (ca ops st o=some false∧gH o.op=false∧bO o.dst n∧st'=bT o.dst undef st)):=by
 unfold zV at h
 split at h
 ·cases h
 ·rename_i o ho
  refine ⟨o,ho,?_⟩
  split at h
  ·rename_i hw
   split at h
   ·rename_i v d p hd
    split at h
    ·rename_i hl; cases h; exact .inl ⟨hw,v,d,p,hd,hl,rfl⟩
    ·cases h
   ·cases h
  ·rename_i hw
   split at h
   ·rename_i d b hd
    split at h
    ·rename_i hl; cases h; exact .inr ⟨hw,b,by rw [hd]; exact hl,by rw [hd]; rfl⟩
    ·cases h
   ·rename_i b hd
    cases h; exact .inr ⟨hw,b,by rw [hd]; rfl,by rw [hd]; rfl⟩
   ·cases h
  ·cases h
theorem U.jr{ops:Array Oper}(g:(c.kind == CallKind.early)=false):∀ {is rest:List Nat} {st:St},Go.Lg.jr (gC.off P) (j7.ki P) ops c.n is st=some st'→U ae c R H st' (.inRegion ops rest::k)→U ae c R H st (.inRegion ops (is++rest)::k)
 | [],rest,st,h,b=>by cases h; exact b
 | i::is,rest,st,h,b=>by
  unfold Go.Lg.jr at h
  split at h
  ·rename_i D h1
   have p:=U.jr g h b
   obtain ⟨o,ho,⟨hw,v,d,A,hd,hl,rfl⟩ | ⟨hw,C,hl,rfl⟩⟩:=Ga h1
   ·exact U.val ho hw g (DR A (by rw [hd]; exact hl)) (by rw [hd]; exact aB.refl _) p
   ·exact U.unwanted ho hw hl (aB.refl _) p
  ·cases h
theorem aE.jr{ops:Array Oper}(g:(c.kind == CallKind.early)=false):∀ {is rest:List Nat} {st:St},Go.Lg.jr (gC.off P) (j7.ki P) ops c.n is st=some st'→aE J c st' (.inRegion ops rest::k)→aE J c st (.inRegion ops (is++rest)::k)
 | [],rest,st,h,b=>by cases h; exact b
 | i::is,rest,st,h,b=>by
  unfold Go.Lg.jr at h
  split at h
  ·rename_i D h1
   have p:=aE.jr g h b
   obtain ⟨o,ho,⟨hw,v,d,A,hd,hl,rfl⟩ | ⟨hw,C,hl,rfl⟩⟩:=Ga h1
   ·exact aE.val ho hw g (DR A (by rw [hd]; exact hl)) (by rw [hd]; exact aB.refl _) p
   ·exact aE.unwanted ho hw hl (aB.refl _) p
  ·cases h
theorem U.lv(m:Nat){ops:Array Oper}{is b:List Nat}(d:U ae c R H st' (.inRegion ops b::k))(h:Go.Lg.jr (gC.off P) (j7.ki P) ops c.n (is.take m) st=some st':=by rfl)(p:is.drop m=b:=by rfl)(g:(c.kind == CallKind.early)=false:=by rfl):U ae c R H st (.inRegion ops is::k):=by
 subst p
 have:=U.jr (rest:=is.drop m) g h d
 rwa [List.take_append_drop] at this
theorem aE.lv(m:Nat){ops:Array Oper}{is b:List Nat}(d:aE J c st' (.inRegion ops b::k))(h:Go.Lg.jr (gC.off P) (j7.ki P) ops c.n (is.take m) st=some st':=by rfl)(p:is.drop m=b:=by rfl)(g:(c.kind == CallKind.early)=false:=by rfl):aE J c st (.inRegion ops is::k):=by
 subst p
 have:=aE.jr (rest:=is.drop m) g h d
 rwa [List.take_append_drop] at this
end
section
variable {P:Program} {B:Base} {main:Bool} {ae:Jd P B main} {J:QJ P} {c:Ctx} {R:aA} {H:ai} {st st':St} {k:List Item}
theorem U.is(t:Nat){v v':Value}{todo:List Item}(d:st.lookup t=some v)(b:v=v')(h:U ae c R H ((t,v')::st) todo):U ae c R H st todo:=by
 subst b
 refine U.sub (λ u x hu=>?_) h
 rw [List.lookup_cons] at hu
 split at hu
 ·rename_i e; rw [beq_iff_eq] at e; subst e; rw [d]; exact hu
 ·exact hu
theorem aE.is(t:Nat){v v':Value}{todo:List Item}(d:st.lookup t=some v)(b:v=v')(h:aE J c ((t,v')::st) todo):aE J c st todo:=by
 subst b
 refine aE.sub (λ u x hu=>?_) h
 rw [List.lookup_cons] at hu
 split at hu
 ·rename_i e; rw [beq_iff_eq] at e; subst e; rw [d]; exact hu
 ·exact hu
theorem aE.rg(is:List Nat){id:Nat}{ops:Array Oper}(h:aE J c st (.inRegion ops is::k))(d:ops.size=is.length:=by rfl)(b:List.range is.length=is:=by rfl):aE J c st (.code (.region id ops false)::k):=aE.region d b h
def fJ(P:Program)(J K:Goroutine→Prop)(f:FuncId)(vs:bn):Prop :=
 ∀ fr cs,K (aS (Frame.finish fr (eE [])) cs)→J (aS (Frame.enter P f vs.toArray .normal) (fr::cs))
variable {ops:Array Oper} {i:Nat} {rest:List Nat} {o:Oper} {f:FuncId} {as:Array Operand} {eX:Array TypeId} {vs:bn} {K:Goroutine→Prop}
theorem U.ll(ho:ops[i]? = some o)(hw:ca ops st o=some true)(D:(c.kind == CallKind.early)=false)(d:o.op = .call ⟨.value (.func f),as,eX⟩)(A:eO st as.toList=some vs)(he:aV P f)(hd:bO o.dst c.n)
  (C:fJ P (ae.J R H) K f vs) (h:∀ p,cf c.n (bT o.dst (eE []) st) p→K (aS (aR c p (.inRegion ops rest::k)) c.cs)):U ae c R H st (.inRegion ops (i::rest)::k):=λ tmps b=>by
 obtain ⟨fn,h1,h2,h3⟩:=he.ex
 have g:aj P (execOp (aR c tmps (.inRegion ops (i::rest)::k)).eval o) (.enter f vs.toArray):=by
  rw [pR d b A]
  exact py h1 h2 h3
 refine Jd.ctl rfl (λ w=>?_) (C (aR c tmps (.inRegion ops (i::rest)::k)) c.cs ?_)
 ·rw [hX ho (fF b hw) (by rw [d]; rfl),rj rfl (by simpa [aR] using D) (g w).1,(g w).2]
  rfl
 ·rw [ir ho]
  exact h _ (b.put _ hd)
theorem fJ.ha{fn:Func}{body:Code}{n:Nat}(b:P.funcs[f]? = some fn)(hb:fn.body=some body)(p:fn.ntmps=n)(g:Nat.ble vs.length n=true)
  (h:∀ fr cs,K (aS (Frame.finish fr (eE [])) cs)→U ae ⟨f,.normal,none,n,[],fr::cs⟩ R H (kh 0 vs) [.code body]):fJ P (ae.J R H) K f vs:=λ fr cs d=>Jd.enter b hb p g (h fr cs d)
theorem U.il{m:Nat}{fn:Func}{fr:Frame}{cs:List Frame}{todo:List Item}(d:P.funcs[f]? = some fn)(p:fn.results.toList=[])(g:ae.J R H (aS (fr.finish (eE [])) cs))(hm:todo=[]∨∃ k,todo = .code .ret::k):U ae ⟨f,.normal,none,m,[],fr::cs⟩ R H st todo:=by
 have key:∀ tmps todo,cf m st tmps→ae.J R H (aS (fa ⟨f,.normal,none,m,[],fr::cs⟩ tmps todo) (fr::cs)):=λ tmps todo b=>Jd.back d b (by rw [p]; rfl) g
 rcases hm with rfl | ⟨k,rfl⟩
 ·exact U.toEnd rfl λ tmps b=>key tmps _ b
 ·exact U.z7 rfl λ tmps b=>key tmps _ b
end
section
variable {P:Program} {main:Bool} {c:Ctx} {st:St} {k:List Item} {ops:Array Oper} {i:Nat} {rest:List Nat} {o:Oper} {f:FuncId} {as:Array Operand} {eX:Array TypeId} {vs:bn}
theorem SW{tmps:aU}{w:World}(ho:ops[i]? = some o)(hw:ca ops st o=some true)(C:(c.kind == CallKind.early)=false)(b:o.op = .call ⟨.value (.func f),as,eX⟩)(A:ee P f Extern.OsHooks.nano)(D:(P.funcs[f]?).any (·.norace)=true)(d:cf c.n st tmps)(g:eO st as.toList=some vs) :
  stepG P main (aS (aR c tmps (.inRegion ops (i::rest)::k)) c.cs) w = .go (aS (aR c (dG o.dst (.int .i64 ((w.os.mono+w.tick:Nat):Int)) tmps) (.inRegion ops rest::k)) c.cs) w.later #[]:=by
 obtain ⟨fn,h1,h2,h3,h4,h5⟩:=A.ex
 have G:(Extern.OsHooks.nano vs.toArray).run P w = .ok (.int .i64 ((w.os.mono+w.tick:Nat):Int)) w.later:=rfl
 rw [hX ho (fF d hw) (by rw [b]; rfl),← ir (rest:=rest) (k:=k) (c:=c) (tmps:=tmps) (v:=.int .i64 ((w.os.mono+w.tick:Nat):Int)) ho,pR b d g]
 have E:(callFunc f vs.toArray).run P w = .ok (.value (.int .i64 ((w.os.mono+w.tick:Nat):Int))) w.later:=by rw [run_callFunc_extern h1 h2 h3 h4 h5,G]; rfl
 rw [ob (by simpa [aR] using C) E]
 congr 1
 rw [events_callFunc_extern h1 h2 h3 h4 h5]
 simp only [List.push_toArray,List.nil_append]
 have p:(Extern.OsHooks.nano vs.toArray).events P w #[⟨.mark (.extern f),false,true⟩]=#[⟨.mark (.extern f),false,true⟩]++#[⟨.output,true,false⟩]:=rfl
 rw [p,seen_entry_out _ _ D]
end
section
variable {F:Fx} {c:Ctx} {R:aA} {H:ai} {st:St} {kk:List Item} {ops:Array Oper} {i:Nat} {rest:List Nat} {o:Oper} {f:FuncId} {as:Array Operand} {eX:Array TypeId} {vs:bn} {n k j:Nat} {T:Lp}
theorem KW.nano(p:∀ w:World,F.B.os w.os→F.B.os w.later.os)(ho:ops[i]? = some o)(hw:ca ops st o=some true)(E:(c.kind == CallKind.early)=false)(G:o.op = .call ⟨.value (.func f),as,eX⟩)(D:ee F.P f Extern.OsHooks.nano)(I:(F.P.funcs[f]?).any (·.norace)=true)(A:eO st as.toList=some vs)(hd:bO o.dst c.n)
  (b:T ≠ .us∧T ≠ .d4) (C:pQ F T #[])
  (h:iJ F.N T→∀ z:Int,∃ T',(∀ s,cz T s T' s)∧mG F j T T'∧∀ g,cf c.n (bT o.dst (.int .i64 z) st) g→lM F (KW F n k) k j T T' R H (aS (aR c g (.inRegion ops rest::kk)) c.cs)) :
  ∀ tmps,cf c.n st tmps→KW F (n+1) k j T R H (aS (aR c tmps (.inRegion ops (i::rest)::kk)) c.cs):=by
 intro tmps d M
 refine ⟨rfl,rfl,λ e=>by rcases e with e | e; exact absurd e b.1; exact absurd e b.2,λ w s O L Q S=>.inr ?_⟩
 obtain ⟨T',h1,h2,h3⟩:=h M ((w.os.mono+w.tick:Nat):Int)
 exact ⟨_,w.later,#[],T',s,h1 s,h2,C,SW ho hw E G D I d A,bZ.later L (p w),h3 _ (d.put _ hd)⟩
end
section
variable {F:Fx} {c:Ctx} {R:aA} {H:ai} {st:St} {todo:List Item} {n k j:Nat} {T T':Lp} {T0:Mp}
theorem U.SY(h:∀ m,m < n→∀ tmps,cf c.n st tmps→KW F (m+1) k j T R H (aS (aR c tmps todo) c.cs)):U (s4 F.P F.B false (KW F n k j T)) c R H st todo:=λ tmps b=>by
 cases n with
 | zero=>exact Own.stop _ _ _ _ trivial
 | succ n=>exact Own.stop _ _ _ _ (h n (Nat.lt_succ_self n) tmps b)
theorem U.SX(h:∀ m,m < n→∀ tmps,cf c.n st tmps→KM F (m+1) T0 R H (aS (aR c tmps todo) c.cs)):U (s4 F.P F.B true (KM F n T0)) c R H st todo:=λ tmps b=>by
 cases n with
 | zero=>exact Own.stop _ _ _ _ trivial
 | succ n=>exact Own.stop _ _ _ _ (h n (Nat.lt_succ_self n) tmps b)
theorem hE(h:T ≠ .ue):mG F j T T':=by unfold mG; split <;> first | trivial | exact absurd rfl h
theorem Me(c:Lc):hd c = .sq c∨hd c = .c2 c:=by unfold hd; split; exact .inl rfl; exact .inr rfl
theorem SR(c:Lc):fb c = .c1 c∨fb c = .r1 c:=by unfold fb; split; exact .inl rfl; exact .inr rfl
theorem Mh(m:Wd):hu m = .ue∨hu m = .uc m:=by unfold hu; split; exact .inl rfl; exact .inr rfl
theorem vz{K:Nat→Lp→aA→ai→Goroutine→Prop}{c:Lc}{g:Goroutine}(h:Own F.P F.B false (K j (hd c)) R H g):lM F K k j T (hd c) R H g:=by rcases Me c with e | e <;> rw [e] at h ⊢ <;> exact h
theorem QC{K:Nat→Lp→aA→ai→Goroutine→Prop}{c:Lc}{g:Goroutine}(h:Own F.P F.B false (K j (fb c)) R H g):lM F K k j T (fb c) R H g:=by rcases SR c with e | e <;> rw [e] at h ⊢ <;> exact h
theorem Fa{K:Nat→Lp→aA→ai→Goroutine→Prop}{m:Wd}{g:Goroutine}(h:Own F.P F.B false (K j (hu m)) R H g):lM F K k j T (hu m) R H g:=by rcases Mh m with e | e <;> rw [e] at h ⊢ <;> exact h
end
section
variable {P:Program} {B:Base} {main:Bool} {ae:Jd P B main} {c:Ctx} {R:aA} {H:ai} {st st':St} {k:List Item} {ops:Array Oper} {i:Nat} {rest:List Nat} {o:Oper} {f:FuncId} {as:Array Operand} {eX:Array TypeId} {e:aU→Sem Value} {vs:bn} {v:Value}
theorem U.ext(ho:ops[i]? = some o)(hw:ca ops st o=some true)(A:(c.kind == CallKind.early)=false)(C:o.op = .call ⟨.value (.func f),as,eX⟩)(hd:bO o.dst c.n)(p:ee P f e)(g:eO st as.toList=some vs)
  (d:∀ w,gQ P (e vs.toArray) f w v w #[]) (D:aB (bT o.dst v st) st') (h:U ae c R H st' (.inRegion ops rest::k)):U ae c R H st (.inRegion ops (i::rest)::k):=λ _ b =>
 Jd.ctl rfl (λ w=>te ho hw A C p b g (d w)) (h _ ((b.put v hd).sub D))
theorem yr{w:World}:gQ P (pure v) f w v w #[]:=⟨rfl,rfl,by simp⟩
theorem U.join{x:Operand}{th el:Code}{b:Bool}(d:aY st x=some (.bool b))(h1:b=true→U ae c R H st' k→U ae c R H st (.code th::k))(h2:b=false→U ae c R H st' k→U ae c R H st (.code el::k))(h:U ae c R H st' k):U ae c R H st (.code (.cond x th el)::k):=by
 cases b
 ·exact U.cU d rfl (h2 rfl h)
 ·exact U.dF d rfl (h1 rfl h)
theorem U.head{X:Type}{Jn:Nat→X→Jd P B main}{S:X→St}{ok:X→Prop}{todo:List Item}(step:∀ n,(∀ m,m < n→∀ x,ok x→U (Jn m x) c R H (S x) todo)→∀ x,ok x→U (Jn n x) c R H (S x) todo)(n:Nat)(x:X)(b:ok x):U (Jn n x) c R H (S x) todo:=by
 induction n using Nat.strongRecOn generalizing x with
 | _ n d=>exact step n (λ m hm x b=>d m hm x b) x b
end
open Go.ChangeShapes Go.RowKit
open Go.ConcM (OsLater)
section
variable {P:Program} {B:Base} {PW:Value→World→Prop} {R:aA} {H:ai} {st:St} {k:List Item}
theorem e4.IH{g:Goroutine}(I:g.status = .running)(h:∀ w,Fits B R H w→∃ v w' es R' H',stepG P true g w = .ended (.done v) w' es∧(∀ e∈es,eM R H w.heap.size w'.heap.size e)∧dN B R H w R' H' w'∧PW v w'):e4 P B PW R H g:=by
 refine e4.pick I λ gs w sl M d t q dd D b L=>?_
 obtain ⟨v,w',es,R',H',h1,h2,hu,h3⟩:=h _ b.fits
 have G:=runT_many_ended (P:=P) (sl:=M) (i:=0) D (show stepG P (0 == 0) g (w.at d)=_ from h1)
 have p:=s5 b.mem zn zl b.tr (i:=0) rfl (.inl rfl) h2 (.inl rfl) hu g.frame.fn g.frame.place
 rw [vI] at p
 refine fY.end (L.trans G) ⟨v,rfl,h3,p.2.clean,p.2.handed,⟨λ x C=>?_,rfl⟩,λ j x C A=>?_⟩
 ·obtain ⟨j,A⟩:=List.mem_iff_getElem?.1 C
  rw [List.getElem?_drop] at A
  exact ⟨_,(b.lv (1+j) x (by omega) (by simpa [Go.Conc.crowd] using A)).leaves⟩
 ·have E:=b.lv j x (by omega) C
  refine ⟨q j,?_⟩
  have e:Trace.deaf _ j _=dd j:=p.2.deaf j
  rw [e]
  exact E.hears _
def tz(P:Program)(B:Base)(PW:Value→World→Prop)(f:FuncId)(args:aU)(R:aA)(H:ai)(Post:Value→aA→ai→Prop):Prop :=
 (∀ v R' H' w,Post v R' H'→Fits B R' H' w→PW v w)→e4 P B PW R H (aS (Frame.enter P f args .normal) [])
theorem tz.ha{f:FuncId}{fn:Func}{body:Code}{args:bn}{n:Nat}{Post:Value→aA→ai→Prop}(d:P.funcs[f]? = some fn)(hb:fn.body=some body)(A:fn.ntmps=n)(b:Nat.ble args.length n=true)
  (h:(∀ v R' H' w,Post v R' H'→Fits B R' H' w→PW v w)→U (pd P B PW) ⟨f,.normal,none,n,[],[]⟩ R H (kh 0 args) [.code body]):tz P B PW f args.toArray R H Post:=by
 subst A
 intro g
 have b:args.length≤fn.ntmps:=by simpa [Nat.ble_eq] using b
 have:=h g (args.toArray++Array.replicate (fn.ntmps - args.length) undef) ⟨by simp; omega,λ t v C=>?_⟩
 ·have e:Frame.enter P f args.toArray .normal=aR ⟨f,.normal,none,fn.ntmps,[],[]⟩ (args.toArray++Array.replicate (fn.ntmps - args.length) undef) [.code body]:=by
   simp [Frame.enter,aR,d,hb]
  rw [e]
  exact this
 ·obtain ⟨_,h2⟩:=rl args 0 t v C
  have p:t < args.length:=by
   have:=(eL.1 h2).1
   simpa using this
  rw [Array.getElem?_append_left (by simpa using p)]
  simpa using h2
theorem U.qP{H':ai}{f:FuncId}{n:Nat}{fn:Func}{vs:bn}{Post:Value→aA→ai→Prop}(b:P.funcs[f]? = some fn)(hi:P.inits.idxOf? f=none)(p:gR P R H st fn.results.toList vs)(A:List.Sublist H' H)
  (d:∀ v R' H' w,Post v R' H'→Fits B R' H' w→PW v w) (g:Post (eE vs) R H'):U (pd P B PW) ⟨f,.normal,none,n,[],[]⟩ R H st (.code .ret::k):=λ tmps C=>by
 refine Jd.ctl (g':=aS { (aR ⟨f,.normal,none,n,[],[]⟩ tmps (.code .ret::k)) with mode:=.returning } []) rfl (λ w=>by simp [stepG,stepG.exec,aS,aR])
  (e4.IH rfl λ w hw=>?_)
 obtain ⟨v,w',R',H2,h1,h2,h3,rfl,rfl,rfl⟩:=vX (P:=P) C p w hw
 refine ⟨eE vs,w',seen P f ((results fn tmps).events P w #[]),_,_,?_,λ e he=>h2 e (mem_seen he),h3,d _ _ _ _ g (wF A h3.fits).fits⟩
 simp [stepG,unwind,doReturn,aS,aR,b,h1,GStep.after,hi]
end
def g8(W:World):aA:=λ b=>W.heap[b]?
def pH(W:World):Base:=⟨OsLater W.os,W.tape,W.output⟩
theorem Mf(W:World):Fits (pH W) (g8 W) [] W:=⟨λ _ _ h=>h,by simp,by simp,by simp,OsLater.refl _,rfl,rfl⟩
theorem HV{W w:World}(h:(pH W).os w.os):(pH W).os w.later.os:=OsLater.trans h ⟨w.tick,rfl⟩
theorem Qv{P:Program}{PW:Value→World→Prop}{W:World}{g:Goroutine}(h:e4 P (pH W) PW (g8 W) [] g) :
  ∃ M last o w' t',runNT P (M+1) (solo g W) #[]=(.ended o w',t')∧runN P M (solo g W) = .next last∧step P last = .ended o w'∧Conc.Good P PW last o w' t':=by
 have A:∀ k a,touchAt (#[]:Trace) k=some a→False:=λ k a p=>by simp [touchAt,Trace.act?] at p
 refine h #[g] W none #[] (λ _=>0) (λ _=>0) rfl ⟨⟨λ i x d=>?_,λ i j x y E d C=>?_,by simp,by simp⟩,⟨λ i x d b o hb k a p=>(A k a p).elim,λ i x d b o hb k a p=>(A k a p).elim,λ b hb=>(by cases hb),λ b hb=>(by cases hb),by simp,λ k a p=>(A k a p).elim,λ i=>rfl,λ a i hi=>(by simp [Trace.act?] at hi),λ said=>?_,λ k a p=>(A k a p).elim⟩,rfl,λ _ _=>rfl,λ i g' hi D=>?_⟩
 ·unfold only at d
  split at d
  ·cases d; exact Mf W
  ·cases d
 ·unfold only at d C
  split at d
  ·split at C
   ·omega
   ·cases C
  ·cases d
 ·rintro ⟨i,j,_,⟨a,b,h1,_⟩,_⟩
  exact A i a h1
 ·have:i < 1:=(Array.getElem?_eq_some_iff.1 D).1
  omega
theorem HW{W w:World}{R:aA}{H:ai}(h:Fits (pH W) R H w)(b:aK (g8 W) R):Below W.heap.size W { w with os:=W.os }:=by
 have hb:∀ k,k < W.heap.size→w.heap[k]? = W.heap[k]? := λ k d=>by
  have e:W.heap[k]? = some W.heap[k]:=h0 d
  rw [e]
  exact h.r k _ (b k _ e)
 refine ⟨rfl,h.tape,h.out,?_,hb⟩
 by_cases g:W.heap.size=0
 ·omega
 ·have h1:=hb (W.heap.size - 1) (by omega)
  rw [h0 (xs:=W.heap) (by omega)] at h1
  have:=(Array.getElem?_eq_some_iff.1 h1).1
  show W.heap.size≤w.heap.size
  omega
structure dT (P:Program) (t:TypeId) {α:Type} (C:bY α) (k:Nat):Prop where
 size:P.cellsOf t=k
 rd:∀ (W:World) (T:Type) (enc:TypeId × Value→T) (sp:Nat→Bool) (held:Bool) (fuel:Nat) (cs:bn) (x:DataW T × List MemPlace),DataW.trod enc P W 0 sp held fuel t cs=some x→cs.length=k∧∃ a,C (g8 W) a cs
theorem dT.int{P:Program}{t:TypeId}{kd:IntKind}(b:P.cellsOf t=1)(d:P.underlying t=some (.int kd)):dT P t (CI kd) 1:=⟨b,λ W T enc sp held fuel cs x h=>by
 obtain ⟨n,rfl,_,_⟩:=DataW.trod_int d h
 exact ⟨rfl,n,rfl⟩⟩
theorem dT.str{P:Program}{t:TypeId}(b:P.cellsOf t=1)(d:P.underlying t=some .string):dT P t CS 1:=⟨b,λ W T enc sp held fuel cs x h=>by
 obtain ⟨s,rfl,_,_⟩:=DataW.trod_string d h
 exact ⟨rfl,s,rfl⟩⟩
theorem G7(a:Addr)(i j:Nat)(h:a.spot=none):(a.add i).add j=⟨a.block,a.off+(i+j),none⟩:=by
 obtain ⟨b,o,s⟩:=a
 cases h
 rw [jy,jy,Nat.add_assoc]
theorem dT.slice{P:Program}{t e:TypeId}{α:Type}{C:bY α}{k:Nat}(Y:P.cellsOf t=1)(Z:P.underlying t=some (.slice e))(N:0 < k)(he:dT P e C k):dT P t (fz C k) 1:=⟨Y,λ W T enc sp held fuel cs x h=>by
 rcases DataW.trod_slice Z h with ⟨rfl,_⟩ | ⟨a,len,cap,elems,rest,n,_,rfl,_,_,hl,_,hlen,L,_⟩
 ·exact ⟨rfl,[],_,rfl,aa.nil⟩
 refine ⟨rfl,?_⟩
 rw [he.size] at L
 have each:∀ i:Fin len,∃ (p:α × bn),C (g8 W) p.1 p.2∧p.2.length=k∧∀ j w,p.2[j]? = some w→W.cell? ((a.add (i * k)).add j)=some w:=λ i=>by
  have h1:=L i i.2
  rw [fy (by omega),Option.bind_eq_some_iff] at h1
  obtain ⟨ch,h2,h3⟩:=h1
  obtain ⟨h4,y,ac⟩:=he.rd _ _ _ _ _ _ _ _ h3
  refine ⟨(y,ch),ac,h4,λ j w d=>?_⟩
  have h5:=(World.cells?_some h2).2.2 j (by have:=(eL.1 d).1; simp only at this; omega)
  rw [h5]
  exact d
 have O:0 < len→a.spot=none:=λ D=>by
  obtain ⟨p,_,h2,h3⟩:=each ⟨0,D⟩
  have h4:=h3 0 p.2[0] (fy (by omega))
  simpa [Addr.add] using World.cell?_spot h4
 let f:Fin len→α × bn:=λ i=>(each i).choose
 have A:∀ i,_:=λ i=>(each i).choose_spec
 let xs:List α:=List.ofFn λ i=>(f i).1
 let es:bn:=(List.range (len * k)).map λ m=>(W.cell? ⟨a.block,a.off+m,none⟩).getD undef
 have E:xs.length=len:=by simp [xs]
 have cell:∀ i j w (hi:i < len),(f ⟨i,hi⟩).2[j]? = some w→W.cell? ⟨a.block,a.off+(i * k+j),none⟩=some w:=λ i j w hi d=>by
  have:=(A ⟨i,hi⟩).2.2 j w d
  rwa [G7 _ _ _ (O (by omega))] at this
 have idx:∀ i j,i < len→j < k→i * k+j < len * k:=λ i j hi d=>by
  have:(i+1) * k≤len * k:=Nat.mul_le_mul_right k hi
  rw [Nat.add_mul] at this
  omega
 refine ⟨xs,_,rfl,some a,cap,es,by rw [E],⟨by simp [es,E],λ i x I=>?_⟩,by omega,λ V=>?_⟩
 ·have hi:i < len:=by rw [← E]; exact (eL.1 I).1
  have ab:x=(f ⟨i,hi⟩).1:=by
   simp only [xs,List.getElem?_ofFn,hi,dif_pos,ey] at I
   exact I.symm
  subst ab
  refine ⟨(f ⟨i,hi⟩).2,(A ⟨i,hi⟩).1,(A ⟨i,hi⟩).2.1,λ j w d=>?_⟩
  have U:j < k:=by have:=(eL.1 d).1; rw [(A ⟨i,hi⟩).2.1] at this; exact this
  simp only [es,List.getElem?_map,List.getElem?_range (idx i j hi U),Option.map_some,cell i j w hi d,gP]
 ·have D:0 < len:=by rw [← E]; exact List.length_pos_iff.2 V
  obtain ⟨b,o,s⟩:=a
  obtain rfl:s=none:=O D
  have all:∀ m,m < len * k→∃ w,W.cell? ⟨b,o+m,none⟩=some w:=λ m hm=>by
   have hi:m / k < len:=Nat.div_lt_of_lt_mul (by rw [Nat.mul_comm]; exact hm)
   have d:m % k < (f ⟨m / k,hi⟩).2.length:=by rw [(A ⟨m / k,hi⟩).2.1]; exact Nat.mod_lt _ N
   have:=cell (m / k) (m % k) _ hi (fy d)
   rw [show m / k * k+m % k=m by rw [Nat.mul_comm]; exact Nat.div_add_mod m k] at this
   exact ⟨_,this⟩
  have S:∃ arr e g,W.heap[b]? = some (.cells arr e g):=by
   obtain ⟨w,hw⟩:=all 0 (Nat.mul_pos D N)
   unfold World.cell? at hw
   simp only at hw
   split at hw
   ·rename_i c G g hb
    exact ⟨c,G,g,hb⟩
   ·cases hw
  obtain ⟨arr,G,g,hb⟩:=S
  refine ⟨b,o,arr,G,g,rfl,hb,λ j w d=>?_⟩
  have M:j < len * k:=by have:=(eL.1 d).1; simpa [es] using this
  obtain ⟨w',Q⟩:=all j M
  simp only [es,List.getElem?_map,List.getElem?_range M,Option.map_some,Q,gP,ey] at d
  subst d
  simpa [World.cell?,hb] using Q⟩
theorem dT.field{P:Program}{t:TypeId}{α:Type}{C:bY α}{k:Nat}(hC:dT P t C k){W:World}{T:Type}{enc:TypeId × Value→T}{sp:Nat→Bool}{held:Bool}{n:Nat}{cs:bn}{xs:List (DataW T × List MemPlace)}{i m:Nat}{f:Field}(es:bn)(d:xs.length=m)
  (h:DataW.trod enc P W 0 sp held n f.type ((cs.drop f.offset).take (P.cellsOf f.type))=xs[i]?) (hi:Nat.blt i m=true:=by rfl) (b:f.type=t:=by rfl) (he:(cs.drop f.offset).take k=es:=by rfl):∃ a,C (g8 W) a es:=by
 rw [b,hC.size,he,fy (by rw [d]; simpa [Nat.blt_eq] using hi)] at h
 exact (hC.rd _ _ _ _ _ _ _ _ h).2
theorem Gl{T:Type}{enc:TypeId × Value→T}{P:Program}(hl:laidOutB P=true){W D:World}(hb:Below W.heap.size W D) :
  ∀ {ts:List TypeId} {vs:bn} {ds:List (DataW T)} {C:List MemPlace},(ts.all λ t=>P.readableRec t && decide (t < P.types.size))=true→DataW.TrodAll enc P W 0 (λ _=>true) true ts vs ds C→(∀ x∈C,x.block < W.heap.size) →
   DataW.TrodAll enc P D 0 (λ b=>decide (b < W.heap.size)) true ts vs ds C
 | [],[],[],_,_,h,_=>h
 | t::ts,v::vs,d::ds,_,g,⟨p,q,h1,h2,e⟩,E=>by
  subst e
  simp only [List.all_cons,cO,decide_eq_true_eq] at g
  exact ⟨p,q,Below.trod hl g.1.1 g.1.2 h1 hb (λ x A=>E x (by simp [A])),Gl hl hb g.2 h2 (λ x A=>E x (by simp [A])),rfl⟩
 | [],[],_::_,_,_,h,_=>h.elim
 | [],_::_,_,_,_,h,_=>h.elim
 | _::_,[],_,_,_,h,_=>h.elim
 | _::_,_::_,[],_,_,h,_=>h.elim
theorem TL{T:Type}{enc:TypeId × Value→T}{C:Checked}{os:Os}{f:FuncId}{fn:Func}{s:ChangeSpec}{conds:List PathCond}{apart:Bool}{X:World→aU→Prop}(b:World)(args:aU)(fuel:Nat)(g:b.os=os)
  (A:(b.forCall (λ _ _=>0) ⟨#[],args,[]⟩).Shaped C.prog)
  (d:Input.okWideB C.prog (b.forCall (λ _ _=>0) ⟨#[],args,[]⟩) f ⟨#[],args,[]⟩=true)
  (p:s.preB enc C.prog fn conds apart (b.forCall (λ _ _=>0) ⟨#[],args,[]⟩).memory args fuel=true)
  (D:s.sizedB enc C.prog fn apart (b.forCall (λ _ _=>0) ⟨#[],args,[]⟩).memory args fuel=true)
  (E:X (b.forCall (λ _ _=>0) ⟨#[],args,[]⟩).memory args) :
  ∃ (w:World) (tape:Tape) (i:Input),w.os=os∧(w.forCall tape i).Shaped C.prog∧i.vars=[]∧Input.okWide C.prog (w.forCall tape i) .any w.heap.size f i ∧
   ((s.pre enc C.prog fn conds apart (w.forCall tape i).memory i.args∧X (w.forCall tape i).memory i.args)∧sizedMet enc C.prog fn (OpenSpec.ofChange s) apart (w.forCall tape i).memory i.args)∧({ calm:=true }:Assume).holds C.prog (lone (Frame.enter C.prog f i.args .normal) [] (w.forCall tape i)) :=
 ⟨b,λ _ _=>0,⟨#[],args,[]⟩,g,A,(Input.okWide_of_okWideB (base:=0) d).1,(Input.okWide_of_okWideB d).2,⟨⟨ChangeSpec.pre_of_preB p,E⟩,sizedMet_of_sizedB D⟩,by
  simp only [Assume.holds]
  exact ⟨by simp,λ _ _ _ _=>rfl,by simp,by simp,by simp⟩⟩
theorem Nv{T:Type}{enc:TypeId × Value→T}{a:Assume}{C:Checked}{os:Os}{f:FuncId}{fn:Func}{s:ChangeSpec}{F:Stop.Interp}{conds:List PathCond}{apart fresh handsOn:Bool}{X:World→aU→Prop}
  (p:∀ (w w':World) (args:aU),w.heap=w'.heap→X w args→X w' args)
  (own:ownKnob C.prog.godebug=none) (started:os.Started) (A:C.prog.funcs[f]? = some fn)
  (witness:∃ (w:World) (tape:Tape) (i:Input),w.os=os∧(w.forCall tape i).Shaped C.prog∧i.vars=[]∧Input.okWide C.prog (w.forCall tape i) .any w.heap.size f i ∧
   ((s.pre enc C.prog fn conds apart (w.forCall tape i).memory i.args∧X (w.forCall tape i).memory i.args)∧sizedMet enc C.prog fn (OpenSpec.ofChange s) apart (w.forCall tape i).memory i.args)∧a.holds C.prog (lone (Frame.enter C.prog f i.args .normal) [] (w.forCall tape i)))
  (runs:∀ (W:World) (base:Nat) (args:aU) (ds gs:List (DataW T)) (before:List MemPlace),
   (∀ (j:Nat) t v,fn.params[j]? = some t→args[j]? = some v→Value.okWide C.prog W .any base t v) →
   DataW.Whole enc C.prog fn.params.toList s.vars apart W args.toList ds gs before→X W args →
   ∃ M last o w' t',runNT C.prog (M+1) (solo (aS (Frame.enter C.prog f args .normal) []) W) #[]=(.ended o w',t')∧runN C.prog M (solo (aS (Frame.enter C.prog f args .normal) []) W) = .next last ∧
    Go.step C.prog last = .ended o w'∧Conc.Good C.prog (λ v b=>s.post enc C.prog fn apart fresh handsOn false W args v { b with os:=W.os }∧OsLater W.os b.os) last o w' t') :
  ReturnsInLeavingWide a C os f .any (λ w args=>(s.pre enc C.prog fn conds apart w args∧X w args)∧sizedMet enc C.prog fn (OpenSpec.ofChange s) apart w args) ((OpenSpec.ofChange s).postWith enc C.prog fn F (outsideKept [.timePasses]) apart fresh handsOn):=by
 refine returnsInLeavingWide_of_good own started witness ?_
 intro w tape i _ _ _ E G _
 obtain ⟨_,_,_,g,D,_,_,_,_,I⟩:=E
 have e:g=fn:=eI (D.symm.trans A)
 subst e
 obtain ⟨⟨⟨ds,gs,before,hw,O⟩,N⟩,_⟩:=G
 have L:=DataW.Whole.of_heap (w':=w.forCall tape i) (by rfl) hw
 obtain ⟨M,last,o,w',t',h1,h2,h3,h4⟩:=runs (w.forCall tape i) w.heap.size i.args ds gs before I L (p _ _ _ (by rfl) N)
 exact ⟨M,last,o,w',t',h1,h2,h3,h4.mono λ v d=>postWith_blind (postWith_of_post d.1 d.2)⟩
theorem Rj{T:Type}{enc:TypeId × Value→T}{P:Program}{fn:Func}{s:ChangeSpec}{apart fresh handsOn again:Bool}{W w:World}{args:aU}{ds gs:List (DataW T)}{before:List MemPlace}{C:TypeId}
  (hl:laidOutB P=true) (L:(fn.params.toList.all λ t=>P.readableRec t && decide (t < P.types.size))=true) (A:s.vars=[]) (M:fn.resultTypes=#[C]) (N:P.underlying C=some .bool)
  (hW:DataW.Whole enc P fn.params.toList s.vars apart W args.toList ds gs before) (G:again=false) (hb:Below W.heap.size W w)
  (h1:(s.fn T (ds++[])).results=[.lit (.bool true)]) (h2:(s.fn T (ds++[])).args=ds) (h3:(s.fn T (ds++[])).vars=[]):s.post enc P fn apart fresh handsOn again W args (.bool true) w:=by
 have g:=hW
 have I:∀ x∈before,x.block < W.heap.size:=λ x b=>by simpa using g.lt x b
 obtain ⟨p,q,E,d,e,_,_⟩:=hW
 rw [A] at d
 obtain ⟨e1,D⟩:=trodVars_none d
 subst e1 D e
 refine ⟨ds,[],p++[],[],p,[],g,?_,?_,by rw [A,h3]; rfl,hb.frame _,λ h=>by rw [G] at h; cases h⟩
 ·rw [h1,M]
  exact trodAll_mk1 (shut_bool N true)
 ·rw [h2]
  exact Gl hl hb L E (λ x b=>I x (by simp [b]))
theorem BP{W:World}{b o:Nat}{v:Value}(h:W.cell? ⟨b,o,none⟩=some v):Cell (g8 W) [] ⟨b,o,none⟩ v:=by
 unfold World.cell? at h
 simp only at h
 split at h
 ·rename_i c e d hb
  exact ⟨rfl,c,e,d,.inl hb,by simpa using h⟩
 ·cases h
end Go.Lg
