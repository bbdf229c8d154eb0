/- What enters and leaves the machine; the run of a row. Conditions: none. -/
import Derived.Test.YtoaoffinglajbaaGreatDoorQBLgC
import Derived.Test.YtoaoffinglajbaaGreatDoorQBLgB
import Derived.Conc.EventLaws
import Derived.Conc.LeavingOf
import Derived.Handed
import Derived.LaidMore
import Derived.Below
import Derived.Carry
import Derived.SizedLaws
namespace Go.Lg
open Go.Conc
section
variable {P:Program} {B:Base} {main:Bool} {af:Jd P B main} {c:Ctx} {R:ay} {H:aj} {st aa:St} {o:Oper} {C:ay→aj→St→Prop} {k:List Item}
theorem Ox.makeChan{t:TypeId}{x:Operand}{dir:ChanDir}{e:TypeId}(f:o.op = .makeChan t x)(E:a2 st x=some (.int .i64 0))(hu:P.underlying t=some (.chan dir e))(hi:∃ i,P.info? e=some i∧i.bytes≤65536)(A:bQ o.dst c.n)
  (z:∀ b,R b=none→(∀ y,(b,y) ∉ H)→∃ aa,aA (bJ o.dst (.chan (some b)) st) aa∧C R ((b,.chan 0 #[] false 0 0 false)::H) aa):aJ P B c o R H st C :=
 Ox.mem (s:=λ d=>Instr.makeChan t (d x)) (by rw [f]; rfl) A (λ d=>by simp only [execOp,f]) (λ d F=>by
  rw [F x _ E]
  unfold Instr.makeChan
  obtain ⟨i,D,G⟩:=hi
  refine al.bV (a:=0) (al.bc _) (al.bV (al.underlying hu) (al.bV (al.typeInfo D) ?_))
  have e1:¬ ((0:Int) < 0∨(0:Int) > IntKind.i64.max∨(i.bytes:Int) * 0 > 2 ^ 48 - 112):=by
   simp only [IntKind.max]
   rintro (h | h | h)
   ·omega
   ·exact absurd h (by decide)
   ·simp at h
  rw [if_neg e1]
  exact aE.bK (aE.new λ b g m=>aE.bR (z b g m)))
theorem r1(fn:FuncId):seen P fn #[]=#[]:=rfl
theorem wc{fr:Frame}{cs:List Frame}{s:Sem Next}{w:World}{cases:Array CommCase}{b:Bool}{shape:CommShape}(d:al P s (.comm cases b shape)):stepG.apply P true fr cs none s w = .comm (bk fr cs) cases b shape w #[]:=by
 have h:=d w
 simp [stepG.apply,h.1,h.2,bk,GStep.after,r1]
theorem AT{ops:Array Oper}{i:Nat}{rest:List Nat}{x y:Operand}{d:Nat}{v:Value}{tmps:Array Value}{Nx:ay→aj→Goroutine→Prop}(m:ops[i]? = some o)(hw:cJ ops st o=some true)(s:o.op = .send x y)(E:a2 st x=some (.chan (some d)))(F:a2 st y=some v)(D:bQ o.dst c.n)(f:eg c.n st tmps)
  (A:∀ z,eg c.n (bJ o.dst undef st) z→Nx R H (bk (bf c z (.inRegion ops rest::k)) c.cs)):m0 P B main d v Nx (.tuple #[]) R H (bk (bf c tmps (.inRegion ops (i::rest)::k)) c.cs):=by
 refine ⟨rfl,λ w _=>?_,?_⟩
 ·rw [kr m (gJ f hw) (by rw [s]; rfl)]
  have g:=f.knows c (.inRegion ops (i::rest)::k)
  have:al P (execOp (bf c tmps (.inRegion ops (i::rest)::k)).eval o) (.comm #[scase d v (.tuple #[])] true .send):=by
   simp only [execOp,s,g x _ E,g y _ F]; exact al.bc _
  exact wc this
 ·have:=A _ (f.put undef D)
  rw [← jo (rest:=rest) (k:=k) (c:=c) (tmps:=tmps) (v:=undef) m] at this
  exact this
theorem vB{ops:Array Oper}{i:Nat}{rest:List Nat}{x:Operand}{t:TypeId}{d:Bool}{m:Nat}{z:Value}{dir:ChanDir}{e:TypeId}{tmps:Array Value}{y:Value→ay→aj→Goroutine→Prop}{A:ay→aj→Goroutine→Prop}(s:ops[i]? = some o)(hw:cJ ops st o=some true)(E:o.op = .recv t x d)(J:a2 st x=some (.chan (some m)))
  (hu:P.underlying t=some (.chan dir e)) (K:al P (zeroValue e) z) (D:bQ o.dst c.n) (g:eg c.n st tmps)
  (F:∀ v f,eg c.n (bJ o.dst (recvd d v true) st) f→y v R H (bk (bf c f (.inRegion ops rest::k)) c.cs)) (G:∀ f,eg c.n (bJ o.dst (recvd d z false) st) f→A R H (bk (bf c f (.inRegion ops rest::k)) c.cs)) :
  AtR P B main m d y A z R H (bk (bf c tmps (.inRegion ops (i::rest)::k)) c.cs):=by
 refine ⟨rfl,λ w _=>?_,λ v=>?_,?_⟩
 ·rw [kr s (gJ g hw) (by rw [E]; rfl)]
  have I:=g.knows c (.inRegion ops (i::rest)::k)
  have:al P (execOp (bf c tmps (.inRegion ops (i::rest)::k)).eval o) (.comm #[rcase m z] true (.recv d)):=by
   simp only [execOp,E,I x _ J]
   refine al.bj (al.underlying hu) ?_
   refine al.bj K (al.bc _)
  exact wc this
 ·have:=F v _ (g.put _ D)
  rw [← jo (rest:=rest) (k:=k) (c:=c) (tmps:=tmps) s] at this
  exact this
 ·have:=G _ (g.put _ D)
  rw [← jo (rest:=rest) (k:=k) (c:=c) (tmps:=tmps) s] at this
  exact this
def hr(P:Program):Frame:={ (default:Frame) with fn:=P.funcs.size,defers:=[],mode:=.panicking [goexitEntry] }
def qT(P:Program)(d:Deferred):Goroutine:={ frame:={ (default:Frame) with fn:=P.funcs.size,defers:=[d],mode:=.panicking [goexitEntry] },callers:=[],status:=.running,dying:=none }
theorem AS{ops:Array Oper}{i:Nat}{rest:List Nat}{cl:Call}{d:Deferred}{tmps:Array Value}{w:World}(f:ops[i]? = some o)(hw:cJ ops st o=some true)(g:o.op = .go cl)(s:eg c.n st tmps)(m:∀ y,Knows st y→al P (resolve y cl o.type) d)(E:(d.target matches .nil)=false) :
  stepG P main (bk (bf c tmps (.inRegion ops (i::rest)::k)) c.cs) w = .spawn (bk (bf c (dQ o.dst undef tmps) (.inRegion ops rest::k)) c.cs) (qT P d) w #[]:=by
 rw [kr f (gJ s hw) (by rw [g]; rfl)]
 have z:=s.knows c (.inRegion ops (i::rest)::k)
 have:al P (execOp (bf c tmps (.inRegion ops (i::rest)::k)).eval o) (.spawn d):=by
  simp only [execOp,g]
  exact al.bj (m _ z) (al.bc _)
 have h:=this w
 rw [← jo (rest:=rest) (k:=k) (c:=c) (tmps:=tmps) (v:=undef) f]
 clear m this
 obtain ⟨A,D⟩:=d
 cases A <;> simp_all [stepG.apply,bk,GStep.after,r1,qT]
theorem Own.child{K:ay→aj→Goroutine→Prop}{f:FuncId}{args:Array Value}{d:Deferred}(s:(d.target matches .nil)=false)(g:al P (invoke d.target d.args) (.enter f args))(h:Own P B false K R H (bk (Frame.enter P f args .deferred) [hr P])):Own P B false K R H (qT P d):=by
 refine (jb P B false K).step rfl λ w hw=>⟨_,w,#[],R,H,?_,by simp,c5.refl hw,h⟩
 have m:(match d.target with | .collected _=>false | _=>true)=true:=by
  cases y:d.target with
  | collected b =>
   rw [y] at g
   have:=(g w).1
   simp [invoke] at this
  | _=>rfl
 have z:=g w
 obtain ⟨A,D⟩:=d
 simp only at m z s
 unfold stepG qT
 simp only
 unfold unwind
 cases A with
 | collected b=>cases m
 | _=>simp_all [callDeferred,Sem.runT_eq,GStep.after,r1,bk,hr]
theorem Be{f:FuncId}{captured args:Array Value}(he:aT P f):al P (invoke (.fn (.func f) captured) args) (.enter f (args++captured)):=by
 obtain ⟨fn,d,g,m⟩:=he.ex
 simp only [invoke]
 exact vD d g m
theorem Ai{x:Operand}{cl:Call}{f:FuncId}{cap:Array Value}{t:TypeId}(m:cl.callee = .value x)(g:cl.args=#[])(s:a2 st x=some (.func (.func f) #[] cap))(d:Operand→Value)(y:Knows st d):al P (resolve d cl t) ⟨.fn (.func f) cap,#[]⟩:=by
 simp only [resolve,m,g,y x _ s,Deferred.ofValue]
 have e:(#[]:Array Value)++Array.map d #[]=#[]:=by simp
 rw [e]
 exact al.bc _
theorem countdown{ι:Type}{J:Nat→ι→Jd P B main}{C:Nat→ι→ay→aj→St→Prop}{todo:List Item}(d:∀ a R H st,C 0 a R H st→U (J 0 a) c R H st todo)
  (f:∀ n,(∀ a R H st,C n a R H st→U (J n a) c R H st todo)→∀ a R H st,C (n+1) a R H st→U (J (n+1) a) c R H st todo):∀ n a R H st,C n a R H st→U (J n a) c R H st todo:=by
 intro n
 induction n with
 | zero=>exact d
 | succ n g=>exact f n g
theorem zV{K:ay→aj→Goroutine→Prop}{f:FuncId}{fn:Func}{body:Code}{args:List Value}{n:Nat}{kd:CallKind}{cs:List Frame}(m:P.funcs[f]? = some fn)(hb:fn.body=some body)(y:fn.ntmps=n)(g:Nat.ble args.length n=true)
  (h:U (jb P B main K) ⟨f,kd,none,n,[],cs⟩ R H (lU 0 args) [.code body]):Own P B main K R H (bk (Frame.enter P f args.toArray kd) cs):=by
 subst y
 have g:args.length≤fn.ntmps:=by simpa [Nat.ble_eq] using g
 have:=h (args.toArray++Array.replicate (fn.ntmps - args.length) undef) ⟨by simp; omega,λ t v z=>?_⟩
 ·have e:Frame.enter P f args.toArray kd=bf ⟨f,kd,none,fn.ntmps,[],cs⟩ (args.toArray++Array.replicate (fn.ntmps - args.length) undef) [.code body]:=by
   simp [Frame.enter,bf,m,hb]
  rw [e]
  exact this
 ·obtain ⟨_,d⟩:=qB args 0 t v z
  have s:t < args.length:=by
   have:=(ep.1 d).1
   simpa using this
  rw [Array.getElem?_append_left (by simpa using s)]
  simpa using d
theorem KT{fn:Func}(d:fn.results=#[])(tmps:Array Value):al P (results fn tmps) (.tuple #[]) :=
 Mh (st:=[]) (n:=tmps.size) (vs:=[]) ⟨rfl,λ _ _ h=>by cases h⟩ (by rw [d]; rfl)
theorem Ab{f:FuncId}{fn:Func}{n:Nat}{tmps:Array Value}{ops:Array Oper}(d:P.funcs[f]? = some fn)(g:fn.results=#[]):QuitsIn P 5 (bk (bf ⟨f,.deferred,none,n,[],[hr P]⟩ tmps [.inRegion ops []]) [hr P]):=by
 refine .inr ⟨rfl,bk (bf ⟨f,.deferred,none,n,[],[hr P]⟩ tmps []) [hr P],λ w=>by simp [stepG,stepG.exec,bk,bf],?_⟩
 refine .inr ⟨rfl,bk { (bf ⟨f,.deferred,none,n,[],[hr P]⟩ tmps []) with mode:=.returning } [hr P],λ w=>by simp [stepG,stepG.exec,bk,bf],?_⟩
 refine .inr ⟨rfl,bk (hr P) [],λ w=>?_,?_⟩
 ·have h:=KT (P:=P) g tmps w
  simp [stepG,unwind,bk,bf,d,h.1,h.2,GStep.after,r1,doReturn,hr,goexitEntry]
 refine .inr ⟨rfl,{ bk (hr P) [] with status:=.finished },λ w=>?_,.inl rfl⟩
 have e:(default:Frame).todo=[]:=rfl
 simp [stepG,unwind,bk,hr,goexitEntry,Frame.catches,e]
theorem L5{ops:Array Oper}{i:Nat}{rest:List Nat}{x:Operand}{ts:Array TypeId}{d n:Nat}{tmps:Array Value}(g:ops[i]? = some o)(hw:cJ ops st o=some true)(m:o.op = .call ⟨.builtin .close,#[x],ts⟩)(G:a2 st x=some (.chan (some d)))(D:(c.kind == .early)=false)(y:eg c.n st tmps)
  (E:∀ J,QuitsIn P n (bk (bf c J (.inRegion ops rest::k)) c.cs)):vP P B d R H (bk (bf c tmps (.inRegion ops (i::rest)::k)) c.cs):=by
 refine ⟨rfl,by simp [mayWake,bk,bf,g,m],_,n,λ w s r I L f=>?_,E (dQ o.dst (.tuple #[]) tmps)⟩
 rw [kr g (gJ y hw) (by rw [m]; rfl)]
 have A:=y.knows c (.inRegion ops (i::rest)::k)
 have K:=eQ f
 have e1:execOp (bf c tmps (.inRegion ops (i::rest)::k)).eval o=(do let x ← Builtin.close_ ts o.type #[.chan (some d)]; pure (.value x)):=by
  simp only [execOp,m,resolve,invoke,builtin]
  have:(#[x].map (bf c tmps (.inRegion ops (i::rest)::k)).eval)=#[.chan (some d)]:=by simp [A x _ G]
  rw [this]
  rfl
 have F:(execOp (bf c tmps (.inRegion ops (i::rest)::k)).eval o).run P w = .ok (.value (.tuple #[])) (w.shut d s r I):=by
  rw [e1]
  simp [run_close_open (P:=P) (w:=w) _ _ f,World.shut]
 have z:(execOp (bf c tmps (.inRegion ops (i::rest)::k)).eval o).events P w #[]=#[⟨.obj d,false,true⟩,⟨.obj d,true,true⟩]:=by
  rw [e1]
  simp [events_close_open (P:=P) (w:=w) _ _ f]
 rw [← jo (rest:=rest) (k:=k) (c:=c) (tmps:=tmps) (v:=.tuple #[]) g]
 rw [sE (fr:=bf c tmps (.inRegion ops (i::rest)::k)) (by simpa [bf] using D) F,z]
 simp [seen]
theorem MJ.crowd{bP:Value→World→Prop}{cf cd n:Nat}{s:aj}{g:Goroutine}(h:Own P B true (hZ P B cf cd (MJ P B bP) n []) R s g) :
  MJ P B bP R ((cd,.chan 0 #[] false 0 0 false)::(cf,.chan 0 #[] false 0 0 false)::s) g:=by
 intro gs w sl t q M I
 obtain ⟨T,N⟩:=h
 have S:=h7 M
 have f:=I.fits
 have G:=f.nd
 simp only [List.map_cons,List.nodup_cons,cO,not_or,List.mem_map,not_exists] at G
 have ga:(cf,Obj.chan 0 #[] false 0 0 false)∈(cd,Obj.chan 0 #[] false 0 0 false)::(cf,Obj.chan 0 #[] false 0 0 false)::s:=by simp
 have h5:(cd,Obj.chan 0 #[] false 0 0 false)∈(cd,Obj.chan 0 #[] false 0 0 false)::(cf,Obj.chan 0 #[] false 0 0 false)::s:=by simp
 have hm:dY B (only ⟨R,s⟩) [(cf,.chan 0 #[] false 0 0 false),(cd,.chan 0 #[] false 0 0 false)] w:=by
  refine ⟨λ i x d=>?_,λ i j x y Y d L=>?_,λ c o z=>?_,λ c o z i x d=>?_⟩
  ·unfold only at d; split at d
   ·cases d
    exact ⟨f.r,λ b o hb=>f.h b o (by simp [hb]),G.2.2,λ b o hb=>f.dj b o (by simp [hb]),f.os,f.tape,f.out⟩
   ·cases d
  ·unfold only at d L; split at d
   ·split at L
    ·omega
    ·cases L
   ·cases d
  ·simp only [cO,List.not_mem_nil,or_false,Prod.mk.injEq] at z
   rcases z with ⟨rfl,rfl⟩ | ⟨rfl,rfl⟩
   ·exact f.h _ _ ga
   ·exact f.h _ _ h5
  ·unfold only at d; split at d
   ·cases d
    simp only [cO,List.not_mem_nil,or_false,Prod.mk.injEq] at z
    rcases z with ⟨rfl,rfl⟩ | ⟨rfl,rfl⟩
    ·exact ⟨f.dj _ _ ga,λ o' K=>G.2.1 (c,o') ⟨K,rfl⟩⟩
    ·exact ⟨f.dj _ _ h5,λ o' K=>G.1.2 (c,o') ⟨K,rfl⟩⟩
   ·cases d
 have V:c9 (only ⟨R,s⟩) [(cf,.chan 0 #[] false 0 0 false),(cd,.chan 0 #[] false 0 0 false)] none w.heap.size t:=by
  have A:=I.tr
  have sub:∀ i x,only ⟨R,s⟩ i=some x→i=0∧x=⟨R,s⟩:=λ i x d=>by
   unfold only at d; split at d
   ·cases d; exact ⟨‹_›,rfl⟩
   ·cases d
  refine ⟨λ i x d b o hb k a E F=>?_,λ i x d b o hb k a E F hw=>?_,λ c o z i x d k a E F=>?_,A.low,λ k a E hm=>?_,A.clean,A.quiet⟩
  ·obtain ⟨rfl,rfl⟩:=sub i x d
   exact A.own 0 _ rfl b o (by simp [show (b,o)∈s from hb]) k a E F
  ·obtain ⟨rfl,rfl⟩:=sub i x d
   exact A.read 0 _ rfl b o hb k a E F hw
  ·obtain ⟨rfl,rfl⟩:=sub i x d
   refine .inr (A.own 0 _ rfl c (.chan 0 #[] false 0 0 false) ?_ k a E F)
   simp only [cO,List.not_mem_nil,or_false,Prod.mk.injEq] at z
   rcases z with ⟨rfl,rfl⟩ | ⟨rfl,rfl⟩
   ·exact ga
   ·exact h5
  ·rcases A.all k a E hm with ⟨j,x,d,Q⟩ | ⟨c,p,e,_⟩
   ·unfold only at d; split at d
    ·rename_i e; subst e; exact .inl ⟨0,_,rfl,Q⟩
    ·cases d
   ·cases e
 refine PI.runs (cf:=cf) (cd:=cd) (bI:=false) (bO:=false) (s1:=0) (s2:=0) (D:=λ i=>if i=0 then .ms n [] (some T) else if i < gs.size then .lv (q i) else .lv 0) (th:=only ⟨R,s⟩) (b6:=false) (cls:=none) ⟨λ e=>G.1.1 e.symm,hm,V,λ i x d=>?_,λ i hi=>?_,?_,S⟩
 ·by_cases hi:i=0
  ·subst hi
   rw [M] at d; cases d
   exact ⟨⟨_,rfl,.inl ⟨T,rfl,N⟩⟩,rfl⟩
  ·have J:=h7 d
   simp only [hi,if_false,J,if_true,only]
   exact ⟨rfl,I.lv i x (by omega) d,by omega⟩
 ·have O:i≠0:=by omega
  have J:¬ i < gs.size:=by omega
  simp [only,O,J]
 ·refine .gm (k:=n) (sp:=[]) (m:=some T) rfl ?_ (λ i k m e=>?_) (λ i m e=>?_)
  ·have:∀ m,dF (λ i=>if i=0 then Dt.ms n [] (some T) else if i < gs.size then .lv (q i) else .lv 0) m=[]:=by
    intro m
    induction m with
    | zero=>rfl
    | succ m W =>
     rw [jh,W]
     by_cases hm:m=0
     ·subst hm; rfl
     ·simp only [hm,if_false]; split <;> rfl
   rw [this]
  ·split at e
   ·cases e
   ·split at e <;> cases e
  ·split at e
   ·cases e
   ·split at e <;> cases e
end
open Go.ChangeShapes Go.RowKit
section
variable {P:Program} {B:Base} {PW:Value→World→Prop} {R:ay} {H:aj} {st:St} {k:List Item}
theorem MJ.CE{g:Goroutine}(I:g.status = .running)(h:∀ w,Fits B R H w→∃ v w' es R' H',stepG P true g w = .ended (.done v) w' es∧(∀ e∈es,eP R H w.heap.size w'.heap.size e)∧c5 B R H w R' H' w'∧PW v w'):MJ P B PW R H g:=by
 refine MJ.pick I λ gs w sl K d t q z f J=>?_
 obtain ⟨v,w',es,R',H',A,D,hu,E⟩:=h _ f.fits
 have G:=runT_many_ended (P:=P) (sl:=K) (i:=0) z (show stepG P (0 == 0) g (w.at d)=_ from A)
 have m:=rV f.mem f.tr (i:=0) rfl D hu g.frame.fn g.frame.place
 rw [vb] at m
 refine fg.end (J.trans G) ⟨v,rfl,E,m.2.clean,handed m.2,⟨λ x y=>?_,rfl⟩,λ j x y s=>?_⟩
 ·obtain ⟨j,s⟩:=List.mem_iff_getElem?.1 y
  rw [List.getElem?_drop] at s
  exact ⟨_,(f.lv (1+j) x (by omega) (by simpa [Go.Conc.crowd] using s)).leaves⟩
 ·have F:=f.lv j x (by omega) y
  refine ⟨q j,?_⟩
  rw [m.2.quiet.deaf]
  exact F.hears _ 0
def qz(P:Program)(B:Base)(PW:Value→World→Prop)(f:FuncId)(args:Array Value)(R:ay)(H:aj)(bP:Value→ay→aj→Prop):Prop :=
 (∀ v R' H' w,bP v R' H'→Fits B R' H' w→PW v w)→MJ P B PW R H (bk (Frame.enter P f args .normal) [])
theorem qz.rQ{f:FuncId}{fn:Func}{body:Code}{args:List Value}{n:Nat}{bP:Value→ay→aj→Prop}(m:P.funcs[f]? = some fn)(hb:fn.body=some body)(z:fn.ntmps=n)(g:Nat.ble args.length n=true)
  (h:(∀ v R' H' w,bP v R' H'→Fits B R' H' w→PW v w)→U (pW P B PW) ⟨f,.normal,none,n,[],[]⟩ R H (lU 0 args) [.code body]):qz P B PW f args.toArray R H bP:=by
 subst z
 intro s
 have g:args.length≤fn.ntmps:=by simpa [Nat.ble_eq] using g
 have:=h s (args.toArray++Array.replicate (fn.ntmps - args.length) undef) ⟨by simp; omega,λ t v A=>?_⟩
 ·have e:Frame.enter P f args.toArray .normal=bf ⟨f,.normal,none,fn.ntmps,[],[]⟩ (args.toArray++Array.replicate (fn.ntmps - args.length) undef) [.code body]:=by
   simp [Frame.enter,bf,m,hb]
  rw [e]
  exact this
 ·obtain ⟨_,d⟩:=qB args 0 t v A
  have y:t < args.length:=by
   have:=(ep.1 d).1
   simpa using this
  rw [Array.getElem?_append_left (by simpa using y)]
  simpa using d
theorem U.lF{H':aj}{f:FuncId}{n:Nat}{fn:Func}{vs:List Value}{bP:Value→ay→aj→Prop}(s:P.funcs[f]? = some fn)(hi:P.inits.idxOf? f=none)(A:gv P R H st fn.results.toList vs)(D:List.Sublist H' H)
  (y:∀ v R' H' w,bP v R' H'→Fits B R' H' w→PW v w) (z:bP (hU vs) R H'):U (pW P B PW) ⟨f,.normal,none,n,[],[]⟩ R H st (.code .ret::k):=λ tmps E=>by
 refine Jd.ctl (g':=bk { (bf ⟨f,.normal,none,n,[],[]⟩ tmps (.code .ret::k)) with mode:=.returning } []) rfl (λ w=>by simp [stepG,stepG.exec,bk,bf])
  (MJ.CE rfl λ w hw=>?_)
 obtain ⟨v,w',R',H2,g,m,d,rfl,rfl,rfl⟩:=r2 (P:=P) E A w hw
 refine ⟨hU vs,w',seen P f ((results fn tmps).events P w #[]),_,_,?_,λ e he=>m e (mem_seen he),d,y _ _ _ _ z (se D d.fits).fits⟩
 simp [stepG,unwind,doReturn,bk,bf,s,g,GStep.after,hi]
end
def gz(W:World):ay:=λ b=>W.heap[b]?
def qI(W:World):Base:=⟨W.os,W.tape,W.output⟩
theorem FC(W:World):Fits (qI W) (gz W) [] W:=⟨λ _ _ h=>h,by simp,by simp,by simp,rfl,rfl,rfl⟩
theorem JL{P:Program}{PW:Value→World→Prop}{W:World}{g:Goroutine}(h:MJ P (qI W) PW (gz W) [] g) :
  ∃ M last o w' z,runNT P (M+1) (solo g W) #[]=(.ended o w',z)∧runN P M (solo g W) = .next last∧step P last = .ended o w'∧Conc.Good P PW last o w' z:=by
 have m:∀ k a,touchAt (#[]:Trace) k=some a→False:=λ k a f=>by simp [touchAt,Trace.act?] at f
 refine h #[g] W none #[] (λ _=>0) rfl ⟨⟨λ i x d=>?_,λ i j x y F d s=>?_,by simp,by simp⟩,⟨λ i x d b o hb k a f=>(m k a f).elim,λ i x d b o hb k a f=>(m k a f).elim,by simp,by simp,λ k a f=>(m k a f).elim,λ said=>?_,λ op E=>by simp at E⟩,λ i g' hi D=>?_⟩
 ·unfold only at d
  split at d
  ·cases d; exact FC W
  ·cases d
 ·unfold only at d s
  split at d
  ·split at s
   ·omega
   ·cases s
  ·cases d
 ·rintro ⟨i,j,_,⟨a,b,A,_⟩,_⟩
  exact m i a A
 ·have:i < 1:=(Array.getElem?_eq_some_iff.1 D).1
  omega
theorem Ch{W w:World}{R:ay}{H:aj}(h:Fits (qI W) R H w)(f:aH (gz W) R):Below W.heap.size W w:=by
 have hb:∀ k,k < W.heap.size→w.heap[k]? = W.heap[k]? := λ k g=>by
  have e:W.heap[k]? = some W.heap[k]:=hX g
  rw [e]
  exact h.r k _ (f k _ e)
 refine ⟨h.os,h.tape,h.out,?_,hb⟩
 by_cases m:W.heap.size=0
 ·omega
 ·have d:=hb (W.heap.size - 1) (by omega)
  rw [hX (xs:=W.heap) (by omega)] at d
  have:=(Array.getElem?_eq_some_iff.1 d).1
  omega
structure dp (P:Program) (t:TypeId) {α:Type} (C:bF α) (k:Nat):Prop where
 size:P.cellsOf t=k
 rd:∀ (W:World) (T:Type) (enc:TypeId × Value→T) (sp:Nat→Bool) (held:Bool) (fuel:Nat) (cs:List Value) (x:DataW T × List MemPlace),DataW.trod enc P W 0 sp held fuel t cs=some x→cs.length=k∧∃ a,C (gz W) a cs
theorem dp.int{P:Program}{t:TypeId}{kd:IntKind}(d:P.cellsOf t=1)(f:P.underlying t=some (.int kd)):dp P t (CI kd) 1:=⟨d,λ W T enc sp held fuel cs x h=>by
 obtain ⟨n,rfl,_,_⟩:=DataW.trod_int f h
 exact ⟨rfl,n,rfl⟩⟩
theorem dp.str{P:Program}{t:TypeId}(d:P.cellsOf t=1)(f:P.underlying t=some .string):dp P t CS 1:=⟨d,λ W T enc sp held fuel cs x h=>by
 obtain ⟨s,rfl,_,_⟩:=DataW.trod_string f h
 exact ⟨rfl,s,rfl⟩⟩
def CW(kd:IntKind):bF Int:=λ _ x es=>es=[.int kd x]∧kd.min≤x∧x≤kd.max
theorem dp.FL{P:Program}{t:TypeId}{kd:IntKind}(d:P.cellsOf t=1)(f:P.underlying t=some (.int kd)):dp P t (CW kd) 1:=⟨d,λ W T enc sp held fuel cs x h=>by
 obtain ⟨n,rfl,_,hw⟩:=DataW.trod_int f h
 simp only [Lit.wf,dn,decide_eq_true_eq] at hw
 exact ⟨rfl,n,rfl,hw⟩⟩
theorem ah.Mn{α:Type}{C d:bF α}{k:Nat}{R:ay}{v:Value}{xs:List α}(h:ah C k R v xs)(E:∀ x es,C R x es→d R x es):ah d k R v xs:=by
 obtain ⟨A,cap,es,y,f,z,D⟩:=h
 exact ⟨A,cap,es,y,⟨f.len,λ i x F=>by obtain ⟨e,g,m,s⟩:=f.at_ i x F; exact ⟨e,E _ _ g,m,s⟩⟩,z,D⟩
theorem ah.each{α:Type}{C:bF α}{k:Nat}{R:ay}{v:Value}{xs:List α}(h:ah C k R v xs):∀ x∈xs,∃ es,C R x es:=by
 obtain ⟨A,cap,es,_,f,_⟩:=h
 intro x g
 obtain ⟨i,hi⟩:=List.getElem?_of_mem g
 obtain ⟨e,d,_⟩:=f.at_ i x hi
 exact ⟨e,d⟩
theorem BG(a:Addr)(i j:Nat)(h:a.spot=none):(a.add i).add j=⟨a.block,a.off+(i+j),none⟩:=by
 obtain ⟨b,o,s⟩:=a
 cases h
 rw [h0,h0,Nat.add_assoc]
theorem dp.slice{P:Program}{t e:TypeId}{α:Type}{C:bF α}{k:Nat}(ab:P.cellsOf t=1)(ac:P.underlying t=some (.slice e))(N:0 < k)(he:dp P e C k):dp P t (iy C k) 1:=⟨ab,λ W T enc sp held fuel cs x h=>by
 rcases DataW.trod_slice ac h with ⟨rfl,_⟩ | ⟨a,len,cap,elems,rest,n,_,rfl,_,_,ag,_,hlen,L,_⟩
 ·exact ⟨rfl,[],_,rfl,ah.nil⟩
 refine ⟨rfl,?_⟩
 rw [he.size] at L
 have each:∀ i:Fin len,∃ (p:α × List Value),C (gz W) p.1 p.2∧p.2.length=k∧∀ j w,p.2[j]? = some w→W.cell? ((a.add (i * k)).add j)=some w:=λ i=>by
  have J:=L i i.2
  rw [e3 (by omega),Option.bind_eq_some_iff] at J
  obtain ⟨ch,K,F⟩:=J
  obtain ⟨G,y,ae⟩:=he.rd _ _ _ _ _ _ _ _ F
  refine ⟨(y,ch),ae,G,λ j w d=>?_⟩
  have V:=(World.cells?_some K).2.2 j (by have:=(ep.1 d).1; simp only at this; omega)
  rw [V]
  exact d
 have O:0 < len→a.spot=none:=λ A=>by
  obtain ⟨p,_,K,F⟩:=each ⟨0,A⟩
  have G:=F 0 p.2[0] (e3 (by omega))
  simpa [Addr.add] using World.cell?_spot G
 let f:Fin len→α × List Value:=λ i=>(each i).choose
 have z:∀ i,_:=λ i=>(each i).choose_spec
 let xs:List α:=List.ofFn λ i=>(f i).1
 let es:List Value:=(List.range (len * k)).map λ m=>(W.cell? ⟨a.block,a.off+m,none⟩).getD undef
 have D:xs.length=len:=by simp [xs]
 have cell:∀ i j w (hi:i < len),(f ⟨i,hi⟩).2[j]? = some w→W.cell? ⟨a.block,a.off+(i * k+j),none⟩=some w:=λ i j w hi d=>by
  have:=(z ⟨i,hi⟩).2.2 j w d
  rwa [BG _ _ _ (O (by omega))] at this
 have idx:∀ i j,i < len→j < k→i * k+j < len * k:=λ i j hi d=>by
  have:(i+1) * k≤len * k:=Nat.mul_le_mul_right k hi
  rw [Nat.add_mul] at this
  omega
 refine ⟨xs,_,rfl,some a,cap,es,by rw [D],⟨by simp [es,D],λ i x I=>?_⟩,by omega,λ Z=>?_⟩
 ·have hi:i < len:=by rw [← D]; exact (ep.1 I).1
  have ad:x=(f ⟨i,hi⟩).1:=by
   simp only [xs,List.getElem?_ofFn,hi,dif_pos,eO] at I
   exact I.symm
  subst ad
  refine ⟨(f ⟨i,hi⟩).2,(z ⟨i,hi⟩).1,(z ⟨i,hi⟩).2.1,λ j w d=>?_⟩
  have Y:j < k:=by have:=(ep.1 d).1; rw [(z ⟨i,hi⟩).2.1] at this; exact this
  simp only [es,List.getElem?_map,List.getElem?_range (idx i j hi Y),Option.map_some,cell i j w hi d,hs]
 ·have A:0 < len:=by rw [← D]; exact List.length_pos_iff.2 Z
  obtain ⟨b,o,s⟩:=a
  obtain rfl:s=none:=O A
  have all:∀ m,m < len * k→∃ w,W.cell? ⟨b,o+m,none⟩=some w:=λ m hm=>by
   have hi:m / k < len:=Nat.div_lt_of_lt_mul (by rw [Nat.mul_comm]; exact hm)
   have d:m % k < (f ⟨m / k,hi⟩).2.length:=by rw [(z ⟨m / k,hi⟩).2.1]; exact Nat.mod_lt _ N
   have:=cell (m / k) (m % k) _ hi (e3 d)
   rw [show m / k * k+m % k=m by rw [Nat.mul_comm]; exact Nat.div_add_mod m k] at this
   exact ⟨_,this⟩
  have S:∃ arr e g,W.heap[b]? = some (.cells arr e g):=by
   obtain ⟨w,hw⟩:=all 0 (Nat.mul_pos A N)
   unfold World.cell? at hw
   simp only at hw
   split at hw
   ·rename_i c E g hb
    exact ⟨c,E,g,hb⟩
   ·cases hw
  obtain ⟨arr,E,g,hb⟩:=S
  refine ⟨b,o,arr,E,g,rfl,hb,λ j w d=>?_⟩
  have M:j < len * k:=by have:=(ep.1 d).1; simpa [es] using this
  obtain ⟨w',Q⟩:=all j M
  simp only [es,List.getElem?_map,List.getElem?_range M,Option.map_some,Q,hs,eO] at d
  subst d
  simpa [World.cell?,hb] using Q⟩
theorem dp.field{P:Program}{t:TypeId}{α:Type}{C:bF α}{k:Nat}(d:dp P t C k){W:World}{T:Type}{enc:TypeId × Value→T}{sp:Nat→Bool}{held:Bool}{n:Nat}{cs:List Value}{xs:List (DataW T × List MemPlace)}{i m:Nat}{f:Field}(es:List Value)(s:xs.length=m)
  (h:DataW.trod enc P W 0 sp held n f.type ((cs.drop f.offset).take (P.cellsOf f.type))=xs[i]?) (hi:Nat.blt i m=true:=by rfl) (g:f.type=t:=by rfl) (he:(cs.drop f.offset).take k=es:=by rfl):∃ a,C (gz W) a es:=by
 rw [g,d.size,he,e3 (by rw [s]; simpa [Nat.blt_eq] using hi)] at h
 exact (d.rd _ _ _ _ _ _ _ _ h).2
theorem AU{T:Type}{enc:TypeId × Value→T}{P:Program}(z:laidOutB P=true){W y:World}(hb:Below W.heap.size W y) :
  ∀ {ts:List TypeId} {vs:List Value} {g:List (DataW T)} {s:List MemPlace},(ts.all λ t=>P.readableRec t && decide (t < P.types.size))=true→DataW.TrodAll enc P W 0 (λ _=>true) true ts vs g s→(∀ x∈s,x.block < W.heap.size) →
   DataW.TrodAll enc P y 0 (λ b=>decide (b < W.heap.size)) true ts vs g s
 | [],[],[],_,_,h,_=>h
 | t::ts,v::vs,d::g,_,f,⟨p,q,D,E,e⟩,A=>by
  subst e
  simp only [List.all_cons,dn,decide_eq_true_eq] at f
  exact ⟨p,q,Below.trod z f.1.1 f.1.2 D hb (λ x m=>A x (by simp [m])),AU z hb f.2 E (λ x m=>A x (by simp [m])),rfl⟩
 | [],[],_::_,_,_,h,_=>h.elim
 | [],_::_,_,_,_,h,_=>h.elim
 | _::_,[],_,_,_,h,_=>h.elim
 | _::_,_::_,[],_,_,h,_=>h.elim
theorem GI{T:Type}{enc:TypeId × Value→T}{a:Assume}{C:Checked}{os:Os}{f:FuncId}{fn:Func}{s:ChangeSpec}{conds:List PathCond}{apart fresh handsOn again:Bool}{X:World→Array Value→Prop}
  (F:∀ (w w':World) (args:Array Value),w.heap=w'.heap→X w args→X w' args)
  (own:ownKnob C.prog.godebug=none) (started:os.Started) (G:C.prog.funcs[f]? = some fn)
  (witness:∃ (w:World) (tape:Tape) (i:Input),w.os=os∧(w.forCall tape i).Shaped C.prog∧i.vars=[]∧Input.okWide C.prog (w.forCall tape i) .any w.heap.size f i ∧
   ((s.pre enc C.prog fn conds apart (w.forCall tape i).memory i.args∧X (w.forCall tape i).memory i.args)∧sizedMet enc C.prog fn (OpenSpec.ofChange s) apart (w.forCall tape i).memory i.args)∧a.holds C.prog (lone (Frame.enter C.prog f i.args .normal) [] (w.forCall tape i)))
  (runs:∀ (W:World) (base:Nat) (args:Array Value) (g gs:List (DataW T)) (before:List MemPlace),
   (∀ (j:Nat) t v,fn.params[j]? = some t→args[j]? = some v→Value.okWide C.prog W .any base t v) →
   DataW.Whole enc C.prog fn.params.toList s.vars apart W args.toList g gs before→X W args →
   ∃ M last o w' d,runNT C.prog (M+1) (solo (bk (Frame.enter C.prog f args .normal) []) W) #[]=(.ended o w',d)∧runN C.prog M (solo (bk (Frame.enter C.prog f args .normal) []) W) = .next last ∧
    Go.step C.prog last = .ended o w'∧Conc.Good C.prog (λ v m=>s.post enc C.prog fn apart fresh handsOn again W args v m) last o w' d) :
  ReturnsInLeavingWide a C os f .any (λ w args=>(s.pre enc C.prog fn conds apart w args∧X w args)∧sizedMet enc C.prog fn (OpenSpec.ofChange s) apart w args) (s.post enc C.prog fn apart fresh handsOn again):=by
 refine returnsInLeavingWide_of_good own started witness ?_
 intro w tape i _ _ _ J L _
 obtain ⟨_,_,_,y,I,_,_,_,_,N⟩:=J
 have e:y=fn:=ey (I.symm.trans G)
 subst e
 obtain ⟨⟨⟨g,gs,before,hw,S⟩,Q⟩,_⟩:=L
 have O:=DataW.Whole.of_heap (w':=w.forCall tape i) (by rfl) hw
 obtain ⟨M,last,o,w',d,z,A,D,E⟩:=runs (w.forCall tape i) w.heap.size i.args g gs before N O (F _ _ _ (by rfl) Q)
 exact ⟨M,last,o,w',d,z,A,D,E.mono λ v K=>ChangeSpec.post_blind K⟩
theorem Km{T:Type}{enc:TypeId × Value→T}{P:Program}{fn:Func}{s:ChangeSpec}{apart fresh handsOn again:Bool}{W w:World}{args:Array Value}{d gs:List (DataW T)}{before:List MemPlace}{A:TypeId}
  (K:laidOutB P=true) (M:(fn.params.toList.all λ t=>P.readableRec t && decide (t < P.types.size))=true) (z:s.vars=[]) (N:fn.resultTypes=#[A]) (O:P.underlying A=some .bool)
  (m:DataW.Whole enc P fn.params.toList s.vars apart W args.toList d gs before) (J:again=false) (hb:Below W.heap.size W w)
  (E:(s.fn T (d++[])).results=[.lit (.bool true)]) (F:(s.fn T (d++[])).args=d) (G:(s.fn T (d++[])).vars=[]):s.post enc P fn apart fresh handsOn again W args (.bool true) w:=by
 have y:=m
 have L:∀ x∈before,x.block < W.heap.size:=λ x f=>by simpa using y.lt x f
 obtain ⟨p,q,I,g,e,_,_⟩:=m
 rw [z] at g
 obtain ⟨e1,D⟩:=trodVars_none g
 subst e1 D e
 refine ⟨d,[],p++[],[],p,[],y,?_,?_,by rw [z,G]; rfl,hb.frame _,λ h=>by rw [J] at h; cases h⟩
 ·rw [E,N]
  exact trodAll_mk1 (shut_bool O true)
 ·rw [F]
  exact AU K hb M I (λ x f=>L x (by simp [f]))
theorem xb{W:World}{b o:Nat}{v:Value}(h:W.cell? ⟨b,o,none⟩=some v):Cell (gz W) [] ⟨b,o,none⟩ v:=by
 unfold World.cell? at h
 simp only at h
 split at h
 ·rename_i c e d hb
  exact ⟨rfl,c,e,d,.inl hb,by simpa using h⟩
 ·cases h
end Go.Lg
