/- What enters and leaves the machine; the run of a row. Conditions: none. -/
import Derived.Test.YtabamagholjdcaaGreatDoorQHLgC
import Derived.Test.YtabamagholjdcaaGreatDoorQHLgB
import Derived.Conc.EventLaws
import Derived.Conc.LeavingOf
import Derived.Handed
import Derived.LaidMore
import Derived.Below
import Derived.Carry
import Derived.SizedLaws
namespace Go.Lg
open Go.Conc
section
variable {P:Program} {B:Base} {main:Bool} {ag:Jd P B main} {c:Ctx} {R:aE} {H:an} {st ab:St} {o:Oper} {C:aE→an→St→Prop} {k:List Item}
theorem Ox.makeChan{t:TypeId}{x:Operand}{dir:ChanDir}{e:TypeId}(aJ:o.op = .makeChan t x)(hx:bg st x=some (.int .i64 0))(hu:P.underlying t=some (.chan dir e))(hi:∃ i,P.info? e=some i∧i.bytes≤65536)(hd:cp o.dst c.n)
  (hC:∀ b,R b=none→(∀ y,(b,y) ∉ H)→∃ ab,aH (bR o.dst (.chan (some b)) st) ab∧C R ((b,.chan 0 #[] false 0 0 false)::H) ab):aM P B c o R H st C :=
 Ox.mem (s:=λ ρ=>Instr.makeChan t (ρ x)) (by rw [aJ]; rfl) hd (λ ρ=>by simp only [execOp,aJ]) (λ ρ aX=>by
  rw [aX x _ hx]
  unfold Instr.makeChan
  obtain ⟨i,hi1,EN⟩:=hi
  refine aq.cG (a:=0) (aq.pure _) (aq.cG (aq.underlying hu) (aq.cG (aq.typeInfo hi1) ?_))
  have e1:¬ ((0:Int) < 0∨(0:Int) > IntKind.i64.max∨(i.bytes:Int) * 0 > 2 ^ 48 - 112):=by
   simp only [IntKind.max]
   rintro (h | h | h)
   ·omega
   ·exact absurd h (by decide)
   ·simp at h
  rw [if_neg e1]
  exact aK.bind (aK.new λ b h1 h2=>aK.pure (hC b h1 h2)))
theorem P4(fn:FuncId):seen P fn #[]=#[]:=rfl
theorem adu{fr:Frame}{cs:List Frame}{s:Sem Next}{w:World}{cases:Array CommCase}{b:Bool}{shape:CommShape}(hv:aq P s (.comm cases b shape)):stepG.apply P true fr cs none s w = .comm (bA fr cs) cases b shape w #[]:=by
 have h:=hv w
 simp [stepG.apply,h.1,h.2,bA,GStep.after,P4]
theorem ahY{ops:Array Oper}{i:Nat}{rest:List Nat}{x y:Operand}{cc:Nat}{v:Value}{tmps:Array Value}{Nx:aE→an→Goroutine→Prop}(ho:ops[i]? = some o)(hw:dz ops st o=some true)(aJ:o.op = .send x y)(hx:bg st x=some (.chan (some cc)))(hy:bg st y=some v)(hd:cp o.dst c.n)(ht:fU c.n st tmps)
  (hN:∀ lU,fU c.n (bR o.dst undef st) lU→Nx R H (bA (bq c lU (.inRegion ops rest::k)) c.cs)):E7 P B main cc v Nx (.tuple #[]) R H (bA (bq c tmps (.inRegion ops (i::rest)::k)) c.cs):=by
 refine ⟨rfl,λ w _=>?_,?_⟩
 ·rw [xX ho (nE ht hw) (by rw [aJ]; rfl)]
  have hk:=ht.knows c (.inRegion ops (i::rest)::k)
  have:aq P (execOp (bq c tmps (.inRegion ops (i::rest)::k)).eval o) (.comm #[scase cc v (.tuple #[])] true .send):=by
   simp only [execOp,aJ,hk x _ hx,hk y _ hy]; exact aq.pure _
  exact adu this
 ·have:=hN _ (ht.put undef hd)
  rw [← uY (rest:=rest) (k:=k) (c:=c) (tmps:=tmps) (v:=undef) ho] at this
  exact this
theorem aaJ{ops:Array Oper}{i:Nat}{rest:List Nat}{x:Operand}{t:TypeId}{fl:Bool}{cc:Nat}{z:Value}{dir:ChanDir}{e:TypeId}{tmps:Array Value}{wH:Value→aE→an→Goroutine→Prop}{Nl:aE→an→Goroutine→Prop}(ho:ops[i]? = some o)(hw:dz ops st o=some true)(aJ:o.op = .recv t x fl)(hx:bg st x=some (.chan (some cc)))
  (hu:P.underlying t=some (.chan dir e)) (hz:aq P (zeroValue e) z) (hd:cp o.dst c.n) (ht:fU c.n st tmps)
  (hG:∀ v lU,fU c.n (bR o.dst (recvd fl v true) st) lU→wH v R H (bA (bq c lU (.inRegion ops rest::k)) c.cs)) (hN:∀ lU,fU c.n (bR o.dst (recvd fl z false) st) lU→Nl R H (bA (bq c lU (.inRegion ops rest::k)) c.cs)) :
  AtR P B main cc fl wH Nl z R H (bA (bq c tmps (.inRegion ops (i::rest)::k)) c.cs):=by
 refine ⟨rfl,λ w _=>?_,λ v=>?_,?_⟩
 ·rw [xX ho (nE ht hw) (by rw [aJ]; rfl)]
  have hk:=ht.knows c (.inRegion ops (i::rest)::k)
  have:aq P (execOp (bq c tmps (.inRegion ops (i::rest)::k)).eval o) (.comm #[rcase cc z] true (.recv fl)):=by
   simp only [execOp,aJ,hk x _ hx]
   refine aq.bind (aq.underlying hu) ?_
   refine aq.bind hz (aq.pure _)
  exact adu this
 ·have:=hG v _ (ht.put _ hd)
  rw [← uY (rest:=rest) (k:=k) (c:=c) (tmps:=tmps) ho] at this
  exact this
 ·have:=hN _ (ht.put _ hd)
  rw [← uY (rest:=rest) (k:=k) (c:=c) (tmps:=tmps) ho] at this
  exact this
def pC(P:Program):Frame:={ (default:Frame) with fn:=P.funcs.size,defers:=[],mode:=.panicking [goexitEntry] }
def NS(P:Program)(d:Deferred):Goroutine:={ frame:={ (default:Frame) with fn:=P.funcs.size,defers:=[d],mode:=.panicking [goexitEntry] },callers:=[],status:=.running,dying:=none }
theorem ahX{ops:Array Oper}{i:Nat}{rest:List Nat}{cl:Call}{d:Deferred}{tmps:Array Value}{w:World}(ho:ops[i]? = some o)(hw:dz ops st o=some true)(aJ:o.op = .go cl)(ht:fU c.n st tmps)(hr:∀ ρ,Knows st ρ→aq P (resolve ρ cl o.type) d)(hd:(d.target matches .nil)=false) :
  stepG P main (bA (bq c tmps (.inRegion ops (i::rest)::k)) c.cs) w = .spawn (bA (bq c (fq o.dst undef tmps) (.inRegion ops rest::k)) c.cs) (NS P d) w #[]:=by
 rw [xX ho (nE ht hw) (by rw [aJ]; rfl)]
 have hk:=ht.knows c (.inRegion ops (i::rest)::k)
 have:aq P (execOp (bq c tmps (.inRegion ops (i::rest)::k)).eval o) (.spawn d):=by
  simp only [execOp,aJ]
  exact aq.bind (hr _ hk) (aq.pure _)
 have h:=this w
 rw [← uY (rest:=rest) (k:=k) (c:=c) (tmps:=tmps) (v:=undef) ho]
 clear hr this
 obtain ⟨tg,aoz⟩:=d
 cases tg <;> simp_all [stepG.apply,bA,GStep.after,P4,NS]
theorem Own.child{K:aE→an→Goroutine→Prop}{f:FuncId}{args:Array Value}{d:Deferred}(hd:(d.target matches .nil)=false)(hv:aq P (invoke d.target d.args) (.enter f args))(h:Own P B false K R H (bA (Frame.enter P f args .deferred) [pC P])):Own P B false K R H (NS P d):=by
 refine (tK P B false K).step rfl λ w hw=>⟨_,w,#[],R,H,?_,by simp,dU.refl hw,h⟩
 have hc:(match d.target with | .collected _=>false | _=>true)=true:=by
  cases ht:d.target with
  | collected b =>
   rw [ht] at hv
   have:=(hv w).1
   simp [invoke] at this
  | _=>rfl
 have hvw:=hv w
 obtain ⟨tg,aoz⟩:=d
 simp only at hc hvw hd
 unfold stepG NS
 simp only
 unfold unwind
 cases tg with
 | collected b=>cases hc
 | _=>simp_all [callDeferred,Sem.runT_eq,GStep.after,P4,bA,pC]
theorem ah6{f:FuncId}{captured args:Array Value}(he:aV P f):aq P (invoke (.fn (.func f) captured) args) (.enter f (args++captured)):=by
 obtain ⟨fn,h1,h2,h3⟩:=he.ex
 simp only [invoke]
 exact aaR h1 h2 h3
theorem ahz{x:Operand}{cl:Call}{f:FuncId}{cap:Array Value}{t:TypeId}(hc:cl.callee = .value x)(ha:cl.args=#[])(hx:bg st x=some (.func (.func f) #[] cap))(ρ:Operand→Value)(aX:Knows st ρ):aq P (resolve ρ cl t) ⟨.fn (.func f) cap,#[]⟩:=by
 simp only [resolve,hc,ha,aX x _ hx,Deferred.ofValue]
 have e:(#[]:Array Value)++Array.map ρ #[]=#[]:=by simp
 rw [e]
 exact aq.pure _
theorem countdown{ι:Type}{J:Nat→ι→Jd P B main}{C:Nat→ι→aE→an→St→Prop}{todo:List Item}(h0:∀ a R H st,C 0 a R H st→At (J 0 a) c R H st todo)
  (hs:∀ n,(∀ a R H st,C n a R H st→At (J n a) c R H st todo)→∀ a R H st,C (n+1) a R H st→At (J (n+1) a) c R H st todo):∀ n a R H st,C n a R H st→At (J n a) c R H st todo:=by
 intro n
 induction n with
 | zero=>exact h0
 | succ n ih=>exact hs n ih
theorem ahh{K:aE→an→Goroutine→Prop}{f:FuncId}{fn:Func}{body:Code}{args:List Value}{n:Nat}{kd:CallKind}{cs:List Frame}(hf:P.funcs[f]? = some fn)(hb:fn.body=some body)(Jx:fn.ntmps=n)(hn:Nat.ble args.length n=true)
  (h:At (tK P B main K) ⟨f,kd,none,n,[],cs⟩ R H (Fp 0 args) [.code body]):Own P B main K R H (bA (Frame.enter P f args.toArray kd) cs):=by
 subst Jx
 have hn:args.length≤fn.ntmps:=by simpa [Nat.ble_eq] using hn
 have:=h (args.toArray++Array.replicate (fn.ntmps - args.length) undef) ⟨by simp; omega,λ t v ht=>?_⟩
 ·have e:Frame.enter P f args.toArray kd=bq ⟨f,kd,none,fn.ntmps,[],cs⟩ (args.toArray++Array.replicate (fn.ntmps - args.length) undef) [.code body]:=by
   simp [Frame.enter,bq,hf,hb]
  rw [e]
  exact this
 ·obtain ⟨_,h2⟩:=Nr args 0 t v ht
  have br:t < args.length:=by
   have:=(List.getElem?_eq_some_iff.1 h2).1
   simpa using this
  rw [Array.getElem?_append_left (by simpa using br)]
  simpa using h2
theorem aKT{fn:Func}(hr:fn.results=#[])(tmps:Array Value):aq P (results fn tmps) (.tuple #[]) :=
 aL4 (st:=[]) (n:=tmps.size) (vs:=[]) ⟨rfl,λ _ _ h=>by cases h⟩ (by rw [hr]; rfl)
theorem ahw{f:FuncId}{fn:Func}{n:Nat}{tmps:Array Value}{ops:Array Oper}(hf:P.funcs[f]? = some fn)(hr:fn.results=#[]):QuitsIn P 5 (bA (bq ⟨f,.deferred,none,n,[],[pC P]⟩ tmps [.inRegion ops []]) [pC P]):=by
 refine .inr ⟨rfl,bA (bq ⟨f,.deferred,none,n,[],[pC P]⟩ tmps []) [pC P],λ w=>by simp [stepG,stepG.exec,bA,bq],?_⟩
 refine .inr ⟨rfl,bA { (bq ⟨f,.deferred,none,n,[],[pC P]⟩ tmps []) with mode:=.returning } [pC P],λ w=>by simp [stepG,stepG.exec,bA,bq],?_⟩
 refine .inr ⟨rfl,bA (pC P) [],λ w=>?_,?_⟩
 ·have h:=aKT (P:=P) hr tmps w
  simp [stepG,unwind,bA,bq,hf,h.1,h.2,GStep.after,P4,doReturn,pC,goexitEntry]
 refine .inr ⟨rfl,{ bA (pC P) [] with status:=.finished },λ w=>?_,.inl rfl⟩
 have e:(default:Frame).todo=[]:=rfl
 simp [stepG,unwind,bA,pC,goexitEntry,Frame.catches,e]
theorem aLS{ops:Array Oper}{i:Nat}{rest:List Nat}{x:Operand}{ts:Array TypeId}{cc n:Nat}{tmps:Array Value}(ho:ops[i]? = some o)(hw:dz ops st o=some true)(aJ:o.op = .call ⟨.builtin .close,#[x],ts⟩)(hx:bg st x=some (.chan (some cc)))(Ju:(c.kind == .early)=false)(ht:fU c.n st tmps)
  (hq:∀ lU,QuitsIn P n (bA (bq c lU (.inRegion ops rest::k)) c.cs)):AtC P B cc R H (bA (bq c tmps (.inRegion ops (i::rest)::k)) c.cs):=by
 refine ⟨rfl,by simp [mayWake,bA,bq,ho,aJ],_,n,λ w s r tm oh hc=>?_,hq (fq o.dst (.tuple #[]) tmps)⟩
 rw [xX ho (nE ht hw) (by rw [aJ]; rfl)]
 have hk:=ht.knows c (.inRegion ops (i::rest)::k)
 have br:=ir hc
 have e1:execOp (bq c tmps (.inRegion ops (i::rest)::k)).eval o=(do let x ← Builtin.close_ ts o.type #[.chan (some cc)]; pure (.value x)):=by
  simp only [execOp,aJ,resolve,invoke,builtin]
  have:(#[x].map (bq c tmps (.inRegion ops (i::rest)::k)).eval)=#[.chan (some cc)]:=by simp [hk x _ hx]
  rw [this]
  rfl
 have fS:(execOp (bq c tmps (.inRegion ops (i::rest)::k)).eval o).run P w = .ok (.value (.tuple #[])) (w.shut cc s r tm):=by
  rw [e1]
  simp [run_close_open (P:=P) (w:=w) _ _ hc,World.shut]
 have zB:(execOp (bq c tmps (.inRegion ops (i::rest)::k)).eval o).events P w #[]=#[⟨.obj cc,false,true⟩,⟨.obj cc,true,true⟩]:=by
  rw [e1]
  simp [events_close_open (P:=P) (w:=w) _ _ hc]
 rw [← uY (rest:=rest) (k:=k) (c:=c) (tmps:=tmps) (v:=.tuple #[]) ho]
 rw [Tz (fr:=bq c tmps (.inRegion ops (i::rest)::k)) (by simpa [bq] using Ju) fS,zB]
 simp [seen]
theorem MJ.crowd{ck:Value→World→Prop}{cf cd n:Nat}{H0:an}{g:Goroutine}(h:Own P B true (rk P B cf cd (MJ P B ck) n []) R H0 g) :
  MJ P B ck R ((cd,.chan 0 #[] false 0 0 false)::(cf,.chan 0 #[] false 0 0 false)::H0) g:=by
 intro gs w sl t q h0 hA
 obtain ⟨T,hT⟩:=h
 have br:=rL h0
 have hf:=hA.fits
 have cP:=hf.nd
 simp only [List.map_cons,List.nodup_cons,List.mem_cons,not_or,List.mem_map,not_exists] at cP
 have l5:(cf,Obj.chan 0 #[] false 0 0 false)∈(cd,Obj.chan 0 #[] false 0 0 false)::(cf,Obj.chan 0 #[] false 0 0 false)::H0:=by simp
 have rA:(cd,Obj.chan 0 #[] false 0 0 false)∈(cd,Obj.chan 0 #[] false 0 0 false)::(cf,Obj.chan 0 #[] false 0 0 false)::H0:=by simp
 have hm:fE B (only ⟨R,H0⟩) [(cf,.chan 0 #[] false 0 0 false),(cd,.chan 0 #[] false 0 0 false)] w:=by
  refine ⟨λ i x hx=>?_,λ i j x y ew hx hy=>?_,λ c o hc=>?_,λ c o hc i x hx=>?_⟩
  ·unfold only at hx; split at hx
   ·cases hx
    exact ⟨hf.r,λ b o hb=>hf.h b o (by simp [hb]),cP.2.2,λ b o hb=>hf.dj b o (by simp [hb]),hf.os,hf.tape,hf.out⟩
   ·cases hx
  ·unfold only at hx hy; split at hx
   ·split at hy
    ·omega
    ·cases hy
   ·cases hx
  ·simp only [List.mem_cons,List.not_mem_nil,or_false,Prod.mk.injEq] at hc
   rcases hc with ⟨rfl,rfl⟩ | ⟨rfl,rfl⟩
   ·exact hf.h _ _ l5
   ·exact hf.h _ _ rA
  ·unfold only at hx; split at hx
   ·cases hx
    simp only [List.mem_cons,List.not_mem_nil,or_false,Prod.mk.injEq] at hc
    rcases hc with ⟨rfl,rfl⟩ | ⟨rfl,rfl⟩
    ·exact ⟨hf.dj _ _ l5,λ o' eC=>cP.2.1 (c,o') ⟨eC,rfl⟩⟩
    ·exact ⟨hf.dj _ _ rA,λ o' eC=>cP.1.2 (c,o') ⟨eC,rfl⟩⟩
   ·cases hx
 have ht:ee (only ⟨R,H0⟩) [(cf,.chan 0 #[] false 0 0 false),(cd,.chan 0 #[] false 0 0 false)] none w.heap.size t:=by
  have h':=hA.tr
  have sub:∀ i x,only ⟨R,H0⟩ i=some x→i=0∧x=⟨R,H0⟩:=λ i x hx=>by
   unfold only at hx; split at hx
   ·cases hx; exact ⟨‹_›,rfl⟩
   ·cases hx
  refine ⟨λ i x hx b o hb k a hk cH=>?_,λ i x hx b o hb k a hk cH hw=>?_,λ c o hc i x hx k a hk cH=>?_,h'.low,λ k a hk hm=>?_,h'.clean,h'.quiet⟩
  ·obtain ⟨rfl,rfl⟩:=sub i x hx
   exact h'.own 0 _ rfl b o (by simp [show (b,o)∈H0 from hb]) k a hk cH
  ·obtain ⟨rfl,rfl⟩:=sub i x hx
   exact h'.read 0 _ rfl b o hb k a hk cH hw
  ·obtain ⟨rfl,rfl⟩:=sub i x hx
   refine .inr (h'.own 0 _ rfl c (.chan 0 #[] false 0 0 false) ?_ k a hk cH)
   simp only [List.mem_cons,List.not_mem_nil,or_false,Prod.mk.injEq] at hc
   rcases hc with ⟨rfl,rfl⟩ | ⟨rfl,rfl⟩
   ·exact l5
   ·exact rA
  ·rcases h'.all k a hk hm with ⟨j,x,hx,jm⟩ | ⟨c,p,e,_⟩
   ·unfold only at hx; split at hx
    ·rename_i e; subst e; exact .inl ⟨0,_,rfl,jm⟩
    ·cases hx
   ·cases e
 refine PI.runs (cf:=cf) (cd:=cd) (bO:=false) (bZ:=false) (s1:=0) (s2:=0) (D:=λ i=>if i=0 then .ms n [] (some T) else if i < gs.size then .lv (q i) else .lv 0) (th:=only ⟨R,H0⟩) (cI:=false) (cls:=none) ⟨λ e=>cP.1.1 e.symm,hm,ht,λ i x hx=>?_,λ i hi=>?_,?_,br⟩
 ·by_cases hi:i=0
  ·subst hi
   rw [h0] at hx; cases hx
   exact ⟨⟨_,rfl,.inl ⟨T,rfl,hT⟩⟩,rfl⟩
  ·have hl:=rL hx
   simp only [hi,if_false,hl,if_true,only]
   exact ⟨rfl,hA.lv i x (by omega) hx,by omega⟩
 ·have kZ:i≠0:=by omega
  have hl:¬ i < gs.size:=by omega
  simp [only,kZ,hl]
 ·refine .mK (k:=n) (sp:=[]) (m:=some T) rfl ?_ (λ i k m e=>?_) (λ i m e=>?_)
  ·have:∀ m,eZ (λ i=>if i=0 then Dt.ms n [] (some T) else if i < gs.size then .lv (q i) else .lv 0) m=[]:=by
    intro m
    induction m with
    | zero=>rfl
    | succ m ih =>
     rw [tX,ih]
     by_cases hm:m=0
     ·subst hm; rfl
     ·simp only [hm,if_false]; split <;> rfl
   rw [this]
  ·split at e
   ·cases e
   ·split at e <;> cases e
  ·split at e
   ·cases e
   ·split at e <;> cases e
end
end Go.Lg
namespace Go.Lg
open Go.Conc Go.ChangeShapes Go.RowKit
section
variable {P:Program} {B:Base} {PW:Value→World→Prop} {R:aE} {H:an} {st:St} {k:List Item}
theorem MJ.apm{g:Goroutine}(hs:g.status = .running)(h:∀ w,Fits B R H w→∃ v w' es R' H',stepG P true g w = .ended (.done v) w' es∧(∀ e∈es,ia R H w.heap.size w'.heap.size e)∧dU B R H w R' H' w'∧PW v w'):MJ P B PW R H g:=by
 refine MJ.pick hs λ gs w sl py d t q h0 hA ct=>?_
 obtain ⟨v,w',es,R',H',h1,h2,hu,h3⟩:=h _ hA.fits
 have F2:=runT_many_ended (P:=P) (sl:=py) (i:=0) h0 (show stepG P (0 == 0) g (w.at d)=_ from h1)
 have od:=PB hA.mem hA.tr (i:=0) rfl h2 hu g.frame.fn g.frame.place
 rw [Z9] at od
 refine jT.end (ct.trans F2) ⟨v,rfl,h3,od.2.clean,handed od.2,⟨λ x hx=>?_,rfl⟩,λ j x hx hj=>?_⟩
 ·obtain ⟨j,hj⟩:=List.mem_iff_getElem?.1 hx
  rw [List.getElem?_drop] at hj
  exact ⟨_,(hA.lv (1+j) x (by omega) (by simpa [Go.Conc.crowd] using hj)).leaves⟩
 ·have hq:=hA.lv j x (by omega) hx
  refine ⟨q j,?_⟩
  rw [od.2.quiet.deaf]
  exact hq.hears _ 0
def Nk(P:Program)(B:Base)(PW:Value→World→Prop)(f:FuncId)(args:Array Value)(R:aE)(H:an)(ck:Value→aE→an→Prop):Prop :=
 (∀ v R' H' w,ck v R' H'→Fits B R' H' w→PW v w)→MJ P B PW R H (bA (Frame.enter P f args .normal) [])
theorem Nk.aY{f:FuncId}{fn:Func}{body:Code}{args:List Value}{n:Nat}{ck:Value→aE→an→Prop}(hf:P.funcs[f]? = some fn)(hb:fn.body=some body)(Jx:fn.ntmps=n)(hn:Nat.ble args.length n=true)
  (h:(∀ v R' H' w,ck v R' H'→Fits B R' H' w→PW v w)→At (K2 P B PW) ⟨f,.normal,none,n,[],[]⟩ R H (Fp 0 args) [.code body]):Nk P B PW f args.toArray R H ck:=by
 subst Jx
 intro hk
 have hn:args.length≤fn.ntmps:=by simpa [Nat.ble_eq] using hn
 have:=h hk (args.toArray++Array.replicate (fn.ntmps - args.length) undef) ⟨by simp; omega,λ t v ht=>?_⟩
 ·have e:Frame.enter P f args.toArray .normal=bq ⟨f,.normal,none,fn.ntmps,[],[]⟩ (args.toArray++Array.replicate (fn.ntmps - args.length) undef) [.code body]:=by
   simp [Frame.enter,bq,hf,hb]
  rw [e]
  exact this
 ·obtain ⟨_,h2⟩:=Nr args 0 t v ht
  have br:t < args.length:=by
   have:=(List.getElem?_eq_some_iff.1 h2).1
   simpa using this
  rw [Array.getElem?_append_left (by simpa using br)]
  simpa using h2
theorem At.yJ{H':an}{f:FuncId}{n:Nat}{fn:Func}{vs:List Value}{ck:Value→aE→an→Prop}(hf:P.funcs[f]? = some fn)(hi:P.inits.idxOf? f=none)(hr:nV P R H st fn.results.toList vs)(hs:List.Sublist H' H)
  (hk:∀ v R' H' w,ck v R' H'→Fits B R' H' w→PW v w) (hp:ck (rQ vs) R H'):At (K2 P B PW) ⟨f,.normal,none,n,[],[]⟩ R H st (.code .ret::k):=λ tmps ht=>by
 refine Jd.ctl (g':=bA { (bq ⟨f,.normal,none,n,[],[]⟩ tmps (.code .ret::k)) with mode:=.returning } []) rfl (λ w=>by simp [stepG,stepG.exec,bA,bq])
  (MJ.apm rfl λ w hw=>?_)
 obtain ⟨v,w',R',H2,h1,h2,h3,rfl,rfl,rfl⟩:=P5 (P:=P) ht hr w hw
 refine ⟨rQ vs,w',seen P f ((results fn tmps).events P w #[]),_,_,?_,λ e he=>h2 e (mem_seen he),h3,hk _ _ _ _ hp (Qd hs h3.fits).fits⟩
 simp [stepG,unwind,doReturn,bA,bq,hf,h1,GStep.after,hi]
end
def qh(W:World):aE:=λ b=>W.heap[b]?
def NG(W:World):Base:=⟨W.os,W.tape,W.output⟩
theorem auc(W:World):Fits (NG W) (qh W) [] W:=⟨λ _ _ h=>h,by simp,by simp,by simp,rfl,rfl,rfl⟩
theorem aJJ{P:Program}{PW:Value→World→Prop}{W:World}{g:Goroutine}(h:MJ P (NG W) PW (qh W) [] g) :
  ∃ M last o w' t',runNT P (M+1) (solo g W) #[]=(.ended o w',t')∧runN P M (solo g W) = .next last∧step P last = .ended o w'∧Conc.Good P PW last o w' t':=by
 have nt:∀ k a,touchAt (#[]:Trace) k=some a→False:=λ k a hk=>by simp [touchAt,Trace.act?] at hk
 refine h #[g] W none #[] (λ _=>0) rfl ⟨⟨λ i x hx=>?_,λ i j x y ew hx hy=>?_,by simp,by simp⟩,⟨λ i x hx b o hb k a hk=>(nt k a hk).elim,λ i x hx b o hb k a hk=>(nt k a hk).elim,by simp,by simp,λ k a hk=>(nt k a hk).elim,λ said=>?_,λ op aJ=>by simp at aJ⟩,λ i g' hi hg=>?_⟩
 ·unfold only at hx
  split at hx
  ·cases hx; exact auc W
  ·cases hx
 ·unfold only at hx hy
  split at hx
  ·split at hy
   ·omega
   ·cases hy
  ·cases hx
 ·rintro ⟨i,j,_,⟨a,b,h1,_⟩,_⟩
  exact nt i a h1
 ·have:i < 1:=(Array.getElem?_eq_some_iff.1 hg).1
  omega
theorem aoO{W w:World}{R:aE}{H:an}(h:Fits (NG W) R H w)(hR:aN (qh W) R):Below W.heap.size W w:=by
 have hb:∀ k,k < W.heap.size→w.heap[k]? = W.heap[k]? := λ k hk=>by
  have e:W.heap[k]? = some W.heap[k]:=Array.getElem?_eq_getElem hk
  rw [e]
  exact h.r k _ (hR k _ e)
 refine ⟨h.os,h.tape,h.out,?_,hb⟩
 by_cases hz:W.heap.size=0
 ·omega
 ·have h1:=hb (W.heap.size - 1) (by omega)
  rw [Array.getElem?_eq_getElem (xs:=W.heap) (by omega)] at h1
  have:=(Array.getElem?_eq_some_iff.1 h1).1
  omega
structure fO (P:Program) (t:TypeId) {α:Type} (C:b9 α) (k:Nat):Prop where
 size:P.cellsOf t=k
 rd:∀ (W:World) (T:Type) (enc:TypeId × Value→T) (sp:Nat→Bool) (held:Bool) (fuel:Nat) (cs:List Value) (x:DataW T × List MemPlace),DataW.trod enc P W 0 sp held fuel t cs=some x→cs.length=k∧∃ a,C (qh W) a cs
theorem fO.int{P:Program}{t:TypeId}{kd:IntKind}(hs:P.cellsOf t=1)(ht:P.underlying t=some (.int kd)):fO P t (CI kd) 1:=⟨hs,λ W T enc sp held fuel cs x h=>by
 obtain ⟨n,rfl,_,_⟩:=DataW.trod_int ht h
 exact ⟨rfl,n,rfl⟩⟩
theorem fO.str{P:Program}{t:TypeId}(hs:P.cellsOf t=1)(ht:P.underlying t=some .string):fO P t CS 1:=⟨hs,λ W T enc sp held fuel cs x h=>by
 obtain ⟨s,rfl,_,_⟩:=DataW.trod_string ht h
 exact ⟨rfl,s,rfl⟩⟩
def CW(kd:IntKind):b9 Int:=λ _ x es=>es=[.int kd x]∧kd.min≤x∧x≤kd.max
theorem fO.aG1{P:Program}{t:TypeId}{kd:IntKind}(hs:P.cellsOf t=1)(ht:P.underlying t=some (.int kd)):fO P t (CW kd) 1:=⟨hs,λ W T enc sp held fuel cs x h=>by
 obtain ⟨n,rfl,_,hw⟩:=DataW.trod_int ht h
 simp only [Lit.wf,Bool.and_eq_true,decide_eq_true_eq] at hw
 exact ⟨rfl,n,rfl,hw⟩⟩
theorem au.aNb{α:Type}{C C':b9 α}{k:Nat}{R:aE}{v:Value}{xs:List α}(h:au C k R v xs)(hc:∀ x es,C R x es→C' R x es):au C' k R v xs:=by
 obtain ⟨A,cap,es,h1,h2,h3,h4⟩:=h
 exact ⟨A,cap,es,h1,⟨h2.len,λ i x hx=>by obtain ⟨e,g1,g2,g3⟩:=h2.at_ i x hx; exact ⟨e,hc _ _ g1,g2,g3⟩⟩,h3,h4⟩
theorem au.each{α:Type}{C:b9 α}{k:Nat}{R:aE}{v:Value}{xs:List α}(h:au C k R v xs):∀ x∈xs,∃ es,C R x es:=by
 obtain ⟨A,cap,es,_,h2,_⟩:=h
 intro x hx
 obtain ⟨i,hi⟩:=List.getElem?_of_mem hx
 obtain ⟨e,g1,_⟩:=h2.at_ i x hi
 exact ⟨e,g1⟩
theorem anB(a:Addr)(i j:Nat)(h:a.spot=none):(a.add i).add j=⟨a.block,a.off+(i+j),none⟩:=by
 obtain ⟨b,o,s⟩:=a
 cases h
 rw [pZ,pZ,Nat.add_assoc]
theorem fO.slice{P:Program}{t e:TypeId}{α:Type}{C:b9 α}{k:Nat}(hs:P.cellsOf t=1)(ht:P.underlying t=some (.slice e))(hk:0 < k)(he:fO P e C k):fO P t (m7 C k) 1:=⟨hs,λ W T enc sp held fuel cs x h=>by
 rcases DataW.trod_slice ht h with ⟨rfl,_⟩ | ⟨a,len,cap,elems,rest,n,_,rfl,_,_,hl,_,hlen,kY,_⟩
 ·exact ⟨rfl,[],_,rfl,au.nil⟩
 refine ⟨rfl,?_⟩
 rw [he.size] at kY
 have each:∀ i:Fin len,∃ (p:α × List Value),C (qh W) p.1 p.2∧p.2.length=k∧∀ j w,p.2[j]? = some w→W.cell? ((a.add (i * k)).add j)=some w:=λ i=>by
  have h1:=kY i i.2
  rw [List.getElem?_eq_getElem (by omega),Option.bind_eq_some_iff] at h1
  obtain ⟨ch,h2,h3⟩:=h1
  obtain ⟨h4,y,hy⟩:=he.rd _ _ _ _ _ _ _ _ h3
  refine ⟨(y,ch),hy,h4,λ j w hj=>?_⟩
  have h5:=(World.cells?_some h2).2.2 j (by have:=(List.getElem?_eq_some_iff.1 hj).1; simp only at this; omega)
  rw [h5]
  exact hj
 have af7:0 < len→a.spot=none:=λ dg=>by
  obtain ⟨p,_,h2,h3⟩:=each ⟨0,dg⟩
  have h4:=h3 0 p.2[0] (List.getElem?_eq_getElem (by omega))
  simpa [Addr.add] using World.cell?_spot h4
 let f:Fin len→α × List Value:=λ i=>(each i).choose
 have hf:∀ i,_:=λ i=>(each i).choose_spec
 let xs:List α:=List.ofFn λ i=>(f i).1
 let es:List Value:=(List.range (len * k)).map λ m=>(W.cell? ⟨a.block,a.off+m,none⟩).getD undef
 have O6:xs.length=len:=by simp [xs]
 have cell:∀ i j w (hi:i < len),(f ⟨i,hi⟩).2[j]? = some w→W.cell? ⟨a.block,a.off+(i * k+j),none⟩=some w:=λ i j w hi hj=>by
  have:=(hf ⟨i,hi⟩).2.2 j w hj
  rwa [anB _ _ _ (af7 (by omega))] at this
 have idx:∀ i j,i < len→j < k→i * k+j < len * k:=λ i j hi hj=>by
  have:(i+1) * k≤len * k:=Nat.mul_le_mul_right k hi
  rw [Nat.add_mul] at this
  omega
 refine ⟨xs,_,rfl,some a,cap,es,by rw [O6],⟨by simp [es,O6],λ i x hx=>?_⟩,by omega,λ b7=>?_⟩
 ·have hi:i < len:=by rw [← O6]; exact (List.getElem?_eq_some_iff.1 hx).1
  have hxe:x=(f ⟨i,hi⟩).1:=by
   simp only [xs,List.getElem?_ofFn,hi,dif_pos,Option.some.injEq] at hx
   exact hx.symm
  subst hxe
  refine ⟨(f ⟨i,hi⟩).2,(hf ⟨i,hi⟩).1,(hf ⟨i,hi⟩).2.1,λ j w hj=>?_⟩
  have k6:j < k:=by have:=(List.getElem?_eq_some_iff.1 hj).1; rw [(hf ⟨i,hi⟩).2.1] at this; exact this
  simp only [es,List.getElem?_map,List.getElem?_range (idx i j hi k6),Option.map_some,cell i j w hi hj,Option.getD_some]
 ·have dg:0 < len:=by rw [← O6]; exact List.length_pos_iff.2 b7
  obtain ⟨b,o,s⟩:=a
  obtain rfl:s=none:=af7 dg
  have all:∀ m,m < len * k→∃ w,W.cell? ⟨b,o+m,none⟩=some w:=λ m hm=>by
   have hi:m / k < len:=Nat.div_lt_of_lt_mul (by rw [Nat.mul_comm]; exact hm)
   have hj:m % k < (f ⟨m / k,hi⟩).2.length:=by rw [(hf ⟨m / k,hi⟩).2.1]; exact Nat.mod_lt _ hk
   have:=cell (m / k) (m % k) _ hi (List.getElem?_eq_getElem hj)
   rw [show m / k * k+m % k=m by rw [Nat.mul_comm]; exact Nat.div_add_mod m k] at this
   exact ⟨_,this⟩
  have h0:∃ arr e fz,W.heap[b]? = some (.cells arr e fz):=by
   obtain ⟨w,hw⟩:=all 0 (Nat.mul_pos dg hk)
   unfold World.cell? at hw
   simp only at hw
   split at hw
   ·rename_i c e' fz hb
    exact ⟨c,e',fz,hb⟩
   ·cases hw
  obtain ⟨arr,e',fz,hb⟩:=h0
  refine ⟨b,o,arr,e',fz,rfl,hb,λ j w hj=>?_⟩
  have zF:j < len * k:=by have:=(List.getElem?_eq_some_iff.1 hj).1; simpa [es] using this
  obtain ⟨w',F4⟩:=all j zF
  simp only [es,List.getElem?_map,List.getElem?_range zF,Option.map_some,F4,Option.getD_some,Option.some.injEq] at hj
  subst hj
  simpa [World.cell?,hb] using F4⟩
theorem fO.field{P:Program}{t:TypeId}{α:Type}{C:b9 α}{k:Nat}(hC:fO P t C k){W:World}{T:Type}{enc:TypeId × Value→T}{sp:Nat→Bool}{held:Bool}{n:Nat}{cs:List Value}{xs:List (DataW T × List MemPlace)}{i m:Nat}{f:Field}(es:List Value)(hx:xs.length=m)
  (h:DataW.trod enc P W 0 sp held n f.type ((cs.drop f.offset).take (P.cellsOf f.type))=xs[i]?) (hi:Nat.blt i m=true:=by rfl) (hf:f.type=t:=by rfl) (he:(cs.drop f.offset).take k=es:=by rfl):∃ a,C (qh W) a es:=by
 rw [hf,hC.size,he,List.getElem?_eq_getElem (by rw [hx]; simpa [Nat.blt_eq] using hi)] at h
 exact (hC.rd _ _ _ _ _ _ _ _ h).2
theorem ahZ{T:Type}{enc:TypeId × Value→T}{P:Program}(hl:laidOutB P=true){W W':World}(hb:Below W.heap.size W W') :
  ∀ {ts:List TypeId} {vs:List Value} {ds:List (DataW T)} {ps:List MemPlace},(ts.all λ t=>P.readableRec t && decide (t < P.types.size))=true→DataW.TrodAll enc P W 0 (λ _=>true) true ts vs ds ps→(∀ x∈ps,x.block < W.heap.size) →
   DataW.TrodAll enc P W' 0 (λ b=>decide (b < W.heap.size)) true ts vs ds ps
 | [],[],[],_,_,h,_=>h
 | t::ts,v::vs,d::ds,_,hr,⟨p,q,h1,h2,e⟩,br=>by
  subst e
  simp only [List.all_cons,Bool.and_eq_true,decide_eq_true_eq] at hr
  exact ⟨p,q,Below.trod hl hr.1.1 hr.1.2 h1 hb (λ x hx=>br x (by simp [hx])),ahZ hl hb hr.2 h2 (λ x hx=>br x (by simp [hx])),rfl⟩
 | [],[],_::_,_,_,h,_=>h.elim
 | [],_::_,_,_,_,h,_=>h.elim
 | _::_,[],_,_,_,h,_=>h.elim
 | _::_,_::_,[],_,_,h,_=>h.elim
theorem aHU{T:Type}{enc:TypeId × Value→T}{a:Assume}{C:Checked}{os:Os}{f:FuncId}{fn:Func}{s:ChangeSpec}{conds:List PathCond}{apart fresh handsOn again:Bool}{X:World→Array Value→Prop}
  (hX:∀ (w w':World) (args:Array Value),w.heap=w'.heap→X w args→X w' args)
  (own:ownKnob C.prog.godebug=none) (started:os.Started) (VQ:C.prog.funcs[f]? = some fn)
  (witness:∃ (w:World) (tape:Tape) (i:Input),w.os=os∧(w.forCall tape i).Shaped C.prog∧i.vars=[]∧Input.okWide C.prog (w.forCall tape i) .any w.heap.size f i ∧
   ((s.pre enc C.prog fn conds apart (w.forCall tape i).memory i.args∧X (w.forCall tape i).memory i.args)∧sizedMet enc C.prog fn (OpenSpec.ofChange s) apart (w.forCall tape i).memory i.args)∧a.holds C.prog (lone (Frame.enter C.prog f i.args .normal) [] (w.forCall tape i)))
  (runs:∀ (W:World) (base:Nat) (args:Array Value) (ds gs:List (DataW T)) (before:List MemPlace),
   (∀ (j:Nat) t v,fn.params[j]? = some t→args[j]? = some v→Value.okWide C.prog W .any base t v) →
   DataW.Whole enc C.prog fn.params.toList s.vars apart W args.toList ds gs before→X W args →
   ∃ M last o w' t',runNT C.prog (M+1) (solo (bA (Frame.enter C.prog f args .normal) []) W) #[]=(.ended o w',t')∧runN C.prog M (solo (bA (Frame.enter C.prog f args .normal) []) W) = .next last ∧
    Go.step C.prog last = .ended o w'∧Conc.Good C.prog (λ v W'=>s.post enc C.prog fn apart fresh handsOn again W args v W') last o w' t') :
  ReturnsInLeavingWide a C os f .any (λ w args=>(s.pre enc C.prog fn conds apart w args∧X w args)∧sizedMet enc C.prog fn (OpenSpec.ofChange s) apart w args) (s.post enc C.prog fn apart fresh handsOn again):=by
 refine returnsInLeavingWide_of_good own started witness ?_
 intro w tape i _ _ _ hok H6 _
 obtain ⟨_,_,_,fn',auM,_,_,_,_,EG⟩:=hok
 have e:fn'=fn:=Option.some.inj (auM.symm.trans VQ)
 subst e
 obtain ⟨⟨⟨ds,gs,before,hw,hc⟩,hx⟩,_⟩:=H6
 have F4:=DataW.Whole.of_heap (w':=w.forCall tape i) (by rfl) hw
 obtain ⟨M,last,o,w',t',h1,h2,h3,h4⟩:=runs (w.forCall tape i) w.heap.size i.args ds gs before EG F4 (hX _ _ _ (by rfl) hx)
 exact ⟨M,last,o,w',t',h1,h2,h3,h4.mono λ v hp=>ChangeSpec.post_blind hp⟩
theorem aKD{T:Type}{enc:TypeId × Value→T}{P:Program}{fn:Func}{s:ChangeSpec}{apart fresh handsOn again:Bool}{W w:World}{args:Array Value}{ds gs:List (DataW T)}{before:List MemPlace}{tb:TypeId}
  (hl:laidOutB P=true) (hr:(fn.params.toList.all λ t=>P.readableRec t && decide (t < P.types.size))=true) (hv:s.vars=[]) (azg:fn.resultTypes=#[tb]) (htb:P.underlying tb=some .bool)
  (hW:DataW.Whole enc P fn.params.toList s.vars apart W args.toList ds gs before) (hag:again=false) (hb:Below W.heap.size W w)
  (h1:(s.fn T (ds++[])).results=[.lit (.bool true)]) (h2:(s.fn T (ds++[])).args=ds) (h3:(s.fn T (ds++[])).vars=[]):s.post enc P fn apart fresh handsOn again W args (.bool true) w:=by
 have OD:=hW
 have br:∀ x∈before,x.block < W.heap.size:=λ x hx=>by simpa using OD.lt x hx
 obtain ⟨p,q,hA,hV,e,_,_⟩:=hW
 rw [hv] at hV
 obtain ⟨e1,e2⟩:=trodVars_none hV
 subst e1 e2 e
 refine ⟨ds,[],p++[],[],p,[],OD,?_,?_,by rw [hv,h3]; rfl,hb.frame _,λ h=>by rw [hag] at h; cases h⟩
 ·rw [h1,azg]
  exact trodAll_mk1 (shut_bool htb true)
 ·rw [h2]
  exact ahZ hl hb hr hA (λ x hx=>br x (by simp [hx]))
theorem ao9{W:World}{b o:Nat}{v:Value}(h:W.cell? ⟨b,o,none⟩=some v):Cell (qh W) [] ⟨b,o,none⟩ v:=by
 unfold World.cell? at h
 simp only at h
 split at h
 ·rename_i c e fz hb
  exact ⟨rfl,c,e,fz,.inl hb,by simpa using h⟩
 ·cases h
end Go.Lg
