/- A mutex that any number of goroutines share; the machine of workers behind a mutex and a wait group: it runs to its end. Conditions: none. -/
import Derived.Test.YtihapemckcdicaaGreatDoorQDLgB
import Derived.Conc.MarkLaws
namespace Go.Lg
structure Wd where
 l:Nat
 w:Nat
 s:Nat
 n:Nat
 deriving DecidableEq
def Wd.val(m:Wd):Int:=m.l+2 * m.w+4 * m.s+8 * m.n
def Wd.ok(N:Nat)(m:Wd):Prop:=m.l≤1∧m.w≤1∧m.s≤1∧m.n≤N
def Wd.zero:Wd:=⟨0,0,0,0⟩
theorem Wd.val_inj{N N':Nat}{a b:Wd}(ha:a.ok N)(hb:b.ok N')(h:a.val=b.val):a=b:=by
 obtain ⟨l,w,s,n⟩:=a
 obtain ⟨l',w',s',n'⟩:=b
 simp only [Wd.ok,Wd.val,Wd.mk.injEq] at *
 omega
structure Sh where
 mu:Wd
 ms:Nat
 v:Nat
 w:Nat
 ws:Nat
structure Lc where
 old:Wd
 aw:Bool
 sv:Bool
 it:Nat
 ws:Bool
inductive Lp
 | ld | l0 | r0 | sq (c:Lc) | c1 (c:Lc) | r1 (c:Lc) | c2 (c:Lc) | r3 (c:Lc) | t1 (c:Lc) | s1 (c:Lc) | t2 (c:Lc) | r2 (c:Lc) | a1 (keep:Bool)
 | le | lc | la | ul (js:Nat→Nat) | uv (js:Nat→Nat) | ur (js:Nat→Nat) | ud | u0 | uc (old:Wd) | ux | us | ue
 | wv | wr | wk | d1 | d2 | d3 | d4 | quit
def hd(c:Lc):Lp:=if c.old.l=1∧c.old.s=0 then .sq c else .c2 c
def nw(c:Lc):Wd:={ l:=if c.old.s=0 then 1 else c.old.l,w:=if c.aw then 0 else c.old.w,s:=if c.sv∧c.old.l=1 then 1 else c.old.s,n:=if c.old.l=1∨c.old.s=1 then c.old.n+1 else c.old.n }
def hu(m:Wd):Lp:=if m.n=0∨m.l=1∨m.w=1∨m.s=1 then .ue else .uc m
def iE(c:Lc):Lp:=if c.aw=false∧c.old.w=0∧c.old.n≠0 then .c1 c else .r1 c
inductive c7:Lp→Sh→Lp→Sh→Prop
 | ld {s}:c7 .ld s .l0 s
 | ZO {s}:s.mu = .zero→c7 .l0 s .le { s with mu:=⟨1,0,0,0⟩ }
 | ZN {s}:s.mu ≠ .zero→c7 .l0 s .r0 s
 | r0 {s}:c7 .r0 s (hd ⟨s.mu,false,false,0,false⟩) s
 | LZ {s c}:c7 (.sq c) s (.c2 c) s
 | wK {s c}:c.it < 4→c7 (.sq c) s (iE c) s
 | Ot {s c}:s.mu=c.old→c7 (.c1 c) s (.r1 { c with aw:=true }) { s with mu:={ c.old with w:=1 } }
 | Oq {s c}:s.mu≠c.old→c7 (.c1 c) s (.r1 c) s
 | r1 {s c}:c7 (.r1 c) s (hd { c with old:=s.mu,it:=c.it+1 }) s
 | Oy {s c}:s.mu=c.old→c.old.l=0→c.old.s=0→c7 (.c2 c) s .le { s with mu:=nw c }
 | vt {s c}:s.mu=c.old→(c.old.l=1∨c.old.s=1)→c7 (.c2 c) s (if c.ws then .s1 c else .t1 c) { s with mu:=nw c }
 | Oz {s c}:s.mu≠c.old→c7 (.c2 c) s (.r3 c) s
 | r3 {s c}:c7 (.r3 c) s (hd { c with old:=s.mu }) s
 | t1 {s c} (b:Bool):c7 (.t1 c) s (.s1 { c with ws:=b }) s
 | s1 {s c m}:s.ms=m+1→c7 (.s1 c) s (if c.sv then .r2 c else .t2 c) { s with ms:=m }
 | t2 {s c} (b:Bool):c7 (.t2 c) s (.r2 { c with sv:=b }) s
 | H7 {s c}:s.mu.s=1→c7 (.r2 c) s (.a1 (c.sv && s.mu.n != 1)) s
 | wC {s c}:s.mu.s=0→c7 (.r2 c) s (hd { c with old:=s.mu,aw:=true,it:=0 }) s
 | a1 {s b}:c7 (.a1 b) s .le { s with mu:=⟨1,s.mu.w,if b then s.mu.s else 0,s.mu.n - 1⟩ }
 | le {s}:c7 .le s .lc s
 | lc {s}:c7 .lc s .la s
 | la {s js}:c7 .la s (.ul js) s
 | ul {s js}:c7 (.ul js) s (.uv js) s
 | uv {s js}:c7 (.uv js) s (.ur js) s
 | ur {s js}:c7 (.ur js) s .ud s
 | ud {s}:c7 .ud s .u0 s
 | u0z {s}:s.mu.w=0→s.mu.s=0→s.mu.n=0→c7 .u0 s .ue { s with mu:={ s.mu with l:=0 } }
 | wL {s}:¬ (s.mu.w=0∧s.mu.s=0∧s.mu.n=0)→s.mu.s=0→c7 .u0 s (hu { s.mu with l:=0 }) { s with mu:={ s.mu with l:=0 } }
 | u0h {s}:s.mu.s=1→c7 .u0 s .us { s with mu:={ s.mu with l:=0 } }
 | abL {s m}:s.mu=m→c7 (.uc m) s .us { s with mu:={ m with w:=1,n:=m.n - 1 } }
 | Ud {s m}:s.mu≠m→c7 (.uc m) s .ux s
 | ux {s}:c7 .ux s (hu s.mu) s
 | us {s}:c7 .us s .ue { s with ms:=s.ms+1 }
 | L7 {s}:c7 .ue s .ld s
 | L8 {s}:c7 .ue s .wv s
 | wv {s}:c7 .wv s .wr s
 | wr {s}:c7 .wr s .wk s
 | wk {s}:c7 .wk s .d1 s
 | FA {s}:(s.v≠1∨s.w=0)→c7 .d1 s .quit { s with v:=s.v - 1 }
 | OM {s}:s.v=1→s.w=1→c7 .d1 s .d2 { s with v:=0 }
 | d2 {s}:c7 .d2 s .d3 s
 | d3 {s}:c7 .d3 s .d4 { s with v:=0,w:=0 }
 | d4 {s}:c7 .d4 s .quit { s with ws:=s.ws+1 }
structure Cn where
 ow:Nat
 hl:Nat
 pu:Nat
 pc:Nat
 al:Nat
 z:Nat
 a1:Nat
 ak:Nat
 ux:Nat
 wk:Nat
 lv:Nat
 dw:Nat
 d4:Nat
def rR(c:Lc):Nat:=if c.aw then 1 else 0
def Cn.zero:Cn:=⟨0,0,0,0,0,0,0,0,0,0,0,0,0⟩
def Cn.busy:Cn:={ Cn.zero with wk:=1,lv:=1 }
def cW:Lp→Cn
 | .le | .lc | .la | .ud | .u0=>{ Cn.busy with ow:=1 }
 | .ul _ | .uv _ | .ur _=>{ Cn.busy with hl:=1 }
 | .us=>{ Cn.busy with pu:=1 }
 | .t2 _ | .r2 _=>{ Cn.busy with wk:=0,pc:=1 }
 | .a1 b=>if b then { Cn.busy with wk:=0,ak:=1 } else { Cn.busy with wk:=0,a1:=1 }
 | .sq c | .c1 c | .r1 c | .c2 c | .r3 c=>{ Cn.busy with al:=rR c }
 | .t1 _ | .s1 _=>{ Cn.busy with wk:=0,z:=1 }
 | .uc _ | .ux=>{ Cn.busy with ux:=1 }
 | .d2 | .d3=>{ Cn.zero with wk:=1,dw:=1 }
 | .d4=>{ Cn.zero with wk:=1,d4:=1 }
 | .quit=>Cn.zero
 | _=>Cn.busy
structure Cn.xF (c x y c':Cn):Prop where
 ow:c'.ow+x.ow=c.ow+y.ow
 hl:c'.hl+x.hl=c.hl+y.hl
 pu:c'.pu+x.pu=c.pu+y.pu
 pc:c'.pc+x.pc=c.pc+y.pc
 al:c'.al+x.al=c.al+y.al
 z:c'.z+x.z=c.z+y.z
 a1:c'.a1+x.a1=c.a1+y.a1
 ak:c'.ak+x.ak=c.ak+y.ak
 ux:c'.ux+x.ux=c.ux+y.ux
 wk:c'.wk+x.wk=c.wk+y.wk
 lv:c'.lv+x.lv=c.lv+y.lv
 dw:c'.dw+x.dw=c.dw+y.dw
 d4:c'.d4+x.d4=c.d4+y.d4
structure Cn.Le (x c:Cn):Prop where
 ow:x.ow≤c.ow
 hl:x.hl≤c.hl
 pu:x.pu≤c.pu
 pc:x.pc≤c.pc
 al:x.al≤c.al
 z:x.z≤c.z
 a1:x.a1≤c.a1
 ak:x.ak≤c.ak
 ux:x.ux≤c.ux
 wk:x.wk≤c.wk
 lv:x.lv≤c.lv
 dw:x.dw≤c.dw
 d4:x.d4≤c.d4
structure c6 (N:Nat) (c:Cn) (s:Sh):Prop where
 l1:s.mu.l≤1
 w1:s.mu.w≤1
 s1:s.mu.w+s.mu.s≤1
 ow:c.ow+c.hl=s.mu.l
 al:c.al≤s.mu.w
 md:((s.mu.s=0∨s.mu.l=1)∧c.pu+c.pc+c.al+s.ms=s.mu.w∧c.a1+c.ak=0∧s.mu.n+c.pu+s.ms=c.z)∨(s.mu.s=1∧s.mu.l=0∧c.pu+c.pc+c.a1+c.ak+c.al+s.ms=1∧s.mu.n=c.z+c.pc+c.a1+c.ak)
 ak:2 * c.ak≤s.mu.n
 sn:s.mu.s=0∨1≤s.mu.n
 i4:s.mu.l=1∨s.mu.w=1∨s.mu.s=1∨s.mu.n=0∨1≤c.ux
 wN:c.wk+c.z+c.pc+c.a1+c.ak≤N
def pv(N:Nat):Lp→Prop
 | .sq c=>c.old.ok N∧c.it≤4∧(c.sv=true→c.aw=true)∧(c.aw=true→c.old.w=1)∧c.old.l=1∧c.old.s=0
 | .c1 c=>c.old.ok N∧c.it < 4∧c.sv=false∧c.aw=false∧c.old.l=1∧c.old.s=0∧c.old.w=0∧c.old.n≠0
 | .r1 c=>c.old.ok N∧c.it < 4∧(c.sv=true→c.aw=true)
 | .c2 c=>c.old.ok N∧c.it≤4∧(c.sv=true→c.aw=true)∧(c.aw=true→c.old.w=1)
 | .r3 c=>c.old.ok N∧c.it≤4∧(c.sv=true→c.aw=true)
 | .t1 c=>c.ws=false
 | .t2 c=>c.sv=false
 | .uc m=>m.ok N∧m.l=0∧m.w=0∧m.s=0∧m.n≠0
 | _=>True
def Ba(N:Nat)(T:Lp)(s:Sh):Prop:=s.mu.ok N∧(match T with
 | .r1 c | .r3 c=>c.aw=true→s.mu.w=1
 | .r2 _=>(s.mu.s=1∧s.mu.l=0∧s.mu.w=0∧s.mu.n≠0)∨(s.mu.s=0∧s.mu.w=1)
 | .a1 b=>s.mu.s=1∧s.mu.l=0∧s.mu.w=0∧s.mu.n≠0∧(b=true→2≤s.mu.n)
 | .u0=>s.mu.l=1
 | .us=>s.ms=0
 | _=>True)
theorem Ca{c:Lc}(h:c.aw=true):rR c=1:=by simp [rR,h]
theorem E6{c:Lc}(h:c.aw=false):rR c=0:=by simp [rR,h]
section
variable {N:Nat} {c c':Cn} {s s':Sh} {T T':Lp}
theorem c6.Ba(h:c6 N c s)(hle:(cW T).Le c):Ba N T s:=by
 obtain ⟨h1,h2,h3,h4,h5,h6,h8,h9,FI,FJ⟩:=h
 obtain ⟨e1,e2,e3,e4,e5,e6,e7,e8,e9,dZ,eb,dD,ed⟩:=hle
 refine ⟨⟨h1,h2,by omega,by omega⟩,?_⟩
 cases T <;> simp only [cW,Cn.busy,Cn.zero] at * <;> first | trivial | skip
 case r1 c=>intro ha; rw [Ca ha] at e5; omega
 case r3 c=>intro ha; rw [Ca ha] at e5; omega
 case r2 c=>omega
 case a1 b =>
  cases b
  ·simp only [Bool.false_eq_true,if_false] at e7 e8
   exact ⟨by omega,by omega,by omega,by omega,λ hb=>by cases hb⟩
  ·simp only [if_true] at e7 e8
   exact ⟨by omega,by omega,by omega,by omega,λ _=>by omega⟩
 case u0=>omega
 case us=>omega
theorem qL(c:Lc):cW (hd c)={ Cn.busy with al:=rR c }:=by unfold hd; split <;> rfl
theorem OJ(c:Lc):cW (iE c)={ Cn.busy with al:=rR c }:=by unfold iE; split <;> rfl
theorem Lz{c:Lc}(h1:c.old.ok N)(h2:c.it≤4)(h3:c.sv=true→c.aw=true)(h4:c.aw=true→c.old.w=1):pv N (hd c):=by
 unfold hd; split
 ·exact ⟨h1,h2,h3,h4,by omega,by omega⟩
 ·exact ⟨h1,h2,h3,h4⟩
set_option maxHeartbeats 2000000 in
theorem c6.step(h:c6 N c s)(hT:pv N T)(hle:(cW T).Le c)(de:c7 T s T' s')(hc:c.xF (cW T) (cW T') c'):c6 N c' s'∧pv N T':=by
 have hS:=h.Ba hle
 obtain ⟨h1,h2,h3,h4,h5,h6,h8,h9,FI,FJ⟩:=h
 obtain ⟨g1,g2,g3,g4,g5,g6,g7,g8,g9,cR,cC,cD,cE⟩:=hc
 obtain ⟨e1,e2,e3,e4,e5,e6,e7,e8,e9,dZ,eb,dD,ed⟩:=hle
 obtain ⟨⟨q1,q2,q3,q4⟩,hS⟩:=hS
 obtain ⟨⟨ml,mw,mz,mn⟩,ms,v,w,ws⟩:=s
 obtain ⟨ow,hl,pu,pc,al',z,a1,ak,ux,wk,lv,dw,d4⟩:=c
 obtain ⟨dQ,hl',dS,dR,dL,z',dJ,dK,dU,dV,dP,dO,dN⟩:=c'
 dsimp only at h1 h2 h3 h4 h5 h6 h8 h9 FI FJ g1 g2 g3 g4 g5 g6 g7 g8 g9 cR cC cD cE e1 e2 e3 e4 e5 e6 e7 e8 e9 dZ eb dD ed q1 q2 q3 q4 hS
 cases de with
 | ld =>
  simp only [cW,Cn.busy,Cn.zero] at g1 g2 g3 g4 g5 g6 g7 g8 g9 cR cC cD cE e1 e2 e3 e4 e5 e6 e7 e8 e9 dZ eb dD ed
  exact ⟨(by show c6 N ⟨dQ,hl',dS,dR,dL,z',dJ,dK,dU,dV,dP,dO,dN⟩ ⟨⟨ml,mw,mz,mn⟩,ms,v,w,ws⟩; constructor <;> dsimp only <;> omega),trivial⟩
 | ZO hm =>
  simp only [Wd.zero,Wd.mk.injEq] at hm
  obtain ⟨rfl,rfl,rfl,rfl⟩:=hm
  simp only [cW,Cn.busy,Cn.zero] at g1 g2 g3 g4 g5 g6 g7 g8 g9 cR cC cD cE e1 e2 e3 e4 e5 e6 e7 e8 e9 dZ eb dD ed
  exact ⟨(by show c6 N ⟨dQ,hl',dS,dR,dL,z',dJ,dK,dU,dV,dP,dO,dN⟩ ⟨⟨1,0,0,0⟩,ms,v,w,ws⟩; constructor <;> dsimp only <;> omega),trivial⟩
 | ZN hm =>
  simp only [cW,Cn.busy,Cn.zero] at g1 g2 g3 g4 g5 g6 g7 g8 g9 cR cC cD cE e1 e2 e3 e4 e5 e6 e7 e8 e9 dZ eb dD ed
  exact ⟨(by show c6 N ⟨dQ,hl',dS,dR,dL,z',dJ,dK,dU,dV,dP,dO,dN⟩ ⟨⟨ml,mw,mz,mn⟩,ms,v,w,ws⟩; constructor <;> dsimp only <;> omega),trivial⟩
 | r0 =>
  simp only [qL] at g1 g2 g3 g4 g5 g6 g7 g8 g9 cR cC cD cE
  simp only [cW,Cn.busy,Cn.zero] at g1 g2 g3 g4 g5 g6 g7 g8 g9 cR cC cD cE e1 e2 e3 e4 e5 e6 e7 e8 e9 dZ eb dD ed
  rw [E6 rfl] at g5
  exact ⟨(by show c6 N ⟨dQ,hl',dS,dR,dL,z',dJ,dK,dU,dV,dP,dO,dN⟩ ⟨⟨ml,mw,mz,mn⟩,ms,v,w,ws⟩; constructor <;> dsimp only <;> omega),Lz ⟨q1,q2,q3,q4⟩ (by simp) (by simp) (by simp)⟩
 | @LZ _ c =>
  simp only [cW,Cn.busy,Cn.zero] at g1 g2 g3 g4 g5 g6 g7 g8 g9 cR cC cD cE e1 e2 e3 e4 e5 e6 e7 e8 e9 dZ eb dD ed
  exact ⟨(by show c6 N ⟨dQ,hl',dS,dR,dL,z',dJ,dK,dU,dV,dP,dO,dN⟩ ⟨⟨ml,mw,mz,mn⟩,ms,v,w,ws⟩; constructor <;> dsimp only <;> omega),hT.1,hT.2.1,hT.2.2.1,hT.2.2.2.1⟩
 | @wK _ c hi =>
  obtain ⟨t1,t2,t3,t4,t5,t6⟩:=hT
  simp only [OJ] at g1 g2 g3 g4 g5 g6 g7 g8 g9 cR cC cD cE
  simp only [cW,Cn.busy,Cn.zero] at g1 g2 g3 g4 g5 g6 g7 g8 g9 cR cC cD cE e1 e2 e3 e4 e5 e6 e7 e8 e9 dZ eb dD ed
  refine ⟨(by show c6 N ⟨dQ,hl',dS,dR,dL,z',dJ,dK,dU,dV,dP,dO,dN⟩ ⟨⟨ml,mw,mz,mn⟩,ms,v,w,ws⟩; constructor <;> dsimp only <;> omega),?_⟩
  unfold iE; split
  ·rename_i hx
   refine ⟨t1,hi,?_,hx.1,t5,t6,hx.2.1,hx.2.2⟩
   cases QW:c.sv with
   | false=>rfl
   | true=>rw [t3 QW] at hx; cases hx.1
  ·exact ⟨t1,hi,t3⟩
 | @Ot _ c hm =>
  obtain ⟨old,aw,sv,it,wz⟩:=c
  cases hm
  obtain ⟨⟨o1,o2,o3,o4⟩,t2,t3,t4,t5,t6,t7,t8⟩:=hT
  simp only at t2 t3 t4 t5 t6 t7 t8
  subst t4
  simp only [cW,Cn.busy,Cn.zero] at g1 g2 g3 g4 g5 g6 g7 g8 g9 cR cC cD cE e1 e2 e3 e4 e5 e6 e7 e8 e9 dZ eb dD ed
  rw [E6 rfl,Ca rfl] at g5
  rw [E6 rfl] at e5
  exact ⟨(by show c6 N ⟨dQ,hl',dS,dR,dL,z',dJ,dK,dU,dV,dP,dO,dN⟩ ⟨⟨ml,1,mz,mn⟩,ms,v,w,ws⟩; constructor <;> dsimp only <;> omega),⟨o1,o2,o3,o4⟩,t2,λ _=>rfl⟩
 | @Oq _ c hm =>
  simp only [cW,Cn.busy,Cn.zero] at g1 g2 g3 g4 g5 g6 g7 g8 g9 cR cC cD cE e1 e2 e3 e4 e5 e6 e7 e8 e9 dZ eb dD ed
  exact ⟨(by show c6 N ⟨dQ,hl',dS,dR,dL,z',dJ,dK,dU,dV,dP,dO,dN⟩ ⟨⟨ml,mw,mz,mn⟩,ms,v,w,ws⟩; constructor <;> dsimp only <;> omega),hT.1,hT.2.1,λ hx=>by rw [hT.2.2.1] at hx; cases hx⟩
 | @r1 _ c =>
  simp only [qL] at g1 g2 g3 g4 g5 g6 g7 g8 g9 cR cC cD cE
  simp only [cW,Cn.busy,Cn.zero] at g1 g2 g3 g4 g5 g6 g7 g8 g9 cR cC cD cE e1 e2 e3 e4 e5 e6 e7 e8 e9 dZ eb dD ed
  have ea:rR { c with old:=⟨ml,mw,mz,mn⟩,it:=c.it+1 }=rR c:=rfl
  rw [ea] at g5
  exact ⟨(by show c6 N ⟨dQ,hl',dS,dR,dL,z',dJ,dK,dU,dV,dP,dO,dN⟩ ⟨⟨ml,mw,mz,mn⟩,ms,v,w,ws⟩; constructor <;> dsimp only <;> omega),Lz ⟨q1,q2,q3,q4⟩ (by have:=hT.2.1; simp only; omega) hT.2.2 hS⟩
 | @Oy _ c hm hl hs =>
  obtain ⟨old,aw,sv,it,wz⟩:=c
  cases hm
  simp only at hl hs
  subst hl hs
  obtain ⟨⟨o1,o2,o3,o4⟩,t2,t3,t4⟩:=hT
  simp only at t3 t4
  simp only [cW,Cn.busy,Cn.zero] at g1 g2 g3 g4 g5 g6 g7 g8 g9 cR cC cD cE e1 e2 e3 e4 e5 e6 e7 e8 e9 dZ eb dD ed
  have en:nw ⟨⟨0,mw,0,mn⟩,aw,sv,it,wz⟩=⟨1,if aw then 0 else mw,0,mn⟩:=by simp [nw]
  rw [en]
  cases aw
  ·rw [E6 rfl] at g5 e5
   exact ⟨(by show c6 N ⟨dQ,hl',dS,dR,dL,z',dJ,dK,dU,dV,dP,dO,dN⟩ ⟨⟨1,mw,0,mn⟩,ms,v,w,ws⟩; constructor <;> dsimp only <;> omega),trivial⟩
  ·rw [Ca rfl] at g5 e5
   have:=t4 rfl
   exact ⟨(by show c6 N ⟨dQ,hl',dS,dR,dL,z',dJ,dK,dU,dV,dP,dO,dN⟩ ⟨⟨1,0,0,mn⟩,ms,v,w,ws⟩; constructor <;> dsimp only <;> omega),trivial⟩
 | @vt _ c hm hq =>
  obtain ⟨old,aw,sv,it,wz⟩:=c
  cases hm
  obtain ⟨⟨o1,o2,o3,o4⟩,t2,t3,t4⟩:=hT
  simp only at t3 t4 hq
  have ez:cW (if wz=true then Lp.s1 ⟨⟨ml,mw,mz,mn⟩,aw,sv,it,wz⟩ else Lp.t1 ⟨⟨ml,mw,mz,mn⟩,aw,sv,it,wz⟩)={ Cn.busy with wk:=0,z:=1 }:=by cases wz <;> rfl
  simp only at g1 g2 g3 g4 g5 g6 g7 g8 g9 cR cC cD cE
  simp only [ez] at g1 g2 g3 g4 g5 g6 g7 g8 g9 cR cC cD cE
  simp only [cW,Cn.busy,Cn.zero] at g1 g2 g3 g4 g5 g6 g7 g8 g9 cR cC cD cE e1 e2 e3 e4 e5 e6 e7 e8 e9 dZ eb dD ed
  refine ⟨?_,by cases wz <;> first | rfl | trivial⟩
  cases aw
  ·cases sv
   ·rw [E6 rfl] at g5 e5
    by_cases hz:mz=0
    ·subst hz
     have se:ml=1:=by omega
     subst se
     have en:nw ⟨⟨1,mw,0,mn⟩,false,false,it,wz⟩=⟨1,mw,0,mn+1⟩:=by simp [nw]
     rw [en]
     exact (by show c6 N ⟨dQ,hl',dS,dR,dL,z',dJ,dK,dU,dV,dP,dO,dN⟩ ⟨⟨1,mw,0,mn+1⟩,ms,v,w,ws⟩; constructor <;> dsimp only <;> omega)
    ·have hz1:mz=1:=by omega
     subst hz1
     have en:nw ⟨⟨ml,mw,1,mn⟩,false,false,it,wz⟩=⟨ml,mw,1,mn+1⟩:=by simp [nw]
     rw [en]
     exact (by show c6 N ⟨dQ,hl',dS,dR,dL,z',dJ,dK,dU,dV,dP,dO,dN⟩ ⟨⟨ml,mw,1,mn+1⟩,ms,v,w,ws⟩; constructor <;> dsimp only <;> omega)
   ·exact absurd (t3 rfl) (by simp)
  ·rw [Ca rfl] at g5 e5
   have hw:=t4 rfl
   have hz:mz=0:=by omega
   have se:ml=1:=by omega
   subst hz se hw
   cases sv
   ·have en:nw ⟨⟨1,1,0,mn⟩,true,false,it,wz⟩=⟨1,0,0,mn+1⟩:=by simp [nw]
    rw [en]
    exact (by show c6 N ⟨dQ,hl',dS,dR,dL,z',dJ,dK,dU,dV,dP,dO,dN⟩ ⟨⟨1,0,0,mn+1⟩,ms,v,w,ws⟩; constructor <;> dsimp only <;> omega)
   ·have en:nw ⟨⟨1,1,0,mn⟩,true,true,it,wz⟩=⟨1,0,1,mn+1⟩:=by simp [nw]
    rw [en]
    exact (by show c6 N ⟨dQ,hl',dS,dR,dL,z',dJ,dK,dU,dV,dP,dO,dN⟩ ⟨⟨1,0,1,mn+1⟩,ms,v,w,ws⟩; constructor <;> dsimp only <;> omega)
 | @Oz _ c hm =>
  simp only [cW,Cn.busy,Cn.zero] at g1 g2 g3 g4 g5 g6 g7 g8 g9 cR cC cD cE e1 e2 e3 e4 e5 e6 e7 e8 e9 dZ eb dD ed
  exact ⟨(by show c6 N ⟨dQ,hl',dS,dR,dL,z',dJ,dK,dU,dV,dP,dO,dN⟩ ⟨⟨ml,mw,mz,mn⟩,ms,v,w,ws⟩; constructor <;> dsimp only <;> omega),hT.1,hT.2.1,hT.2.2.1⟩
 | @r3 _ c =>
  simp only [qL] at g1 g2 g3 g4 g5 g6 g7 g8 g9 cR cC cD cE
  simp only [cW,Cn.busy,Cn.zero] at g1 g2 g3 g4 g5 g6 g7 g8 g9 cR cC cD cE e1 e2 e3 e4 e5 e6 e7 e8 e9 dZ eb dD ed
  have ea:rR { c with old:=⟨ml,mw,mz,mn⟩ }=rR c:=rfl
  rw [ea] at g5
  exact ⟨(by show c6 N ⟨dQ,hl',dS,dR,dL,z',dJ,dK,dU,dV,dP,dO,dN⟩ ⟨⟨ml,mw,mz,mn⟩,ms,v,w,ws⟩; constructor <;> dsimp only <;> omega),Lz ⟨q1,q2,q3,q4⟩ hT.2.1 hT.2.2 hS⟩
 | @t1 _ c b =>
  simp only [cW,Cn.busy,Cn.zero] at g1 g2 g3 g4 g5 g6 g7 g8 g9 cR cC cD cE e1 e2 e3 e4 e5 e6 e7 e8 e9 dZ eb dD ed
  exact ⟨(by show c6 N ⟨dQ,hl',dS,dR,dL,z',dJ,dK,dU,dV,dP,dO,dN⟩ ⟨⟨ml,mw,mz,mn⟩,ms,v,w,ws⟩; constructor <;> dsimp only <;> omega),trivial⟩
 | @s1 _ c m hm =>
  have ez:cW (if c.sv=true then Lp.r2 c else Lp.t2 c)={ Cn.busy with wk:=0,pc:=1 }:=by cases c.sv <;> rfl
  simp only at hm
  simp only [ez] at g1 g2 g3 g4 g5 g6 g7 g8 g9 cR cC cD cE
  simp only [cW,Cn.busy,Cn.zero] at g1 g2 g3 g4 g5 g6 g7 g8 g9 cR cC cD cE e1 e2 e3 e4 e5 e6 e7 e8 e9 dZ eb dD ed
  refine ⟨(by show c6 N ⟨dQ,hl',dS,dR,dL,z',dJ,dK,dU,dV,dP,dO,dN⟩ ⟨⟨ml,mw,mz,mn⟩,m,v,w,ws⟩; constructor <;> dsimp only <;> omega),?_⟩
  cases QW:c.sv with
  | false=>exact QW
  | true=>trivial
 | @t2 _ c b =>
  simp only [cW,Cn.busy,Cn.zero] at g1 g2 g3 g4 g5 g6 g7 g8 g9 cR cC cD cE e1 e2 e3 e4 e5 e6 e7 e8 e9 dZ eb dD ed
  exact ⟨(by show c6 N ⟨dQ,hl',dS,dR,dL,z',dJ,dK,dU,dV,dP,dO,dN⟩ ⟨⟨ml,mw,mz,mn⟩,ms,v,w,ws⟩; constructor <;> dsimp only <;> omega),trivial⟩
 | @H7 _ c hm =>
  simp only at hm; subst hm
  simp only [cW,Cn.busy,Cn.zero] at g1 g2 g3 g4 g5 g6 g7 g8 g9 cR cC cD cE e1 e2 e3 e4 e5 e6 e7 e8 e9 dZ eb dD ed
  refine ⟨?_,trivial⟩
  cases hb:(c.sv && mn != 1) with
  | false =>
   simp only [hb,Bool.false_eq_true,if_false] at g1 g2 g3 g4 g5 g6 g7 g8 g9 cR cC cD cE
   exact (by show c6 N ⟨dQ,hl',dS,dR,dL,z',dJ,dK,dU,dV,dP,dO,dN⟩ ⟨⟨ml,mw,1,mn⟩,ms,v,w,ws⟩; constructor <;> dsimp only <;> omega)
  | true =>
   have hn1:mn≠1:=by simp at hb; exact hb.2
   simp only [hb,if_true] at g1 g2 g3 g4 g5 g6 g7 g8 g9 cR cC cD cE
   exact (by show c6 N ⟨dQ,hl',dS,dR,dL,z',dJ,dK,dU,dV,dP,dO,dN⟩ ⟨⟨ml,mw,1,mn⟩,ms,v,w,ws⟩; constructor <;> dsimp only <;> omega)
 | @wC _ c hm =>
  simp only at hm; subst hm
  simp only [qL] at g1 g2 g3 g4 g5 g6 g7 g8 g9 cR cC cD cE
  simp only [cW,Cn.busy,Cn.zero] at g1 g2 g3 g4 g5 g6 g7 g8 g9 cR cC cD cE e1 e2 e3 e4 e5 e6 e7 e8 e9 dZ eb dD ed
  rw [Ca rfl] at g5
  exact ⟨(by show c6 N ⟨dQ,hl',dS,dR,dL,z',dJ,dK,dU,dV,dP,dO,dN⟩ ⟨⟨ml,mw,0,mn⟩,ms,v,w,ws⟩; constructor <;> dsimp only <;> omega),Lz ⟨q1,q2,q3,q4⟩ (by simp) (λ _=>rfl) (λ _=>by simp only; omega)⟩
 | @a1 _ b =>
  obtain ⟨r1,r2,r3,r4,r5⟩:=hS
  subst r1 r2 r3
  simp only [cW,Cn.busy,Cn.zero] at g1 g2 g3 g4 g5 g6 g7 g8 g9 cR cC cD cE e1 e2 e3 e4 e5 e6 e7 e8 e9 dZ eb dD ed
  cases b
  ·simp only [Bool.false_eq_true,if_false] at g1 g2 g3 g4 g5 g6 g7 g8 g9 cR cC cD cE e1 e2 e3 e4 e5 e6 e7 e8 e9 dZ eb dD ed
   exact ⟨(by show c6 N ⟨dQ,hl',dS,dR,dL,z',dJ,dK,dU,dV,dP,dO,dN⟩ ⟨⟨1,0,0,mn - 1⟩,ms,v,w,ws⟩; constructor <;> dsimp only <;> omega),trivial⟩
  ·simp only [if_true] at g1 g2 g3 g4 g5 g6 g7 g8 g9 cR cC cD cE e1 e2 e3 e4 e5 e6 e7 e8 e9 dZ eb dD ed
   exact ⟨(by show c6 N ⟨dQ,hl',dS,dR,dL,z',dJ,dK,dU,dV,dP,dO,dN⟩ ⟨⟨1,0,1,mn - 1⟩,ms,v,w,ws⟩; constructor <;> dsimp only <;> omega),trivial⟩
 | le =>
  simp only [cW,Cn.busy,Cn.zero] at g1 g2 g3 g4 g5 g6 g7 g8 g9 cR cC cD cE e1 e2 e3 e4 e5 e6 e7 e8 e9 dZ eb dD ed
  exact ⟨(by show c6 N ⟨dQ,hl',dS,dR,dL,z',dJ,dK,dU,dV,dP,dO,dN⟩ ⟨⟨ml,mw,mz,mn⟩,ms,v,w,ws⟩; constructor <;> dsimp only <;> omega),trivial⟩
 | lc =>
  simp only [cW,Cn.busy,Cn.zero] at g1 g2 g3 g4 g5 g6 g7 g8 g9 cR cC cD cE e1 e2 e3 e4 e5 e6 e7 e8 e9 dZ eb dD ed
  exact ⟨(by show c6 N ⟨dQ,hl',dS,dR,dL,z',dJ,dK,dU,dV,dP,dO,dN⟩ ⟨⟨ml,mw,mz,mn⟩,ms,v,w,ws⟩; constructor <;> dsimp only <;> omega),trivial⟩
 | la =>
  simp only [cW,Cn.busy,Cn.zero] at g1 g2 g3 g4 g5 g6 g7 g8 g9 cR cC cD cE e1 e2 e3 e4 e5 e6 e7 e8 e9 dZ eb dD ed
  exact ⟨(by show c6 N ⟨dQ,hl',dS,dR,dL,z',dJ,dK,dU,dV,dP,dO,dN⟩ ⟨⟨ml,mw,mz,mn⟩,ms,v,w,ws⟩; constructor <;> dsimp only <;> omega),trivial⟩
 | ul =>
  simp only [cW,Cn.busy,Cn.zero] at g1 g2 g3 g4 g5 g6 g7 g8 g9 cR cC cD cE e1 e2 e3 e4 e5 e6 e7 e8 e9 dZ eb dD ed
  exact ⟨(by show c6 N ⟨dQ,hl',dS,dR,dL,z',dJ,dK,dU,dV,dP,dO,dN⟩ ⟨⟨ml,mw,mz,mn⟩,ms,v,w,ws⟩; constructor <;> dsimp only <;> omega),trivial⟩
 | uv =>
  simp only [cW,Cn.busy,Cn.zero] at g1 g2 g3 g4 g5 g6 g7 g8 g9 cR cC cD cE e1 e2 e3 e4 e5 e6 e7 e8 e9 dZ eb dD ed
  exact ⟨(by show c6 N ⟨dQ,hl',dS,dR,dL,z',dJ,dK,dU,dV,dP,dO,dN⟩ ⟨⟨ml,mw,mz,mn⟩,ms,v,w,ws⟩; constructor <;> dsimp only <;> omega),trivial⟩
 | ur =>
  simp only [cW,Cn.busy,Cn.zero] at g1 g2 g3 g4 g5 g6 g7 g8 g9 cR cC cD cE e1 e2 e3 e4 e5 e6 e7 e8 e9 dZ eb dD ed
  exact ⟨(by show c6 N ⟨dQ,hl',dS,dR,dL,z',dJ,dK,dU,dV,dP,dO,dN⟩ ⟨⟨ml,mw,mz,mn⟩,ms,v,w,ws⟩; constructor <;> dsimp only <;> omega),trivial⟩
 | ud =>
  simp only [cW,Cn.busy,Cn.zero] at g1 g2 g3 g4 g5 g6 g7 g8 g9 cR cC cD cE e1 e2 e3 e4 e5 e6 e7 e8 e9 dZ eb dD ed
  exact ⟨(by show c6 N ⟨dQ,hl',dS,dR,dL,z',dJ,dK,dU,dV,dP,dO,dN⟩ ⟨⟨ml,mw,mz,mn⟩,ms,v,w,ws⟩; constructor <;> dsimp only <;> omega),trivial⟩
 | u0z a b d =>
  simp only at a b d; subst a b d
  simp only [cW,Cn.busy,Cn.zero] at g1 g2 g3 g4 g5 g6 g7 g8 g9 cR cC cD cE e1 e2 e3 e4 e5 e6 e7 e8 e9 dZ eb dD ed
  exact ⟨(by show c6 N ⟨dQ,hl',dS,dR,dL,z',dJ,dK,dU,dV,dP,dO,dN⟩ ⟨⟨0,0,0,0⟩,ms,v,w,ws⟩; constructor <;> dsimp only <;> omega),trivial⟩
 | wL a b =>
  simp only at a b; subst b
  by_cases hx:mn=0∨(0:Nat)=1∨mw=1∨(0:Nat)=1
  ·have eh:hu ⟨0,mw,0,mn⟩ = .ue:=by simp only [hu,hx,if_true]
   simp only [eh] at g1 g2 g3 g4 g5 g6 g7 g8 g9 cR cC cD cE
   simp only [cW,Cn.busy,Cn.zero] at g1 g2 g3 g4 g5 g6 g7 g8 g9 cR cC cD cE e1 e2 e3 e4 e5 e6 e7 e8 e9 dZ eb dD ed
   rw [eh]
   exact ⟨(by show c6 N ⟨dQ,hl',dS,dR,dL,z',dJ,dK,dU,dV,dP,dO,dN⟩ ⟨⟨0,mw,0,mn⟩,ms,v,w,ws⟩; constructor <;> dsimp only <;> omega),trivial⟩
  ·have eh:hu ⟨0,mw,0,mn⟩ = .uc ⟨0,mw,0,mn⟩:=by simp only [hu,hx,if_false]
   simp only [eh] at g1 g2 g3 g4 g5 g6 g7 g8 g9 cR cC cD cE
   simp only [cW,Cn.busy,Cn.zero] at g1 g2 g3 g4 g5 g6 g7 g8 g9 cR cC cD cE e1 e2 e3 e4 e5 e6 e7 e8 e9 dZ eb dD ed
   rw [eh]
   exact ⟨(by show c6 N ⟨dQ,hl',dS,dR,dL,z',dJ,dK,dU,dV,dP,dO,dN⟩ ⟨⟨0,mw,0,mn⟩,ms,v,w,ws⟩; constructor <;> dsimp only <;> omega),⟨by simp,q2,by simp,q4⟩,rfl,by simp only; omega,rfl,by simp only; omega⟩
 | u0h a =>
  simp only at a; subst a
  simp only [cW,Cn.busy,Cn.zero] at g1 g2 g3 g4 g5 g6 g7 g8 g9 cR cC cD cE e1 e2 e3 e4 e5 e6 e7 e8 e9 dZ eb dD ed
  exact ⟨(by show c6 N ⟨dQ,hl',dS,dR,dL,z',dJ,dK,dU,dV,dP,dO,dN⟩ ⟨⟨0,mw,1,mn⟩,ms,v,w,ws⟩; constructor <;> dsimp only <;> omega),trivial⟩
 | abL a =>
  cases a
  obtain ⟨⟨o1,o2,o3,o4⟩,t2,t3,t4,t5⟩:=hT
  simp only at t2 t3 t4 t5
  subst t2 t3 t4
  simp only [cW,Cn.busy,Cn.zero] at g1 g2 g3 g4 g5 g6 g7 g8 g9 cR cC cD cE e1 e2 e3 e4 e5 e6 e7 e8 e9 dZ eb dD ed
  exact ⟨(by show c6 N ⟨dQ,hl',dS,dR,dL,z',dJ,dK,dU,dV,dP,dO,dN⟩ ⟨⟨0,1,0,mn - 1⟩,ms,v,w,ws⟩; constructor <;> dsimp only <;> omega),trivial⟩
 | Ud a =>
  simp only [cW,Cn.busy,Cn.zero] at g1 g2 g3 g4 g5 g6 g7 g8 g9 cR cC cD cE e1 e2 e3 e4 e5 e6 e7 e8 e9 dZ eb dD ed
  exact ⟨(by show c6 N ⟨dQ,hl',dS,dR,dL,z',dJ,dK,dU,dV,dP,dO,dN⟩ ⟨⟨ml,mw,mz,mn⟩,ms,v,w,ws⟩; constructor <;> dsimp only <;> omega),trivial⟩
 | ux =>
  by_cases hx:mn=0∨ml=1∨mw=1∨mz=1
  ·have eh:hu ⟨ml,mw,mz,mn⟩ = .ue:=by simp only [hu,hx,if_true]
   simp only [eh] at g1 g2 g3 g4 g5 g6 g7 g8 g9 cR cC cD cE
   simp only [cW,Cn.busy,Cn.zero] at g1 g2 g3 g4 g5 g6 g7 g8 g9 cR cC cD cE e1 e2 e3 e4 e5 e6 e7 e8 e9 dZ eb dD ed
   rw [eh]
   exact ⟨(by show c6 N ⟨dQ,hl',dS,dR,dL,z',dJ,dK,dU,dV,dP,dO,dN⟩ ⟨⟨ml,mw,mz,mn⟩,ms,v,w,ws⟩; constructor <;> dsimp only <;> omega),trivial⟩
  ·have eh:hu ⟨ml,mw,mz,mn⟩ = .uc ⟨ml,mw,mz,mn⟩:=by simp only [hu,hx,if_false]
   simp only [eh] at g1 g2 g3 g4 g5 g6 g7 g8 g9 cR cC cD cE
   simp only [cW,Cn.busy,Cn.zero] at g1 g2 g3 g4 g5 g6 g7 g8 g9 cR cC cD cE e1 e2 e3 e4 e5 e6 e7 e8 e9 dZ eb dD ed
   rw [eh]
   exact ⟨(by show c6 N ⟨dQ,hl',dS,dR,dL,z',dJ,dK,dU,dV,dP,dO,dN⟩ ⟨⟨ml,mw,mz,mn⟩,ms,v,w,ws⟩; constructor <;> dsimp only <;> omega),⟨q1,q2,q3,q4⟩,by simp only; omega,by simp only; omega,by simp only; omega,by simp only; omega⟩
 | us =>
  simp only [cW,Cn.busy,Cn.zero] at g1 g2 g3 g4 g5 g6 g7 g8 g9 cR cC cD cE e1 e2 e3 e4 e5 e6 e7 e8 e9 dZ eb dD ed
  exact ⟨(by show c6 N ⟨dQ,hl',dS,dR,dL,z',dJ,dK,dU,dV,dP,dO,dN⟩ ⟨⟨ml,mw,mz,mn⟩,ms+1,v,w,ws⟩; constructor <;> dsimp only <;> omega),trivial⟩
 | L7 =>
  simp only [cW,Cn.busy,Cn.zero] at g1 g2 g3 g4 g5 g6 g7 g8 g9 cR cC cD cE e1 e2 e3 e4 e5 e6 e7 e8 e9 dZ eb dD ed
  exact ⟨(by show c6 N ⟨dQ,hl',dS,dR,dL,z',dJ,dK,dU,dV,dP,dO,dN⟩ ⟨⟨ml,mw,mz,mn⟩,ms,v,w,ws⟩; constructor <;> dsimp only <;> omega),trivial⟩
 | L8 =>
  simp only [cW,Cn.busy,Cn.zero] at g1 g2 g3 g4 g5 g6 g7 g8 g9 cR cC cD cE e1 e2 e3 e4 e5 e6 e7 e8 e9 dZ eb dD ed
  exact ⟨(by show c6 N ⟨dQ,hl',dS,dR,dL,z',dJ,dK,dU,dV,dP,dO,dN⟩ ⟨⟨ml,mw,mz,mn⟩,ms,v,w,ws⟩; constructor <;> dsimp only <;> omega),trivial⟩
 | wv =>
  simp only [cW,Cn.busy,Cn.zero] at g1 g2 g3 g4 g5 g6 g7 g8 g9 cR cC cD cE e1 e2 e3 e4 e5 e6 e7 e8 e9 dZ eb dD ed
  exact ⟨(by show c6 N ⟨dQ,hl',dS,dR,dL,z',dJ,dK,dU,dV,dP,dO,dN⟩ ⟨⟨ml,mw,mz,mn⟩,ms,v,w,ws⟩; constructor <;> dsimp only <;> omega),trivial⟩
 | wr =>
  simp only [cW,Cn.busy,Cn.zero] at g1 g2 g3 g4 g5 g6 g7 g8 g9 cR cC cD cE e1 e2 e3 e4 e5 e6 e7 e8 e9 dZ eb dD ed
  exact ⟨(by show c6 N ⟨dQ,hl',dS,dR,dL,z',dJ,dK,dU,dV,dP,dO,dN⟩ ⟨⟨ml,mw,mz,mn⟩,ms,v,w,ws⟩; constructor <;> dsimp only <;> omega),trivial⟩
 | wk =>
  simp only [cW,Cn.busy,Cn.zero] at g1 g2 g3 g4 g5 g6 g7 g8 g9 cR cC cD cE e1 e2 e3 e4 e5 e6 e7 e8 e9 dZ eb dD ed
  exact ⟨(by show c6 N ⟨dQ,hl',dS,dR,dL,z',dJ,dK,dU,dV,dP,dO,dN⟩ ⟨⟨ml,mw,mz,mn⟩,ms,v,w,ws⟩; constructor <;> dsimp only <;> omega),trivial⟩
 | FA a =>
  simp only [cW,Cn.busy,Cn.zero] at g1 g2 g3 g4 g5 g6 g7 g8 g9 cR cC cD cE e1 e2 e3 e4 e5 e6 e7 e8 e9 dZ eb dD ed
  exact ⟨(by show c6 N ⟨dQ,hl',dS,dR,dL,z',dJ,dK,dU,dV,dP,dO,dN⟩ ⟨⟨ml,mw,mz,mn⟩,ms,v - 1,w,ws⟩; constructor <;> dsimp only <;> omega),trivial⟩
 | OM a b =>
  simp only [cW,Cn.busy,Cn.zero] at g1 g2 g3 g4 g5 g6 g7 g8 g9 cR cC cD cE e1 e2 e3 e4 e5 e6 e7 e8 e9 dZ eb dD ed
  exact ⟨(by show c6 N ⟨dQ,hl',dS,dR,dL,z',dJ,dK,dU,dV,dP,dO,dN⟩ ⟨⟨ml,mw,mz,mn⟩,ms,0,w,ws⟩; constructor <;> dsimp only <;> omega),trivial⟩
 | d2 =>
  simp only [cW,Cn.zero] at g1 g2 g3 g4 g5 g6 g7 g8 g9 cR cC cD cE e1 e2 e3 e4 e5 e6 e7 e8 e9 dZ eb dD ed
  exact ⟨(by show c6 N ⟨dQ,hl',dS,dR,dL,z',dJ,dK,dU,dV,dP,dO,dN⟩ ⟨⟨ml,mw,mz,mn⟩,ms,v,w,ws⟩; constructor <;> dsimp only <;> omega),trivial⟩
 | d3 =>
  simp only [cW,Cn.zero] at g1 g2 g3 g4 g5 g6 g7 g8 g9 cR cC cD cE e1 e2 e3 e4 e5 e6 e7 e8 e9 dZ eb dD ed
  exact ⟨(by show c6 N ⟨dQ,hl',dS,dR,dL,z',dJ,dK,dU,dV,dP,dO,dN⟩ ⟨⟨ml,mw,mz,mn⟩,ms,0,0,ws⟩; constructor <;> dsimp only <;> omega),trivial⟩
 | d4 =>
  simp only [cW,Cn.zero] at g1 g2 g3 g4 g5 g6 g7 g8 g9 cR cC cD cE e1 e2 e3 e4 e5 e6 e7 e8 e9 dZ eb dD ed
  exact ⟨(by show c6 N ⟨dQ,hl',dS,dR,dL,z',dJ,dK,dU,dV,dP,dO,dN⟩ ⟨⟨ml,mw,mz,mn⟩,ms,v,w,ws+1⟩; constructor <;> dsimp only <;> omega),trivial⟩
end
end Go.Lg
namespace Go.Lg
inductive Mp
 | ka (r:Nat) | kc (r:Nat) | kv (r:Nat) | kd (r:Nat) | ke (r:Nat) | go (r:Nat) | wa | w1 | w2 (v:Nat) | wV | wW | w3 | w4 | we | qv | wq | fin
def jV:Nat→Mp
 | 0=>.wa
 | r+1=>.ka r
inductive fV:Mp→Sh→Mp→Sh→Prop
 | ka {s r}:fV (.ka r) s (.kc r) s
 | kc1 {s r}:s.v=0→fV (.kc r) s (.kv r) { s with v:=1 }
 | kv {s r}:fV (.kv r) s (.kd r) s
 | kcn {s r}:s.v≠0→fV (.kc r) s (.ke r) { s with v:=s.v+1 }
 | kd {s r}:fV (.kd r) s (.ke r) s
 | ke {s r}:fV (.ke r) s (.go r) s
 | wa {s}:fV .wa s .w1 s
 | w1z {s}:s.v=0→fV .w1 s .we s
 | w1n {s}:s.v≠0→fV .w1 s (.w2 s.v) s
 | acy {s}:fV (.w2 s.v) s .wV { s with w:=1 }
 | wV {s}:fV .wV s .wW s
 | acx {s v}:s.v≠v→fV (.w2 v) s .w1 s
 | wW {s}:fV .wW s .w3 s
 | w3 {s m}:s.ws=m+1→fV .w3 s .w4 { s with ws:=m }
 | w4 {s}:fV .w4 s .we s
 | we {s}:fV .we s .qv s
 | qv {s}:fV .qv s .wq s
 | wq {s}:fV .wq s .fin s
def rem:Mp→Nat
 | .ka r | .kc r | .kv r | .kd r | .ke r | .go r=>r+1
 | _=>0
def Cn.iY(c:Cn):Nat:=c.wk+c.z+c.pc+c.a1+c.ak
def j6(c:Cn)(s:Sh):Mp→Prop
 | .ka _ | .kc _ | .wa | .w1=>s.v=c.lv∧s.w=0∧s.ws=0∧c.dw=0∧c.d4=0
 | .w2 v=>s.v=c.lv∧s.w=0∧s.ws=0∧c.dw=0∧c.d4=0∧v≠0
 | .kv _ | .kd _ | .ke _ | .go _=>s.v=c.lv+1∧s.w=0∧s.ws=0∧c.dw=0∧c.d4=0
 | .wV | .wW | .w3=>(s.w=1∧s.ws=0∧c.d4=0∧s.v=c.lv∧((s.v=0∧c.dw=1)∨(1≤s.v∧c.dw=0)))∨(s.w=0∧s.v=0∧c.lv=0∧c.dw=0∧c.d4+s.ws=1)
 | _=>s.v=0∧s.w=0∧s.ws=0∧c.lv=0∧c.dw=0∧c.d4=0
structure ns (N:Nat) (T0:Mp) (c:Cn) (s:Sh):Prop where
 wg:j6 c s T0
 eq:c.lv+c.dw+c.d4=c.iY
 le:c.iY+rem T0≤N
def okW(N:Nat):Lp→Sh→Prop
 | .d1,s=>1≤s.v∧s.v≤N∧s.w≤1
 | .d2,s=>s.v=0∧s.w=1
 | .d4,s=>s.ws=0
 | _,_=>True
def pF(N:Nat):Mp→Sh→Prop
 | .kc _,s=>s.w=0∧s.v+1≤N
 | .w1,s=>s.w=0∧s.v≤N
 | .w2 v,s=>s.w=0∧s.v≤N∧v≠0
 | .w4,s=>s.v=0∧s.w=0
 | .w3,s=>s.ws≤1
 | _,_=>True
section
variable {N:Nat} {c c':Cn} {s s':Sh} {T T':Lp} {T0 hZ:Mp}
theorem OI(T:Lp):(cW T).lv+(cW T).dw+(cW T).d4=(cW T).iY:=by
 cases T <;> simp [cW,Cn.busy,Cn.zero,Cn.iY]
 case a1 b=>cases b <;> simp
theorem Cn.xF.iY{x y:Cn}(h:c.xF x y c'):c'.iY+x.iY=c.iY+y.iY:=by
 have:=h.wk; have:=h.z; have:=h.pc; have:=h.a1; have:=h.ak
 unfold Cn.iY; omega
theorem ns.okW(h:ns N T0 c s)(hle:(cW T).Le c):okW N T s:=by
 obtain ⟨h1,h2,h3⟩:=h
 have e1:=hle.lv
 have e2:=hle.dw
 have e3:=hle.d4
 cases T <;> simp only [cW,Cn.busy,Cn.zero] at e1 e2 e3 <;> first | trivial | skip
 all_goals
  show _
  cases T0 <;> simp only [j6,rem] at h1 h3 <;> simp only [Go.Lg.okW] <;> omega
theorem ns.pF(h:ns N T0 c s):pF N T0 s:=by
 obtain ⟨h1,h2,h3⟩:=h
 cases T0 <;> simp only [j6,rem] at h1 h3 <;> simp only [Go.Lg.pF] <;> omega
set_option maxHeartbeats 2000000 in
theorem ns.step(h:ns N T0 c s)(hle:(cW T).Le c)(de:c7 T s T' s')(hc:c.xF (cW T) (cW T') c'):ns N T0 c' s':=by
 obtain ⟨h1,h2,h3⟩:=h
 have q1:=OI T
 have q2:=OI T'
 have q3:=hc.iY
 have cC:=hc.lv
 have cD:=hc.dw
 have cE:=hc.d4
 have e1:=hle.lv
 have e2:=hle.dw
 have e3:=hle.d4
 have same:(cW T').lv=(cW T).lv→(cW T').dw=(cW T).dw→(cW T').d4=(cW T).d4→s'.v=s.v→s'.w=s.w→s'.ws=s.ws→ns N T0 c' s':=by
  intro a1 a2 a3 a4 a5 a6
  refine ⟨?_,by omega,by omega⟩
  cases T0 <;> simp only [j6,a4,a5,a6] at h1 ⊢ <;> omega
 cases de
 case FA a =>
  refine ⟨?_,by omega,by simp only [cW,Cn.busy,Cn.zero,Cn.iY] at q3; unfold Cn.iY at h3 ⊢; omega⟩
  simp only [cW,Cn.busy,Cn.zero] at cC cD cE e1 e2 e3
  clear q1 q2 q3 h2 h3 same hc hle
  have wt:j6 c s .w3→j6 c' { s with v:=s.v - 1 } .w3:=λ h=>by
   simp only [j6] at h ⊢
   rcases h with ⟨a1,a2,a3,a4,a5⟩ | ⟨a1,a2,a3,a4,a5⟩
   ·rcases a5 with ⟨a5,a6⟩ | ⟨a5,a6⟩ <;> first | omega | (refine .inl ⟨a1,a2,by omega,by omega,.inr ⟨by omega,by omega⟩⟩)
   ·first | omega | (omega)
  cases T0 <;> first | exact wt h1 | (simp only [j6] at h1 ⊢; omega)
 case OM a b =>
  refine ⟨?_,by omega,by simp only [cW,Cn.busy,Cn.zero,Cn.iY] at q3; unfold Cn.iY at h3 ⊢; omega⟩
  simp only [cW,Cn.busy,Cn.zero] at cC cD cE e1 e2 e3
  clear q1 q2 q3 h2 h3 same hc hle
  have wt:j6 c s .w3→j6 c' { s with v:=0 } .w3:=λ h=>by
   simp only [j6] at h ⊢
   rcases h with ⟨a1,a2,a3,a4,a5⟩ | ⟨a1,a2,a3,a4,a5⟩
   ·rcases a5 with ⟨a5,a6⟩ | ⟨a5,a6⟩ <;> first | omega | (exact .inl ⟨a1,a2,by omega,by omega,.inl ⟨trivial,by omega⟩⟩)
   ·first | omega | (omega)
  cases T0 <;> first | exact wt h1 | (simp only [j6] at h1 ⊢; omega)
 case d3 =>
  refine ⟨?_,by omega,by simp only [cW,Cn.zero,Cn.iY] at q3; unfold Cn.iY at h3 ⊢; omega⟩
  simp only [cW,Cn.zero] at cC cD cE e1 e2 e3
  clear q1 q2 q3 h2 h3 same hc hle
  have wt:j6 c s .w3→j6 c' { s with v:=0,w:=0 } .w3:=λ h=>by
   simp only [j6] at h ⊢
   rcases h with ⟨a1,a2,a3,a4,a5⟩ | ⟨a1,a2,a3,a4,a5⟩
   ·rcases a5 with ⟨a5,a6⟩ | ⟨a5,a6⟩ <;> first | omega | (exact .inr ⟨trivial,trivial,by omega,by omega,by omega⟩)
   ·first | omega | (omega)
  cases T0 <;> first | exact wt h1 | (simp only [j6] at h1 ⊢; omega)
 case d4 =>
  refine ⟨?_,by omega,by simp only [cW,Cn.zero,Cn.iY] at q3; unfold Cn.iY at h3 ⊢; omega⟩
  simp only [cW,Cn.zero] at cC cD cE e1 e2 e3
  clear q1 q2 q3 h2 h3 same hc hle
  have wt:j6 c s .w3→j6 c' { s with ws:=s.ws+1 } .w3:=λ h=>by
   simp only [j6] at h ⊢
   rcases h with ⟨a1,a2,a3,a4,a5⟩ | ⟨a1,a2,a3,a4,a5⟩
   ·rcases a5 with ⟨a5,a6⟩ | ⟨a5,a6⟩ <;> first | omega | (omega)
   ·first | omega | (exact .inr ⟨a1,a2,by omega,by omega,by omega⟩)
  cases T0 <;> first | exact wt h1 | (simp only [j6] at h1 ⊢; omega)
 case r0=>refine same ?_ ?_ ?_ rfl rfl rfl <;> simp only [qL] <;> rfl
 case r1=>refine same ?_ ?_ ?_ rfl rfl rfl <;> simp only [qL] <;> rfl
 case r3=>refine same ?_ ?_ ?_ rfl rfl rfl <;> simp only [qL] <;> rfl
 case wC=>refine same ?_ ?_ ?_ rfl rfl rfl <;> simp only [qL] <;> rfl
 case wK=>refine same ?_ ?_ ?_ rfl rfl rfl <;> simp only [OJ] <;> rfl
 case vt c0 hm hq=>refine same ?_ ?_ ?_ rfl rfl rfl <;> cases c0.ws <;> rfl
 case s1 c0 m hm=>refine same ?_ ?_ ?_ rfl rfl rfl <;> cases c0.sv <;> rfl
 case H7 c0 hm=>refine same ?_ ?_ ?_ rfl rfl rfl <;> cases (c0.sv && s.mu.n != 1) <;> rfl
 case a1 b=>refine same ?_ ?_ ?_ rfl rfl rfl <;> cases b <;> rfl
 case wL a b=>refine same ?_ ?_ ?_ rfl rfl rfl <;> simp only [hu] <;> split <;> rfl
 case ux=>refine same ?_ ?_ ?_ rfl rfl rfl <;> simp only [hu] <;> split <;> rfl
 all_goals exact same rfl rfl rfl rfl rfl rfl
theorem ns.main(h:ns N T0 c s)(de:fV T0 s hZ s'):ns N hZ c s':=by
 obtain ⟨h1,h2,h3⟩:=h
 cases de
 case acy =>
  obtain ⟨a1,a2,a3,a4,a5,a6⟩:=h1
  exact ⟨.inl ⟨rfl,a3,a5,a1,.inr ⟨by dsimp only; omega,a4⟩⟩,h2,by simp only [rem] at h3 ⊢; omega⟩
 case wV=>exact ⟨h1,h2,h3⟩
 case wW=>exact ⟨h1,h2,h3⟩
 all_goals refine ⟨?_,h2,?_⟩ <;> simp only [j6,rem] at h1 h3 ⊢ <;> omega
theorem c6.main(h:c6 N c s)(de:fV T0 s hZ s'):c6 N c s':=by
 obtain ⟨h1,h2,h3,h4,h5,h6,h8,h9,FI,FJ⟩:=h
 cases de <;> exact ⟨h1,h2,h3,h4,h5,h6,h8,h9,FI,FJ⟩
theorem ns.spawn{r:Nat}(h:ns N (.go r) c s)(hc:c.xF Cn.zero (cW .ld) c'):ns N (jV r) c' s:=by
 obtain ⟨h1,h2,h3⟩:=h
 have q1:=OI .ld
 have q3:=hc.iY
 have cC:=hc.lv
 have cD:=hc.dw
 have cE:=hc.d4
 cases r <;> refine ⟨?_,?_,?_⟩ <;> simp only [j6,rem,jV,cW,Cn.busy,Cn.zero,Cn.iY] at * <;> omega
theorem c6.spawn{r:Nat}(h:c6 N c s)(hg:ns N (.go r) c s)(hc:c.xF Cn.zero (cW .ld) c'):c6 N c' s:=by
 have hle:=hg.le
 obtain ⟨h1,h2,h3,h4,h5,h6,h8,h9,FI,FJ⟩:=h
 obtain ⟨g1,g2,g3,g4,g5,g6,g7,g8,g9,cR,cC,cD,cE⟩:=hc
 simp only [cW,Cn.busy,Cn.zero,Cn.iY,rem] at *
 constructor <;> omega
end
def gH:Lp→Nat
 | .ld | .l0 | .r0=>9
 | .sq c | .c1 c | .r1 c | .c2 c | .r3 c=>if c.aw then 8 else 9
 | .t1 _ | .s1 _=>6
 | .t2 _ | .r2 _ | .a1 _=>8
 | .le | .lc | .la | .ul _ | .uv _ | .ur _=>5
 | .ud | .u0=>16
 | .uc _ | .ux=>15
 | .us=>14
 | .ue=>10
 | .wv | .wr | .wk | .d1=>8
 | .d2 | .d3=>6
 | .d4=>5
 | .quit=>0
def jH(m:Wd):Lp→Nat
 | .ld=>31
 | .l0=>30
 | .r0=>29
 | .sq c=>(4 - c.it) * 5+(if c.old=m then 0 else 5)+3
 | .c1 c=>(4 - c.it) * 5+(if c.old=m then 0 else 5)+2
 | .r1 c=>(4 - c.it) * 5+1
 | .c2 c=>(4 - c.it) * 5+(if c.old=m then 0 else 5)+1
 | .r3 c=>(4 - c.it) * 5+5
 | .t1 _=>2
 | .s1 _=>1
 | .t2 _=>25
 | .r2 _=>24
 | .le=>5
 | .lc=>4
 | .la=>3
 | .ul _=>2
 | .uv _=>1
 | .ud=>1
 | .uc o=>if o=m then 0 else 3
 | .ux=>2
 | .wv=>3
 | .wr=>2
 | .wk=>1
 | .d2=>1
 | _=>0
def gg:Lp→Bool
 | .ur _=>true
 | _=>false
theorem awL(m:Wd)(T:Lp):jH m T≤31:=by
 cases T <;> simp only [jH] <;> (try split) <;> omega
theorem L1(c:Lc):gH (hd c)=if c.aw then 8 else 9:=by unfold hd; split <;> rfl
theorem LV{c:Lc}{m:Wd}(h:c.old=m):jH m (hd c)≤(4 - c.it) * 5+3:=by unfold hd; split <;> simp only [jH,h,if_true] <;> omega
theorem c7.J4{N:Nat}{s s':Sh}{T T':Lp}(hT:pv N T)(de:c7 T s T' s') :
  gH T'+3 * s'.ms+3 * s'.ws < gH T+3 * s.ms+3 * s.ws+(if gg T then 20 else 0) ∨
  (gH T'+3 * s'.ms+3 * s'.ws=gH T+3 * s.ms+3 * s.ws∧gg T=false∧s'.mu=s.mu∧s'.v=s.v∧jH s.mu T' < jH s.mu T):=by
 cases de
 case r0=>right; have:=LV (c:=⟨s.mu,false,false,0,false⟩) (m:=s.mu) rfl; rw [L1]; generalize jH s.mu (hd _)=x at this ⊢; exact ⟨rfl,rfl,rfl,rfl,by simp only [jH]; simp only at this; omega⟩
 case LZ c=>right; simp [gH,jH,gg]
 case wK c h=>right; unfold iE; split <;> simp [gH,jH,gg]; omega
 case Ot c h=>left; obtain ⟨_,_,_,t4,_⟩:=hT; simp [gH,t4,gg]
 case Oq c h=>right; simp [gH,jH,gg,Ne.symm h]
 case r1 c =>
  right; obtain ⟨_,t2,_⟩:=hT
  have:=LV (c:={ c with old:=s.mu,it:=c.it+1 }) (m:=s.mu) rfl
  rw [L1]; generalize jH s.mu (hd _)=x at this ⊢; exact ⟨rfl,rfl,rfl,rfl,by simp only [jH]; simp only at this; omega⟩
 case Oy c h _ _=>left; simp only [gH,gg]; split <;> simp
 case vt c h _=>left; simp only [gg]; cases c.ws <;> cases hb:c.aw <;> simp [gH,hb]
 case Oz c h=>right; simp [gH,jH,gg,Ne.symm h]
 case r3 c =>
  right
  have:=LV (c:={ c with old:=s.mu }) (m:=s.mu) rfl
  rw [L1]; generalize jH s.mu (hd _)=x at this ⊢; exact ⟨rfl,rfl,rfl,rfl,by simp only [jH]; simp only at this; omega⟩
 case t1 c b=>right; simp [gH,jH,gg]
 case s1 c m h=>left; cases c.sv <;> simp [gH,gg,h] <;> omega
 case t2 c b=>right; simp [gH,jH,gg]
 case H7 c h=>right; simp [gH,jH,gg]
 case wC c h =>
  right
  have:=LV (c:={ c with old:=s.mu,aw:=true,it:=0 }) (m:=s.mu) rfl
  rw [L1]; generalize jH s.mu (hd _)=x at this ⊢; exact ⟨rfl,rfl,rfl,rfl,by simp only [jH]; simp only at this; omega⟩
 case wL a b=>left; unfold hu; split <;> simp [gH,gg]
 case Ud m h=>right; simp [gH,jH,gg,Ne.symm h]
 case ux=>unfold hu; split <;> simp [gH,jH,gg]
 case us=>left; simp [gH,gg]; omega
 case d4=>left; simp [gH,gg]; omega
 case ur=>left; simp [gH,gg]; omega
 all_goals simp [gH,jH,gg]
def stM(J:Nat):Mp→Nat
 | .ka r | .kc r=>(r+1) * (20 * J+20)+15
 | .kv r | .kd r | .ke r | .go r=>(r+1) * (20 * J+20)+14
 | .wa | .w1 | .w2 _=>10
 | .wV | .wW | .w3=>8
 | .w4 | .we | .qv | .wq=>6
 | .fin=>0
def yL(v:Nat):Mp→Nat
 | .ka _=>1
 | .kv _=>3
 | .kd _=>2
 | .ke _=>1
 | .wa=>6
 | .w1=>4
 | .w2 u=>if u=v then 1 else 5
 | .wV=>2
 | .wW=>1
 | .w4=>3
 | .we=>2
 | .qv=>1
 | _=>0
theorem awK(v:Nat)(T:Mp):yL v T≤31:=by
 cases T <;> simp only [yL] <;> (try split) <;> omega
theorem fV.J4{J:Nat}{s s':Sh}{T T':Mp}(de:fV T s T' s') :
  stM J T'+3 * s'.ms+3 * s'.ws < stM J T+3 * s.ms+3 * s.ws ∨
  (stM J T'+3 * s'.ms+3 * s'.ws=stM J T+3 * s.ms+3 * s.ws∧s'.mu=s.mu∧s'.v=s.v∧yL s.v T' < yL s.v T):=by
 cases de
 case w1n h=>right; simp [stM,yL]
 case acx v h=>right; simp [stM,yL,Ne.symm h]
 case w3 m h=>left; simp [stM,h]; omega
 all_goals simp [stM,yL]
theorem axa(J r:Nat):stM J (jV r)+(20 * J+gH .ld) < stM J (.go r):=by
 cases r with
 | zero=>simp [jV,stM,gH]; omega
 | succ r=>simp only [jV,stM,gH,Nat.add_mul]; omega
end Go.Lg
namespace Go.Lg
open Go.Conc Go.ConcN
def zw(P:Program)(K:Goroutine→Prop):Nat→Goroutine→Prop
 | 0,g=>K g
 | n+1,g=>K g∨(g.status = .running∧∃ g',(∀ w,stepG P false g w = .go g' w #[])∧zw P K n g')
structure Fx where
 P:Program
 B:Base
 bm:Nat
 bw:Nat
 bo:Nat
 tm:TypeId
 tw:TypeId
 N:Nat
 J:Nat
 cont:(Nat→Nat)→Obj
 ho:bm≠bw∧bm≠bo∧bw≠bo
 hJ:0 < J
 hN:N≤4
 mj:av→ai→Goroutine→Prop
def oF(tm:TypeId)(s:Sh):Obj:=.cells #[.int .i32 s.mu.val,.int .u32 (s.ms:Int)] tm (0,0)
def w8(s:Sh):Int:=4294967296 * s.v+s.w
def oO(tw:TypeId)(s:Sh):Obj:=.cells #[.int .u64 (w8 s),.int .u32 (s.ws:Int)] tw (0,0)
variable (F:Fx)
structure eZ (s:Sh) (w:World):Prop where
 m:w.heap[F.bm]? = some (oF F.tm s)
 g:w.heap[F.bw]? = some (oO F.tw s)
structure bV (s':Sh) (w w':World):Prop where
 size:w'.heap.size=w.heap.size
 same:∀ b,b≠F.bm→b≠F.bw→w'.heap[b]? = w.heap[b]?
 sh:eZ F s' w'
 os:F.B.os w.os→F.B.os w'.os
 tape:w'.tape=w.tape
 out:w'.output=w.output
def am:Addr:=⟨F.bm,0,none⟩
def aw:Addr:=⟨F.bw,0,none⟩
def pM:Addr:=⟨F.bw,1,none⟩
def oW(es:Array Event):Prop:=(∀ e∈es,∃ a wr,e=⟨.cell a,wr,true⟩∧(a.block=F.bm∨a.block=F.bw))∨∃ a,(a.block=F.bm∨a.block=F.bw)∧es=semEvents a
def said(m:Mark):Array Event:=#[⟨.mark m,false,true⟩]
def Cq:Lp→Array Event→Prop
 | .ld,es | .ud,es | .wk,es=>es=said .disable
 | .le,es | .ue,es=>es=said .enable
 | .la,es=>es=said (.acquire (am F))
 | .ur _,es=>es=said (.releaseMerge (am F))
 | .wr,es=>es=said (.releaseMerge (aw F))
 | _,es=>oW F es
def zJ:Mp→Array Event→Prop
 | .ka _,es | .wa,es=>es=said .disable
 | .ke _,es | .we,es=>es=said .enable
 | .kd _,es=>es=said (.read (pM F))
 | .wW,es=>es=said (.write (pM F))
 | .wq,es=>es=said (.acquire (aw F))
 | _,es=>oW F es
def jF:Lp→Bool
 | .wk | .d1 | .d2 | .d3 | .d4=>true
 | _=>false
def wM(j:Nat):Lp→Lp→Prop
 | .ue,.ld=>j < F.J
 | .ue,.wv=>j=F.J
 | _,_=>True
def vl(K:Nat→Lp→av→ai→Goroutine→Prop)(k j:Nat)(T T':Lp)(R:av)(H:ai)(g':Goroutine):Prop :=
 match T' with
 | .quit=>∃ q,QuitsD F.P q 1 g'
 | .ul _=>∀ js,js k=j→Own F.P F.B false (K j (.ul js)) R ((F.bo,F.cont js)::H) g'
 | .ud=>∃ js H',T = .ur js∧H=(F.bo,F.cont (fS js k (j+1)))::H'∧Own F.P F.B false (K (j+1) .ud) R H' g'
 | T'=>if jF T' then ∃ q,zw F.P (K j T' R H) q g' else Own F.P F.B false (K j T') R H g'
def KW:Nat→Nat→Nat→Lp→av→ai→Goroutine→Prop
 | 0,_,_,_,_,_,_=>True
 | n+1,k,j,T,R,H,g=>pv F.N T→g.status = .running∧g.offers=none∧((T = .us∨T = .d4)→mayWake F.P g=true) ∧
   ∀ w s,Fits F.B R H w→eZ F s w→Ba F.N T s→okW F.N T s →
    ((∃ c,T = .s1 c)∧s.ms=0∧stepG F.P false g w = .go { g with status:=.blocked } w #[]) ∨
    ∃ g' w' es T' s',c7 T s T' s'∧wM F j T T'∧Cq F T es∧stepG F.P false g w = .go g' w' es∧bV F s' w w' ∧
     vl F (KW n k) k j T T' R H g'
def KM:Nat→Mp→av→ai→Goroutine→Prop
 | 0,_,_,_,_=>True
 | n+1,T,R,H,g=>g.status = .running∧g.offers=none ∧
   ∀ w s,Fits F.B R H w→eZ F s w→pF F.N T s →
    match T with
    | .go r=>∃ g' child,stepG F.P true g w = .spawn g' child w #[]∧Own F.P F.B false (KW F n (F.N - (r+1)) 0 .ld) R [] child∧Own F.P F.B true (KM n (jV r)) R H g'
    | .wq=>∃ g' w',stepG F.P true g w = .go g' w' (said (.acquire (aw F)))∧bV F s w w'∧∀ js,(∀ k,k < F.N→js k=F.J)→F.mj R ((F.bo,F.cont js)::H) g'
    | T=>(T = .w3∧s.ws=0∧stepG F.P true g w = .go { g with status:=.blocked } w #[]) ∨
     ∃ g' w' es T' s',fV T s T' s'∧zJ F T es∧stepG F.P true g w = .go g' w' es∧bV F s' w w'∧Own F.P F.B true (KM n T') R H g'
inductive Ab
 | no
 | wk (k j:Nat) (T:Lp)
 | mn (T:Mp)
def cA:Ab→Cn
 | .wk _ _ T=>cW T
 | _=>.zero
def cP:Ab→Nat
 | .no=>0
 | .wk _ j T=>20 * (F.J - j)+gH T
 | .mn T=>stM F.J T
def na(s:Sh):Ab→Nat
 | .no=>0
 | .wk _ _ T=>jH s.mu T
 | .mn T=>yL s.v T
def nA:Lp→Nat
 | .ld | .lc | .la | .ul _ | .uv _ | .ur _ | .ud | .wv | .wr | .wk=>0
 | _=>1
def oe:Mp→Nat
 | .ka _ | .go _ | .wa | .qv | .wq | .fin=>0
 | _=>1
def cnt(D:Nat→Ab)(n:Nat):Cn where
 ow:=cY n λ i=>(cA (D i)).ow
 hl:=cY n λ i=>(cA (D i)).hl
 pu:=cY n λ i=>(cA (D i)).pu
 pc:=cY n λ i=>(cA (D i)).pc
 al:=cY n λ i=>(cA (D i)).al
 z:=cY n λ i=>(cA (D i)).z
 a1:=cY n λ i=>(cA (D i)).a1
 ak:=cY n λ i=>(cA (D i)).ak
 ux:=cY n λ i=>(cA (D i)).ux
 wk:=cY n λ i=>(cA (D i)).wk
 lv:=cY n λ i=>(cA (D i)).lv
 dw:=cY n λ i=>(cA (D i)).dw
 d4:=cY n λ i=>(cA (D i)).d4
def cj(D:Nat→Ab)(i:Nat)(x:Ab):Nat→Ab:=λ j=>if j=i then x else D j
def lM(D:Nat→Ms)(i:Nat)(x:Ms):Nat→Ms:=λ j=>if j=i then x else D j
def MM(Q:Nat)(D:Nat→Ab)(s:Sh)(n:Nat):Nat:=(cY n (λ i=>cP F (D i))+3 * s.ms+3 * s.ws) * Q+cY n (λ i=>na s (D i))
def A9(j:Nat):Lp→Prop
 | .ud | .u0 | .uc _ | .ux | .us | .ue=>j≤F.J
 | .wv | .wr | .wk | .d1 | .d2 | .d3 | .d4=>j=F.J
 | .quit=>False
 | _=>j < F.J
def yF(js:Nat→Nat):Lp→Prop
 | .ul j | .uv j | .ur j=>j=js
 | _=>True
def gd(s:Sh)(js:Nat→Nat)(hl:Nat):ai:=(F.bm,oF F.tm s)::(F.bw,oO F.tw s)::(if hl=0 then [(F.bo,F.cont js)] else [])
def pe(hl:Nat):Option Nat:=if hl=0 then some F.bo else none
def E1(K:Goroutine→Prop)(z:Prop)(g:Goroutine):Prop:=∃ g0,K g0∧g0.status = .running∧g0.offers=none∧(g=g0∨(g={ g0 with status:=.blocked }∧z))
def oY(μ:Nat)(s:Sh)(i:Nat)(m:Ms)(x:Option Th)(mu:Bool)(d:Nat)(g:Goroutine):Ab→Prop
 | .no=>x=none∧0 < i∧∃ q,m=some (qg q)∧QuitsD F.P q d g
 | .wk k j T=>0 < i∧d=nA T∧mu=jF T∧∃ y n,x=some y∧μ≤n ∧
   if jF T then ∃ q,m=some (qg q)∧zw F.P (KW F n k j T y.R y.H) q g
   else (∃ Tr,m=some Tr∧zv F.P F.B false (KW F n k j T) Tr y.R y.H g)∨(m=none∧(∃ c,T = .s1 c)∧E1 (KW F n k j T y.R y.H) (s.ms=0) g)
 | .mn T=>i=0∧d=oe T∧mu=false∧∃ y n,x=some y∧μ≤n ∧
   ((∃ Tr,m=some Tr∧zv F.P F.B true (KM F n T) Tr y.R y.H g)∨(m=none∧T = .w3∧E1 (KM F n T y.R y.H) (s.ws=0) g))
structure Bk (Q:Nat) (T0:Mp) (D:Nat→Ab) (js:Nat→Nat) (s:Sh) (n:Nat):Prop where
 d0:D 0 = .mn T0
 nf:T0 ≠ .fin
 pos:0 < n
 out:∀ i,n≤i→D i = .no
 main:∀ i T,D i = .mn T→i=0
 qG:c6 F.N (cnt D n) s
 aig:ns F.N T0 (cnt D n) s
 mf:∀ i k j T,D i = .wk k j T→pv F.N T∧A9 F j T∧yF js T∧js k=j∧k+rem T0 < F.N
 wi:∀ i i' k j j' T T',D i = .wk k j T→D i' = .wk k j' T'→i=i'
 done:∀ k,k+rem T0 < F.N→js k=F.J∨∃ i j T,D i = .wk k j T
 Lt:∀ k,F.N≤k+rem T0→js k=0
 Fl:31 * (n+rem T0) < Q
structure MI (Q:Nat) (T0:Mp) (D:Nat→Ab) (m:Nat→Ms) (js:Nat→Nat) (s:Sh) (th:Nat→Option Th) (mu:Nat→Bool) (dd:Nat→Nat) (gs:Array Goroutine) (w:World) (t:Trace):Prop where
 mem:eT F.B th (gd F s js (cnt D gs.size).hl) w
 tr:cM (some (am F)) (some (aw F)) th mu dd [F.bm,F.bw] (pe F (cnt D gs.size).hl) w.heap.size t
 uR:∀ i g,gs[i]? = some g→oY F (MM F Q D s gs.size) s i (m i) (th i) (mu i) (dd i) g (D i)
 out:∀ i,gs.size≤i→th i=none∧mu i=false∧dd i=0
 bk:Bk F Q T0 D js s gs.size
end Go.Lg
namespace Go.Lg
open Go.Conc Go.ConcN
theorem iZ(D:Nat→Ab)(i:Nat)(x:Ab):cj D i x i=x:=by simp [cj]
theorem fb{D:Nat→Ab}{i j:Nat}{x:Ab}(h:j≠i):cj D i x j=D j:=by simp [cj,h]
theorem Ij(D:Nat→Ms)(i:Nat)(x:Ms):lM D i x i=x:=by simp [lM]
theorem Ec{D:Nat→Ms}{i j:Nat}{x:Ms}(h:j≠i):lM D i x j=D j:=by simp [lM,h]
theorem Br{th:Nat→Option Th}{i:Nat}{x:Option Th}(h:th i=x):fD th i x=th:=by
 funext j; unfold fD; split
 ·rename_i e; subst e; exact h.symm
 ·rfl
theorem T9{f:Nat→Nat}{i:Nat}:∀ {n:Nat},i < n→f i≤cY n f
 | n+1,h=>by
  simp only [cY]
  rcases Nat.lt_or_ge i n with bJ | r9
  ·have:=T9 (f:=f) bJ; omega
  ·obtain rfl:i=n:=by omega
   omega
theorem L5{f:Nat→Nat}{b:Nat}(h:∀ i,f i≤b):∀ n,cY n f≤b * n
 | 0=>by simp [cY]
 | n+1=>by have:=L5 h n; have:=h n; simp only [cY,Nat.mul_succ]; omega
theorem tH{D:Nat→Ab}{i n:Nat}(hi:i < n)(x:Ab):(cnt D n).xF (cA (D i)) (cA x) (cnt (cj D i x) n):=by
 have key:∀ f:Cn→Nat,cY n (λ j=>f (cA (cj D i x j)))+f (cA (D i))=cY n (λ j=>f (cA (D j)))+f (cA x):=λ f=>by
  have:=Bo (f:=λ j=>f (cA (D j))) (g:=λ j=>f (cA (cj D i x j))) hi (λ k hk=>by simp only [fb hk])
  simpa only [iZ] using this
 exact ⟨key _,key _,key _,key _,key _,key _,key _,key _,key _,key _,key _,key _,key _⟩
theorem zj{D:Nat→Ab}{i n:Nat}(hi:i < n):(cA (D i)).Le (cnt D n):=by
 have key:∀ f:Cn→Nat,f (cA (D i))≤cY n (λ j=>f (cA (D j))):=λ f=>T9 (f:=λ j=>f (cA (D j))) hi
 exact ⟨key _,key _,key _,key _,key _,key _,key _,key _,key _,key _,key _,key _,key _⟩
theorem Xz{D:Nat→Ab}{n:Nat}(hn:0 < n)(x:Ab)(y:Ab)(hx:cA x = .zero)(h0:cA (D 0) = .zero):(cnt D n).xF .zero (cA y) (cnt (cj (cj D n y) 0 x) (n+1)):=by
 have key:∀ f:Cn→Nat,f .zero=0→cY (n+1) (λ j=>f (cA (cj (cj D n y) 0 x j)))+f .zero=cY n (λ j=>f (cA (D j)))+f (cA y):=λ f hf=>by
  simp only [cY]
  rw [fb (show n≠0 by omega),iZ,hf]
  have:cY n (λ j=>f (cA (cj (cj D n y) 0 x j)))=cY n (λ j=>f (cA (D j))):=Ii λ j hj=>by
   by_cases h:j=0
   ·subst h; rw [iZ,hx,h0]
   ·rw [fb h,fb (by omega)]
  omega
 exact ⟨key _ rfl,key _ rfl,key _ rfl,key _ rfl,key _ rfl,key _ rfl,key _ rfl,key _ rfl,key _ rfl,key _ rfl,key _ rfl,key _ rfl,key _ rfl⟩
section
variable {F:Fx} {D:Nat→Ab} {s s':Sh} {n i Q:Nat} {x:Ab}
theorem abn(s:Sh)(a:Ab):na s a≤31:=by
 cases a
 ·exact Nat.zero_le _
 ·exact awL _ _
 ·exact awK _ _
theorem Jb(hi:i < n)(hQ:31 * n < Q)
  (h:cP F x+3 * s'.ms+3 * s'.ws < cP F (D i)+3 * s.ms+3 * s.ws∨(cP F x+3 * s'.ms+3 * s'.ws=cP F (D i)+3 * s.ms+3 * s.ws∧s'.mu=s.mu∧s'.v=s.v∧na s x < na s (D i))) :
  MM F Q (cj D i x) s' n < MM F Q D s n:=by
 have h1:=Bo (f:=λ j=>cP F (D j)) (g:=λ j=>cP F (cj D i x j)) hi (λ k hk=>by simp only [fb hk])
 simp only [iZ] at h1
 unfold MM
 rcases h with h | ⟨h,hm,hv,hr⟩
 ·have h2:cY n (λ j=>na s' (cj D i x j))≤31 * n:=L5 (λ j=>abn s' _) n
  generalize cY n (λ j=>cP F (cj D i x j))=a' at *
  generalize cY n (λ j=>cP F (D j))=a at *
  generalize cY n (λ j=>na s' (cj D i x j))=r' at *
  have h3:a'+3 * s'.ms+3 * s'.ws+1≤a+3 * s.ms+3 * s.ws:=by omega
  have h4:=Nat.mul_le_mul_right Q h3
  rw [Nat.add_mul _ 1 Q,Nat.one_mul] at h4
  omega
 ·have er:∀ a,na s' a=na s a:=λ a=>by cases a <;> simp [na,hm,hv]
  have h2:=Bo (f:=λ j=>na s (D j)) (g:=λ j=>na s (cj D i x j)) hi (λ k hk=>by simp only [fb hk])
  simp only [iZ] at h2
  have e:(λ j=>na s' (cj D i x j))=λ j=>na s (cj D i x j):=by funext j; exact er _
  rw [e]
  have e2:cY n (λ j=>cP F (cj D i x j))+3 * s'.ms+3 * s'.ws=cY n (λ j=>cP F (D j))+3 * s.ms+3 * s.ws:=by omega
  rw [e2]
  omega
theorem aeP{y:Ab}(hn:0 < n)(hQ:31 * (n+1) < Q)(h:cP F x+cP F y < cP F (D 0)):MM F Q (cj (cj D n y) 0 x) s (n+1) < MM F Q D s n:=by
 have h1:=Bo (f:=λ k=>cP F (D k)) (g:=λ k=>cP F (cj D 0 x k)) hn (λ k hk=>by simp only [fb hk])
 have h2:cY (n+1) (λ k=>cP F (cj (cj D n y) 0 x k))=cY n (λ k=>cP F (cj D 0 x k))+cP F y:=by
  simp only [cY]
  rw [fb (show n≠0 by omega),iZ]
  congr 1
  exact Ii λ k hk=>by
   by_cases h0:k=0
   ·subst h0; rw [iZ,iZ]
   ·rw [fb h0,fb h0,fb (by omega)]
 simp only [iZ] at h1
 have h3:cY (n+1) (λ j=>na s (cj (cj D n y) 0 x j))≤31 * (n+1):=L5 (λ j=>abn s _) _
 unfold MM
 rw [h2]
 generalize cY n (λ j=>cP F (cj D 0 x j))=a' at *
 generalize cY n (λ j=>cP F (D j))=a at *
 generalize cY (n+1) (λ j=>na s (cj (cj D n y) 0 x j))=r' at *
 have h4:a'+cP F y+3 * s.ms+3 * s.ws+1≤a+3 * s.ms+3 * s.ws:=by omega
 have h5:=Nat.mul_le_mul_right Q h4
 rw [Nat.add_mul _ 1 Q,Nat.one_mul] at h5
 omega
theorem aeO(hi:i < n)(hQ:0 < Q)(h:0 < cP F (D i)):0 < MM F Q D s n:=by
 have:=T9 (f:=λ j=>cP F (D j)) hi
 unfold MM
 have h2:0 < (cY n (λ j=>cP F (D j))+3 * s.ms+3 * s.ws) * Q:=Nat.mul_pos (by omega) hQ
 omega
end
section
variable {F:Fx} {B:Base} {th:Nat→Option Th} {s s':Sh} {js:Nat→Nat} {hl:Nat} {w w':World}
theorem xM(F:Fx)(s:Sh)(js:Nat→Nat)(hl:Nat):(F.bm,oF F.tm s)∈gd F s js hl:=by simp [gd]
theorem xN(F:Fx)(s:Sh)(js:Nat→Nat)(hl:Nat):(F.bw,oO F.tw s)∈gd F s js hl:=by simp [gd]
theorem Fv(F:Fx)(s:Sh)(js:Nat→Nat)(hl:Nat):∀ b,b∈[F.bm,F.bw]→∃ o,(b,o)∈gd F s js hl:=λ b hb=>by
 simp only [List.mem_cons,List.not_mem_nil,or_false] at hb
 rcases hb with rfl | rfl
 ·exact ⟨_,xM F s js hl⟩
 ·exact ⟨_,xN F s js hl⟩
theorem Fu(F:Fx)(s:Sh)(js:Nat→Nat)(hl:Nat):∀ b,pe F hl=some b→(∃ o,(b,o)∈gd F s js hl)∧b ∉ [F.bm,F.bw]:=λ b hb=>by
 unfold pe at hb
 split at hb
 ·cases hb
  rename_i h
  refine ⟨⟨F.cont js,by simp [gd,h]⟩,?_⟩
  have:=F.ho
  simp only [List.mem_cons,List.not_mem_nil,or_false,not_or]
  exact ⟨λ e=>this.2.1 e.symm,λ e=>this.2.2 e.symm⟩
 ·cases hb
theorem A5{b:Nat}{o:Obj}(h:(b,o)∈gd F s js hl):(b=F.bm∧o=oF F.tm s)∨(b=F.bw∧o=oO F.tw s)∨(b=F.bo∧o=F.cont js∧hl=0):=by
 unfold gd at h
 simp only [List.mem_cons,Prod.mk.injEq] at h
 rcases h with h | h | h
 ·exact .inl h
 ·exact .inr (.inl h)
 ·split at h
  ·simp only [List.mem_cons,Prod.mk.injEq,List.not_mem_nil,or_false] at h
   exact .inr (.inr ⟨h.1,h.2,‹_›⟩)
  ·cases h
theorem NA(h:eT B th (gd F s js hl) w):eZ F s w:=⟨h.mS _ _ (xM F s js hl),h.mS _ _ (xN F s js hl)⟩
theorem eT.put(h:eT F.B th (gd F s js hl) w)(hp:bV F s' w w'):eT F.B th (gd F s' js hl) w':=by
 have ne:∀ b,(∃ j x,th j=some x∧((∃ o,x.R b=some o)∨∃ o,(b,o)∈x.H))→w'.heap[b]? = w.heap[b]? := by
  rintro b ⟨j,x,hx,hb⟩
  have h1:=h.lz _ _ (xM F s js hl) j x hx
  have h2:=h.lz _ _ (xN F s js hl) j x hx
  refine hp.same b (λ e=>?_) (λ e=>?_) <;> subst e
  ·rcases hb with ⟨o,ho⟩ | ⟨o,ho⟩
   ·exact nn h1.1 ho
   ·exact h1.2 o ho
  ·rcases hb with ⟨o,ho⟩ | ⟨o,ho⟩
   ·exact nn h2.1 ho
   ·exact h2.2 o ho
 refine ⟨λ j x hx=>?_,h.apart,λ b o hb=>?_,λ b o hb j x hx=>?_⟩
 ·have hf:=h.fits j x hx
  exact ⟨λ b o hb=>by rw [ne b ⟨j,x,hx,.inl ⟨o,hb⟩⟩]; exact hf.r b o hb,λ b o hb=>by rw [ne b ⟨j,x,hx,.inr ⟨o,hb⟩⟩]; exact hf.h b o hb,hf.nd,hf.dj,hp.os hf.os,hp.tape.trans hf.tape,hp.out.trans hf.out⟩
 ·rcases A5 hb with ⟨rfl,rfl⟩ | ⟨rfl,rfl⟩ | ⟨rfl,rfl,hz⟩
  ·exact hp.sh.m
  ·exact hp.sh.g
  ·rw [hp.same _ (λ e=>F.ho.2.1 e.symm) (λ e=>F.ho.2.2 e.symm)]
   exact h.mS _ _ (by simp [gd,hz])
 ·rcases A5 hb with ⟨rfl,rfl⟩ | ⟨rfl,rfl⟩ | ⟨rfl,rfl,hz⟩
  ·exact h.lz _ _ (xM F s js hl) j x hx
  ·exact h.lz _ _ (xN F s js hl) j x hx
  ·exact h.lz F.bo (F.cont js) (by simp [gd,hz]) j x hx
theorem eT.take{i hl':Nat}{R:av}{H:ai}(h:eT B th (gd F s js 0) w)(hi:th i=some ⟨R,H⟩)(hz:hl'≠0):eT B (fD th i (some ⟨R,(F.bo,F.cont js)::H⟩)) (gd F s js hl') w:=by
 have zW:(F.bo,F.cont js)∈gd F s js 0:=by simp [gd]
 have hf:=h.fits i _ hi
 have lE:=h.lz _ _ zW
 have sub:∀ {b o},(b,o)∈gd F s js hl'→(b,o)∈gd F s js 0∧b≠F.bo:=λ {b o} hb=>by
  rcases A5 hb with ⟨rfl,rfl⟩ | ⟨rfl,rfl⟩ | ⟨rfl,rfl,hx⟩
  ·exact ⟨xM F s js 0,F.ho.2.1⟩
  ·exact ⟨xN F s js 0,F.ho.2.2⟩
  ·exact absurd hx hz
 refine ⟨λ j x hx=>?_,λ j k x y mI hx hy b o hb=>?_,λ b o hb=>h.mS b o (sub hb).1,λ b o hb j x hx=>?_⟩
 ·by_cases hj:j=i
  ·subst hj; rw [eR] at hx; cases hx
   refine ⟨hf.r,λ b o hb=>?_,?_,λ b o hb=>?_,hf.os,hf.tape,hf.out⟩
   ·rcases List.mem_cons.1 hb with e | hb
    ·cases e; exact h.mS _ _ zW
    ·exact hf.h b o hb
   ·rw [List.map_cons,List.nodup_cons]
    refine ⟨λ hm=>?_,hf.nd⟩
    obtain ⟨p,hp,he⟩:=List.mem_map.1 hm
    obtain ⟨b,o⟩:=p
    simp only at he
    subst he
    exact (lE j _ hi).2 o hp
   ·rcases List.mem_cons.1 hb with e | hb
    ·cases e; exact (lE j _ hi).1
    ·exact hf.dj b o hb
  ·rw [dT hj] at hx; exact h.fits j x hx
 ·by_cases hj:j=i
  ·subst hj; rw [eR] at hx; cases hx
   rw [dT (Ne.symm mI)] at hy
   rcases List.mem_cons.1 hb with e | hb
   ·cases e; exact lE k y hy
   ·exact h.apart j k _ _ mI hi hy b o hb
  ·rw [dT hj] at hx
   by_cases hk:k=i
   ·subst hk; rw [eR] at hy; cases hy
    have:=h.apart j k _ _ mI hx hi b o hb
    refine ⟨this.1,λ o' eJ=>?_⟩
    rcases List.mem_cons.1 eJ with e | eJ
    ·cases e; exact (lE j x hx).2 o hb
    ·exact this.2 o' eJ
   ·rw [dT hk] at hy; exact h.apart j k x y mI hx hy b o hb
 ·by_cases hj:j=i
  ·subst hj; rw [eR] at hx; cases hx
   have:=h.lz b o (sub hb).1 j _ hi
   refine ⟨this.1,λ o' eJ=>?_⟩
   rcases List.mem_cons.1 eJ with e | eJ
   ·cases e; exact (sub hb).2 rfl
   ·exact this.2 o' eJ
  ·rw [dT hj] at hx; exact h.lz b o (sub hb).1 j x hx
theorem eT.ajF{i:Nat}{R:av}{H:ai}{gQ:Nat→Nat}(h:eT B th (gd F s js hl) w)(_:hl≠0)(hi:th i=some ⟨R,(F.bo,F.cont gQ)::H⟩):eT B (fD th i (some ⟨R,H⟩)) (gd F s gQ 0) w:=by
 have hf:=h.fits i _ hi
 have dA:=hf.nd
 rw [List.map_cons,List.nodup_cons] at dA
 have z9:∀ o,(F.bo,o) ∉ H:=λ o ho=>dA.1 (List.mem_map.2 ⟨_,ho,rfl⟩)
 have key:∀ j x,fD th i (some ⟨R,H⟩) j=some x→∃ y,th j=some y∧x.R=y.R∧(∀ p,p∈x.H→p∈y.H):=λ j x hx=>by
  by_cases hj:j=i
  ·subst hj; rw [eR] at hx; cases hx
   exact ⟨_,hi,rfl,λ p hp=>List.mem_cons_of_mem _ hp⟩
  ·rw [dT hj] at hx; exact ⟨x,hx,rfl,λ p hp=>hp⟩
 refine ⟨λ j x hx=>?_,λ j k x y mI hx hy b o hb=>?_,λ b o hb=>?_,λ b o hb j x hx=>?_⟩
 ·by_cases hj:j=i
  ·subst hj; rw [eR] at hx; cases hx
   exact ⟨hf.r,λ b o hb=>hf.h b o (List.mem_cons_of_mem _ hb),dA.2,λ b o hb=>hf.dj b o (List.mem_cons_of_mem _ hb),hf.os,hf.tape,hf.out⟩
  ·rw [dT hj] at hx; exact h.fits j x hx
 ·obtain ⟨x',ub,e1,e2⟩:=key j x hx
  obtain ⟨y',oU,e3,e4⟩:=key k y hy
  have:=h.apart j k x' y' mI ub oU b o (e2 _ hb)
  exact ⟨by rw [e3]; exact this.1,λ o' eJ=>this.2 o' (e4 _ eJ)⟩
 ·rcases A5 hb with ⟨rfl,rfl⟩ | ⟨rfl,rfl⟩ | ⟨rfl,rfl,_⟩
  ·exact h.mS _ _ (xM F s js hl)
  ·exact h.mS _ _ (xN F s js hl)
  ·exact hf.h _ _ (by simp)
 ·obtain ⟨x',ub,e1,e2⟩:=key j x hx
  rcases A5 hb with ⟨rfl,rfl⟩ | ⟨rfl,rfl⟩ | ⟨rfl,rfl,_⟩
  ·have:=h.lz _ _ (xM F s js hl) j x' ub
   exact ⟨by rw [e1]; exact this.1,λ o' eJ=>this.2 o' (e2 _ eJ)⟩
  ·have:=h.lz _ _ (xN F s js hl) j x' ub
   exact ⟨by rw [e1]; exact this.1,λ o' eJ=>this.2 o' (e2 _ eJ)⟩
  ·by_cases hj:j=i
   ·subst hj; rw [eR] at hx; cases hx
    exact ⟨hf.dj F.bo (F.cont gQ) (by simp),z9⟩
   ·rw [dT hj] at hx
    have:=h.apart i j _ _ (Ne.symm hj) hi hx F.bo (F.cont gQ) (by simp)
    exact this
end
end Go.Lg
namespace Go.Lg
open Go.Conc Go.ConcN
theorem Ly{F:Fx}{j:Nat}(c:Lc):A9 F j (hd c)↔j < F.J:=by unfold hd; split <;> exact Iff.rfl
theorem avv{F:Fx}{j:Nat}(c:Lc):A9 F j (iE c)↔j < F.J:=by unfold iE; split <;> exact Iff.rfl
theorem aaH{F:Fx}{j:Nat}(m:Wd):A9 F j (hu m)↔j≤F.J:=by unfold hu; split <;> exact Iff.rfl
section
variable {F:Fx} {Q:Nat} {T0 hZ:Mp} {D:Nat→Ab} {js:Nat→Nat} {s s':Sh} {n i k j:Nat} {T T':Lp}
theorem avw(h:A9 F j T)(de:c7 T s T' s')(yl:wM F j T T')(hu:gg T=false)(hq:T' ≠ .quit):A9 F j T':=by
 cases de
 case ur=>cases hu
 case r0=>exact (Ly _).2 h
 case r1=>exact (Ly _).2 h
 case r3=>exact (Ly _).2 h
 case wC=>exact (Ly _).2 h
 case wK=>exact (avv _).2 h
 case vt c _ _=>cases c.ws <;> exact h
 case s1 c _ _=>cases c.sv <;> exact h
 case wL=>exact (aaH _).2 h
 case ux=>exact (aaH _).2 h
 case L7=>exact yl
 case L8=>exact yl
 case FA=>exact absurd rfl hq
 case d4=>exact absurd rfl hq
 all_goals exact h
theorem Lx{js:Nat→Nat}(c:Lc):yF js (hd c):=by unfold hd; split <;> trivial
theorem avu{js:Nat→Nat}(c:Lc):yF js (iE c):=by unfold iE; split <;> trivial
theorem aaG{js:Nat→Nat}(m:Wd):yF js (hu m):=by unfold hu; split <;> trivial
theorem Bk.H6(h:Bk F Q T0 D js s n):31 * n < Q:=by have:=h.Fl; omega
theorem axq{J:Nat}{T:Mp}(h:T ≠ .fin):0 < stM J T:=by cases T <;> simp only [stM] <;> first | omega | exact absurd rfl h
theorem Bk.rf(h:Bk F Q T0 D js s n):0 < MM F Q D s n:=aeO h.pos (by have:=h.H6; omega) (by rw [h.d0]; exact axq h.nf)
theorem Bk.rv(h:Bk F Q T0 D js s n)(hd:D i = .wk k j T)(hi:i < n)(de:c7 T s T' s'){x:Ab}{gQ:Nat→Nat}(hx:cA x=cW T')(UZ:∀ T,x ≠ .mn T)(ZC:∀ k' j' T1,x = .wk k' j' T1→k'=k∧T1=T'∧gQ k=j'∧A9 F j' T1)
  (gE:∀ k',k'≠k→gQ k'=js k') (ix:∀ i' k' j' T1,i'≠i→D i' = .wk k' j' T1→yF gQ T1) (amK:yF gQ T') (alg:gQ k=F.J∨∃ j',x = .wk k j' T'):Bk F Q T0 (cj D i x) gQ s' n:=by
 have h0:i≠0:=λ e=>by subst e; rw [h.d0] at hd; cases hd
 obtain ⟨ot,oj,oh,ok,on⟩:=h.mf i k j T hd
 have hle:=zj (D:=D) hi
 have tZ:=tH (D:=D) hi x
 rw [hd] at hle tZ
 rw [hx] at tZ
 obtain ⟨ha,hT'⟩:=h.qG.step ot hle de tZ
 have hg:=h.aig.step hle de tZ
 refine ⟨by rw [fb (Ne.symm h0)]; exact h.d0,h.nf,h.pos,λ i' oz=>by rw [fb (by omega)]; exact h.out i' oz,λ i' T hT=>?_,ha,hg,λ i' k' j' T1 hT=>?_,λ i1 i2 k' j1 j2 T1 T2 h1 h2=>?_,λ k' dy=>?_,λ k' dy=>?_,h.Fl⟩
 ·by_cases e:i'=i
  ·subst e; rw [iZ] at hT; exact absurd hT (UZ T)
  ·rw [fb e] at hT; exact h.main i' T hT
 ·by_cases e:i'=i
  ·subst e; rw [iZ] at hT
   obtain ⟨rfl,rfl,h3,h4⟩:=ZC k' j' T1 hT
   exact ⟨hT',h4,amK,h3,on⟩
  ·rw [fb e] at hT
   obtain ⟨a1,a2,a3,a4,a5⟩:=h.mf i' k' j' T1 hT
   have hkk:k'≠k:=λ e'=>by subst e'; exact e (h.wi i' i k' j' j T1 T hT hd)
   exact ⟨a1,a2,ix i' k' j' T1 e hT,by rw [gE k' hkk]; exact a4,a5⟩
 ·have key:∀ i1 j1 T1,cj D i x i1 = .wk k' j1 T1→∃ j' T',D i1 = .wk k' j' T':=λ i1 j1 T1 h1=>by
   by_cases e:i1=i
   ·subst e; rw [iZ] at h1
    obtain ⟨rfl,_⟩:=ZC k' j1 T1 h1
    exact ⟨_,_,hd⟩
   ·rw [fb e] at h1; exact ⟨_,_,h1⟩
  obtain ⟨_,_,e1⟩:=key i1 j1 T1 h1
  obtain ⟨_,_,e2⟩:=key i2 j2 T2 h2
  exact h.wi _ _ _ _ _ _ _ e1 e2
 ·by_cases e:k'=k
  ·subst e
   rcases alg with hz | ⟨j',hz⟩
   ·exact .inl hz
   ·exact .inr ⟨i,j',T',by rw [iZ]; exact hz⟩
  ·rcases h.done k' dy with hz | ⟨i',j',T1,hz⟩
   ·exact .inl (by rw [gE k' e]; exact hz)
   ·refine .inr ⟨i',j',T1,?_⟩
    rw [fb (λ e'=>by subst e'; rw [hd] at hz; cases hz; exact e rfl)]; exact hz
 ·have e:k'≠k:=λ e=>by subst e; omega
  rw [gE k' e]; exact h.Lt k' dy
theorem Bk.work(h:Bk F Q T0 D js s n)(hd:D i = .wk k j T)(hi:i < n)(de:c7 T s T' s')(yl:wM F j T T')(R5:yF js T')(hu:gg T=false)(hq:T' ≠ .quit) :
  Bk F Q T0 (cj D i (.wk k j T')) js s' n∧MM F Q (cj D i (.wk k j T')) s' n < MM F Q D s n:=by
 obtain ⟨ot,oj,oh,ok,on⟩:=h.mf i k j T hd
 refine ⟨h.rv hd hi de rfl (λ T=>by simp) (λ k' j' T1 e=>?_) (λ _ _=>rfl) (λ i' k' j' T1 _ e=>(h.mf i' k' j' T1 e).2.2.1) R5 (.inr ⟨j,rfl⟩),Jb hi h.H6 ?_⟩
 ·cases e; exact ⟨rfl,rfl,ok,avw oj de yl hu hq⟩
 ·rw [hd]
  have:=de.J4 ot
  simp only [hu,Bool.false_eq_true,if_false] at this
  simp only [cP,na]
  rcases this with z | ⟨z1,_,z2,z3,z4⟩
  ·left; omega
  ·right; exact ⟨by omega,z2,z3,z4⟩
theorem Bk.ur(h:Bk F Q T0 D js s n)(hd:D i = .wk k j (.ur js))(hi:i < n) :
  Bk F Q T0 (cj D i (.wk k (j+1) .ud)) (fS js k (j+1)) s n∧MM F Q (cj D i (.wk k (j+1) .ud)) s n < MM F Q D s n:=by
 obtain ⟨ot,oj,oh,ok,on⟩:=h.mf i k j _ hd
 have oj':j < F.J:=oj
 refine ⟨h.rv hd hi .ur rfl (λ T=>by simp) (λ k' j' T1 e=>?_) (λ k' dy=>rz dy) (λ i' k' j' T1 eB e=>?_) trivial (.inr ⟨_,rfl⟩),Jb hi h.H6 ?_⟩
 ·cases e; exact ⟨rfl,rfl,rA _ _ _,oj'⟩
 ·
  have hb:=h.qG
  have h1:=hb.ow
  have h2:=hb.l1
  have a1:(cA (D i)).hl=1:=by rw [hd]; rfl
  cases T1 with
  | ul z =>
   have a2:(cA (D i')).hl=1:=by rw [e]; rfl
   have:2≤(cnt D n).hl:=by
    have oz:i' < n:=by
     apply Classical.byContradiction
     intro hn
     rw [h.out i' (by omega)] at e; cases e
    have t1:=(tH (D:=D) hi .no).hl
    have t2:=(zj (D:=cj D i .no) oz).hl
    rw [fb eB,a2] at t2
    rw [a1] at t1
    simp only [cA,Cn.zero] at t1
    omega
   omega
  | uv z =>
   have a2:(cA (D i')).hl=1:=by rw [e]; rfl
   have:2≤(cnt D n).hl:=by
    have oz:i' < n:=by
     apply Classical.byContradiction
     intro hn
     rw [h.out i' (by omega)] at e; cases e
    have t1:=(tH (D:=D) hi .no).hl
    have t2:=(zj (D:=cj D i .no) oz).hl
    rw [fb eB,a2] at t2
    rw [a1] at t1
    simp only [cA,Cn.zero] at t1
    omega
   omega
  | ur z =>
   have a2:(cA (D i')).hl=1:=by rw [e]; rfl
   have:2≤(cnt D n).hl:=by
    have oz:i' < n:=by
     apply Classical.byContradiction
     intro hn
     rw [h.out i' (by omega)] at e; cases e
    have t1:=(tH (D:=D) hi .no).hl
    have t2:=(zj (D:=cj D i .no) oz).hl
    rw [fb eB,a2] at t2
    rw [a1] at t1
    simp only [cA,Cn.zero] at t1
    omega
   omega
  | _=>trivial
 ·rw [hd]
  left
  simp only [cP,gH]
  have:F.J - j=(F.J - (j+1))+1:=by omega
  omega
theorem Bk.quit(h:Bk F Q T0 D js s n)(hd:D i = .wk k j T)(hi:i < n)(de:c7 T s .quit s')(hj:j=F.J)(hu:gg T=false) :
  Bk F Q T0 (cj D i .no) js s' n∧MM F Q (cj D i .no) s' n < MM F Q D s n:=by
 obtain ⟨ot,oj,oh,ok,on⟩:=h.mf i k j T hd
 refine ⟨h.rv hd hi de rfl (λ T=>by simp) (λ k' j' T1 e=>by cases e) (λ _ _=>rfl) (λ i' k' j' T1 _ e=>(h.mf i' k' j' T1 e).2.2.1) trivial (.inl (ok.trans hj)),Jb hi h.H6 ?_⟩
 rw [hd]
 have:=de.J4 ot
 simp only [hu,Bool.false_eq_true,if_false] at this
 simp only [cP,na]
 rcases this with z | ⟨z1,_,z2,z3,z4⟩
 ·left; omega
 ·right; have z5:gH Lp.quit=0:=rfl; subst hj; exact ⟨by omega,z2,z3,z4⟩
theorem aww(de:fV T0 s hZ s')(h:hZ ≠ .fin):rem hZ=rem T0:=by cases de <;> rfl
theorem Bk.au7(h:Bk F Q T0 D js s n)(de:fV T0 s hZ s')(hf:hZ ≠ .fin):Bk F Q hZ (cj D 0 (.mn hZ)) js s' n∧MM F Q (cj D 0 (.mn hZ)) s' n < MM F Q D s n:=by
 have hr:=aww de hf
 have tZ:=tH (D:=D) h.pos (.mn hZ)
 rw [h.d0] at tZ
 have ec:cnt (cj D 0 (.mn hZ)) n=cnt D n:=by
  obtain ⟨g1,g2,g3,g4,g5,g6,g7,g8,g9,cR,cC,cD,cE⟩:=tZ
  simp only [cA,Cn.zero,Nat.add_zero] at *
  generalize cnt (cj D 0 (.mn hZ)) n=c' at *
  generalize cnt D n=c at *
  cases c; cases c'; simp only [Cn.mk.injEq] at *
  exact ⟨g1,g2,g3,g4,g5,g6,g7,g8,g9,cR,cC,cD,cE⟩
 have key:∀ i' k' j' T1,cj D 0 (.mn hZ) i' = .wk k' j' T1→D i' = .wk k' j' T1:=λ i' k' j' T1 e=>by
  by_cases e0:i'=0
  ·subst e0; rw [iZ] at e; cases e
  ·rwa [fb e0] at e
 refine ⟨⟨iZ _ _ _,hf,h.pos,λ i' oz=>by rw [fb (by have:=h.pos; omega)]; exact h.out i' oz,λ i' T hT=>?_,by rw [ec]; exact h.qG.main de,by rw [ec]; exact h.aig.main de,λ i' k' j' T1 e=>by rw [hr]; exact h.mf i' k' j' T1 (key _ _ _ _ e),
  λ i1 i2 k' j1 j2 T1 T2 h1 h2=>h.wi _ _ _ _ _ _ _ (key _ _ _ _ h1) (key _ _ _ _ h2),λ k' dy=>?_,λ k' dy=>h.Lt k' (by rw [← hr]; exact dy),by rw [hr]; exact h.Fl⟩,Jb h.pos h.H6 ?_⟩
 ·by_cases e0:i'=0
  ·exact e0
  ·rw [fb e0] at hT; exact h.main i' T hT
 ·rcases h.done k' (by rw [← hr]; exact dy) with z | ⟨i',j',T1,z⟩
  ·exact .inl z
  ·exact .inr ⟨i',j',T1,by rw [fb (λ e=>by subst e; rw [h.d0] at z; cases z)]; exact z⟩
 ·rw [h.d0]; exact de.J4
theorem LU(r:Nat):rem (jV r)=r:=by cases r <;> rfl
theorem avr(r:Nat):jV r ≠ .fin:=by cases r <;> simp [jV]
theorem Bk.spawn{r:Nat}(h:Bk F Q (.go r) D js s n):Bk F Q (jV r) (cj (cj D n (.wk (F.N - (r+1)) 0 .ld)) 0 (.mn (jV r))) js s (n+1)∧MM F Q (cj (cj D n (.wk (F.N - (r+1)) 0 .ld)) 0 (.mn (jV r))) s (n+1) < MM F Q D s n:=by
 have tZ:=Xz (D:=D) h.pos (.mn (jV r)) (.wk (F.N - (r+1)) 0 .ld) rfl (by rw [h.d0]; rfl)
 have hF:=h.pos
 have hle:=h.aig.le
 simp only [rem] at hle
 have hrN:r+1≤F.N:=by omega
 have key:∀ i' k' j' T1,cj (cj D n (.wk (F.N - (r+1)) 0 .ld)) 0 (.mn (jV r)) i' = .wk k' j' T1→(i'=n∧k'=F.N - (r+1)∧j'=0∧T1 = .ld)∨D i' = .wk k' j' T1:=λ i' k' j' T1 e=>by
  by_cases e0:i'=0
  ·subst e0; rw [iZ] at e; cases e
  ·rw [fb e0] at e
   by_cases en:i'=n
   ·subst en; rw [iZ] at e; cases e; exact .inl ⟨rfl,rfl,rfl,rfl⟩
   ·rw [fb en] at e; exact .inr e
 refine ⟨⟨iZ _ _ _,avr r,by omega,λ i' oz=>by rw [fb (by omega),fb (by omega)]; exact h.out i' (by omega),λ i' T hT=>?_,h.qG.spawn h.aig tZ,h.aig.spawn tZ,λ i' k' j' T1 e=>?_,λ i1 i2 k' j1 j2 T1 T2 h1 h2=>?_,λ k' dy=>?_,λ k' dy=>?_,?_⟩,aeP hF ?_ ?_⟩
 ·by_cases e0:i'=0
  ·exact e0
  ·rw [fb e0] at hT
   by_cases en:i'=n
   ·subst en; rw [iZ] at hT; cases hT
   ·rw [fb en] at hT; exact h.main i' T hT
 ·rw [LU]
  rcases key i' k' j' T1 e with ⟨rfl,rfl,rfl,rfl⟩ | z
  ·exact ⟨trivial,F.hJ,trivial,h.Lt _ (by simp only [rem]; omega),by omega⟩
  ·obtain ⟨a1,a2,a3,a4,a5⟩:=h.mf i' k' j' T1 z
   simp only [rem] at a5
   exact ⟨a1,a2,a3,a4,by omega⟩
 ·rcases key i1 k' j1 T1 h1 with ⟨q1,e1,_,_⟩ | z1 <;> rcases key i2 k' j2 T2 h2 with ⟨q2,e2,_,_⟩ | z2
  ·exact q1.trans q2.symm
  ·have:=(h.mf i2 _ j2 T2 z2).2.2.2.2; simp only [rem] at this; omega
  ·have:=(h.mf i1 _ j1 T1 z1).2.2.2.2; simp only [rem] at this; omega
  ·exact h.wi _ _ _ _ _ _ _ z1 z2
 ·rw [LU] at dy
  by_cases e:k'+(r+1) < F.N
  ·rcases h.done k' e with z | ⟨i',j',T1,z⟩
   ·exact .inl z
   ·refine .inr ⟨i',j',T1,?_⟩
    rw [fb (λ e=>by rw [e,h.d0] at z; cases z),fb (λ e=>by rw [e,h.out n (Nat.le_refl _)] at z; cases z)]; exact z
  ·exact .inr ⟨n,0,.ld,by rw [fb (by omega),iZ]; congr 1; omega⟩
 ·rw [LU] at dy; exact h.Lt k' (by simp only [rem]; omega)
 ·rw [LU]; have:=h.Fl; simp only [rem] at this; omega
 ·have:=h.Fl; simp only [rem] at this; omega
 ·rw [h.d0]
  have:=axa F.J r
  simp only [cP]
  omega
end
end Go.Lg
namespace Go.Lg
open Go.Conc Go.ConcN
theorem zv.Bq{P:Program}{B:Base}{main:Bool}{K:av→ai→Goroutine→Prop}{T:Tree}{R:av}{H:ai}{g:Goroutine}(h:zv P B main K T R H g)(hs:∀ R H g,K R H g→g.status = .running):g.status = .running:=by
 induction T generalizing R H g with
 | node ι f ih =>
  rcases h with h | ⟨h,_⟩ | ⟨R',H',i,_,h⟩
  ·exact hs _ _ _ h
  ·exact h
  ·exact ih i h
theorem AF{gs:Array Goroutine}{i:Nat}{g:Goroutine}(h:gs[i]? = some g):i < gs.size:=(Array.getElem?_eq_some_iff.1 h).1
theorem E1.woken{P:Program}{K:Goroutine→Prop}{z z':Prop}{a a' x:Goroutine}{w:World}(h:E1 K z x)(hz:(mayWake P a=true∧a'.status ≠ .blocked∧a'.status ≠ .waiting)∨(z→z')):E1 K z' (woken P a a' w x):=by
 obtain ⟨g0,hK,hr,ho,hg⟩:=h
 refine ⟨g0,hK,hr,ho,?_⟩
 rcases hg with rfl | ⟨rfl,SK⟩
 ·left
  unfold Conc.woken
  split
  ·exact again_running _ (.inl hr)
  ·rfl
 ·rcases hz with ⟨h1,h2,h3⟩ | hz
  ·left
   unfold Conc.woken
   rw [if_pos (by simp [h1,h2,h3])]
   obtain ⟨f,c,st,d,o⟩:=g0
   simp only at hr ho
   subst hr ho
   rfl
  ·unfold Conc.woken
   split
   ·left
    obtain ⟨f,c,st,d,o⟩:=g0
    simp only at hr ho
    subst hr ho
    rfl
   ·right; exact ⟨rfl,hz SK⟩
theorem zw.run{P:Program}{K:Goroutine→Prop}(hK:∀ g,K g→g.status = .running):∀ {q:Nat} {g:Goroutine},zw P K q g→g.status = .running
 | 0,_,h=>hK _ h
 | _+1,_,h=>h.elim (hK _) (·.1)
section
variable {F:Fx} {Q:Nat} {T0:Mp} {D:Nat→Ab} {m:Nat→Ms} {js:Nat→Nat} {s s':Sh} {th:Nat→Option Th} {mu:Nat→Bool} {dd:Nat→Nat} {gs:Array Goroutine} {w:World} {t:Trace} {sl:Option (Nat × Nat)} {i:Nat} {g:Goroutine}
theorem KW.run{n k j:Nat}{T:Lp}{R:av}{H:ai}(h:KW F n k j T R H g)(hn:0 < n)(ho:pv F.N T):g.status = .running∧g.offers=none:=by
 cases n with
 | zero=>omega
 | succ n=>have:=h ho; exact ⟨this.1,this.2.1⟩
theorem KM.run{n:Nat}{T:Mp}{R:av}{H:ai}(h:KM F n T R H g)(hn:0 < n):g.status = .running∧g.offers=none:=by
 cases n with
 | zero=>omega
 | succ n=>exact ⟨h.1,h.2.1⟩
theorem oY.look{μ:Nat}{mm:Ms}{x:Option Th}{b:Bool}{d:Nat}{A:Ab}(h:oY F μ s i mm x b d g A)(SL:0 < μ)(hT:∀ k j T,A = .wk k j T→pv F.N T) :
  (g.status = .running)∨(g.status = .finished∧A = .no)∨(g.status = .blocked∧mm=none∧((∃ k j c,A = .wk k j (.s1 c)∧s.ms=0)∨(A = .mn .w3∧s.ws=0))):=by
 cases A with
 | no =>
  obtain ⟨_,_,q,_,hq⟩:=h
  rcases hq.status with x | x
  ·exact .inl x
  ·exact .inr (.inl ⟨x,rfl⟩)
 | wk k j T =>
  obtain ⟨_,_,_,y,n,_,hn,h⟩:=h
  have ho:=hT k j T rfl
  split at h
  ·obtain ⟨q,_,hq⟩:=h
   exact .inl (hq.run λ g hg=>(hg.run (by omega) ho).1)
  ·rcases h with ⟨Tr,_,h⟩ | ⟨rfl,⟨c,rfl⟩,g0,hK,hr,_,hg⟩
   ·exact .inl (h.Bq λ R H g hg=>(KW.run hg (by omega) ho).1)
   ·rcases hg with rfl | ⟨rfl,hz⟩
    ·exact .inl hr
    ·exact .inr (.inr ⟨rfl,rfl,.inl ⟨k,j,c,rfl,hz⟩⟩)
 | mn T =>
  obtain ⟨_,_,_,y,n,_,hn,h⟩:=h
  rcases h with ⟨Tr,_,h⟩ | ⟨rfl,rfl,g0,hK,hr,_,hg⟩
  ·exact .inl (h.Bq λ R H g hg=>(KM.run hg (by omega)).1)
  ·rcases hg with rfl | ⟨rfl,hz⟩
   ·exact .inl hr
   ·exact .inr (.inr ⟨rfl,rfl,.inr ⟨rfl,hz⟩⟩)
theorem oY.woken{μ Iy:Nat}{mm:Ms}{x:Option Th}{b:Bool}{d:Nat}{A:Ab}{a a':Goroutine}{w':World}(h:oY F μ s i mm x b d g A)(SL:0 < μ)(hT:∀ k j T,A = .wk k j T→pv F.N T)(hle:Iy≤μ)
  (hz:(mayWake F.P a=true∧a'.status ≠ .blocked∧a'.status ≠ .waiting)∨(s'.ms≤s.ms∧s'.ws≤s.ws)):oY F Iy s' i mm x b d (Conc.woken F.P a a' w' g) A:=by
 have run:g.status = .running→Conc.woken F.P a a' w' g=g:=λ hr=>by
  unfold Conc.woken
  split
  ·exact again_running _ (.inl hr)
  ·rfl
 cases A with
 | no =>
  obtain ⟨h1,h2,q,h3,hq⟩:=h
  exact ⟨h1,h2,q,h3,by rw [woken_quitsD hq]; exact hq⟩
 | wk k j T =>
  obtain ⟨h1,h2,h3,y,n,h4,hn,h⟩:=h
  have ho:=hT k j T rfl
  refine ⟨h1,h2,h3,y,n,h4,by omega,?_⟩
  split
  ·rename_i hm
   rw [if_pos hm] at h
   obtain ⟨q,h5,hq⟩:=h
   exact ⟨q,h5,by rw [run (hq.run λ g hg=>(hg.run (by omega) ho).1)]; exact hq⟩
  ·rename_i hm
   rw [if_neg hm] at h
   rcases h with ⟨Tr,h5,h⟩ | ⟨h5,h6,hS⟩
   ·exact .inl ⟨Tr,h5,by rw [run (h.Bq λ R H g hg=>(KW.run hg (by omega) ho).1)]; exact h⟩
   ·exact .inr ⟨h5,h6,hS.woken (hz.imp id λ z h0=>by omega)⟩
 | mn T =>
  obtain ⟨h1,h2,h3,y,n,h4,hn,h⟩:=h
  refine ⟨h1,h2,h3,y,n,h4,by omega,?_⟩
  rcases h with ⟨Tr,h5,h⟩ | ⟨h5,h6,hS⟩
  ·exact .inl ⟨Tr,h5,by rw [run (h.Bq λ R H g hg=>(KM.run hg (by omega)).1)]; exact h⟩
  ·exact .inr ⟨h5,h6,hS.woken (hz.imp id λ z h0=>by omega)⟩
theorem MI.at(h:MI F Q T0 D m js s th mu dd gs w t)(d:Nat):MI F Q T0 D m js s th mu dd gs (w.at d) t:=⟨h.mem.at d,h.tr,h.uR,h.out,h.bk⟩
theorem MI.mf(h:MI F Q T0 D m js s th mu dd gs w t)(i:Nat):∀ k j T,D i = .wk k j T→pv F.N T:=λ k j T hd=>(h.bk.mf i k j T hd).1
theorem MI.rv(h:MI F Q T0 D m js s th mu dd gs w t)(hi:gs[i]? = some g){x:Ab}{m':Ms}{hZ:Mp}{gQ:Nat→Nat}{iX:Nat→Option Th}{mu':Nat→Bool}{dd':Nat→Nat}{g':Goroutine}{w':World}{t':Trace}
  (hz:(mayWake F.P g=true∧g'.status ≠ .blocked∧g'.status ≠ .waiting)∨(s'.ms≤s.ms∧s'.ws≤s.ws))
  (hM:MM F Q (cj D i x) s' gs.size≤MM F Q D s gs.size) (hm:eT F.B iX (gd F s' gQ (cnt (cj D i x) gs.size).hl) w') (ht:cM (some (am F)) (some (aw F)) iX mu' dd' [F.bm,F.bw] (pe F (cnt (cj D i x) gs.size).hl) w'.heap.size t')
  (hs:oY F (MM F Q (cj D i x) s' gs.size) s' i m' (iX i) (mu' i) (dd' i) g' x) (ho:∀ j,j≠i→iX j=th j∧mu' j=mu j∧dd' j=dd j) (hb:Bk F Q hZ (cj D i x) gQ s' gs.size) :
  MI F Q hZ (cj D i x) (lM m i m') gQ s' iX mu' dd' ((gs.map (Conc.woken F.P g g' w')).setIfInBounds i g') w' t':=by
 have bJ:=AF hi
 have fp:((gs.map (Conc.woken F.P g g' w')).setIfInBounds i g').size=gs.size:=by simp
 refine ⟨by rw [fp]; exact hm,by rw [fp]; exact ht,λ j y hj=>?_,λ j hj=>?_,by rw [fp]; exact hb⟩
 ·rw [fp]
  by_cases fX:j=i
  ·subst fX
   rw [Array.getElem?_setIfInBounds_self_of_lt (by simpa using bJ)] at hj; cases hj
   rw [iZ,Ij]; exact hs
  ·rw [Array.getElem?_setIfInBounds_ne (Ne.symm fX),Array.getElem?_map] at hj
   obtain ⟨z,SK,rfl⟩:=Option.map_eq_some_iff.1 hj
   obtain ⟨e1,e2,e3⟩:=ho j fX
   rw [fb fX,Ec fX,e1,e2,e3]
   exact (h.uR j z SK).woken h.bk.rf (h.mf j) hM hz
 ·rw [fp] at hj
  obtain ⟨e1,e2,e3⟩:=ho j (by omega)
  rw [e1,e2,e3]; exact h.out j hj
theorem axN{D:Nat→Ab}{i:Nat}{x:Ab}(h:D i=x):cj D i x=D:=by
 funext j; unfold cj; split
 ·rename_i e; subst e; exact h.symm
 ·rfl
theorem MI.still(h:MI F Q T0 D m js s th mu dd gs w t)(hi:gs[i]? = some g){m':Ms}{iX:Nat→Option Th}{dd':Nat→Nat}{g':Goroutine}{w':World}{t':Trace}(hm:eT F.B iX (gd F s js (cnt D gs.size).hl) w')(ht:cM (some (am F)) (some (aw F)) iX mu dd' [F.bm,F.bw] (pe F (cnt D gs.size).hl) w'.heap.size t')
  (hs:oY F (MM F Q D s gs.size) s i m' (iX i) (mu i) (dd' i) g' (D i)) (ho:∀ j,j≠i→iX j=th j∧dd' j=dd j) :
  MI F Q T0 D (lM m i m') js s iX mu dd' ((gs.map (Conc.woken F.P g g' w')).setIfInBounds i g') w' t':=by
 have e:=axN (D:=D) (i:=i) rfl
 have:=h.rv (x:=D i) (m':=m') (hZ:=T0) (gQ:=js) (s':=s) (iX:=iX) (mu':=mu) (dd':=dd') (g':=g') (w':=w') (t':=t') hi (.inr ⟨Nat.le_refl _,Nat.le_refl _⟩) (by rw [e]; exact Nat.le_refl _) (by rw [e]; exact hm) (by rw [e]; exact ht) (by rw [e]; exact hs) (λ j hj=>⟨(ho j hj).1,rfl,(ho j hj).2⟩) (by rw [e]; exact h.bk)
 rwa [e] at this
end
end Go.Lg
namespace Go.Lg
open Go.Conc Go.ConcN
theorem XD{t u:Trace}{g:Nat}:∀ {r:Nat},r≤u.size→(t++u).deaf g (t.size+r)=(u.toList.take r).foldl (deafStep g) (Deaf t g)
 | 0,_=>by simp only [Nat.add_zero,List.take_zero,List.foldl_nil]; exact deaf_old (Nat.le_refl _)
 | r+1,h=>by
  have ih:=XD (t:=t) (u:=u) (g:=g) (r:=r) (by omega)
  have hr:r < u.size:=by omega
  have hu:(t++u)[t.size+r]? = some u[r]:=by
   rw [Array.getElem?_append_right (by omega),Nat.add_sub_cancel_left,Array.getElem?_eq_getElem hr]
  rw [← Nat.add_assoc,deaf_succ hu,ih]
  have:u.toList.take (r+1)=u.toList.take r++[u[r]]:=by
   rw [List.take_add_one]
   simp [hr]
  rw [this,List.foldl_append]
  rfl
theorem XE{g:Nat}:∀ {l:List MemOp} {d:Nat},(∀ op∈l,op.act ≠ .mark .enable)→d≤l.foldl (deafStep g) d
 | [],_,_=>Nat.le_refl _
 | y::l,d,h=>by
  have h1:d≤deafStep g d y:=by
   unfold deafStep
   split
   ·split <;> omega
   ·rename_i e; exact absurd e (h y (by simp))
   ·exact Nat.le_refl _
  exact Nat.le_trans h1 (XE λ op an=>h op (List.mem_cons_of_mem _ an))
section
variable {F:Fx} {th:Nat→Option Th} {mu:Nat→Bool} {dd:Nat→Nat} {s:Sh} {js:Nat→Nat} {hl i:Nat} {w:World} {t:Trace} {fn:FuncId} {pos:String} {es:Array Event} {R:av} {H:ai}
theorem Z7(h:eT F.B th (gd F s js hl) w):F.bm < w.heap.size:=kP (h.mS _ _ (xM F s js hl))
theorem K5(h:eT F.B th (gd F s js hl) w):F.bw < w.heap.size:=kP (h.mS _ _ (xN F s js hl))
theorem afO(_:eT F.B th (gd F s js hl) w)(he:oW F es):∀ op∈MemOp.ofEvents i fn pos es,op.g=i∧(op.act = .mark .disable∨op.act = .mark .enable∨∃ a wr,op.act = .access ⟨.cell a,wr,true⟩∧(a.block=F.bm∨a.block=F.bw)):=by
 intro op an
 obtain ⟨e,l5,rfl⟩:=yC an
 refine ⟨rfl,?_⟩
 rcases he with he | ⟨a,ha,rfl⟩
 ·obtain ⟨a,wr,rfl,ha⟩:=he e l5
  exact .inr (.inr ⟨a,wr,by cases wr <;> rfl,ha⟩)
 ·simp only [semEvents,List.mem_toArray,List.mem_cons,List.not_mem_nil,or_false] at l5
  rcases l5 with rfl | rfl | rfl | rfl
  ·exact .inl rfl
  ·exact .inr (.inr ⟨a,false,rfl,ha⟩)
  ·exact .inr (.inr ⟨a,true,rfl,ha⟩)
  ·exact .inr (.inl rfl)
theorem afN(he:oW F es)(d:Nat):deafBehind d es=d:=by
 rcases he with he | ⟨a,_,rfl⟩
 ·obtain ⟨l⟩:=es
  unfold deafBehind
  simp only [List.foldl_toArray']
  induction l with
  | nil=>rfl
  | cons e l ih =>
   obtain ⟨a,wr,rfl,_⟩:=he e (by simp)
   exact ih λ e' Kk=>he e' (by simp at Kk ⊢; exact .inr Kk)
 ·simp [deafBehind,semEvents]
theorem cM.N7(hM:eT F.B th (gd F s js hl) w)(h:cM (some (am F)) (some (aw F)) th mu dd [F.bm,F.bw] (pe F hl) w.heap.size t)(hi:th i=some ⟨R,H⟩)(he:oW F es)(hc:mu i=false∨1≤dd i) :
  cM (some (am F)) (some (aw F)) th mu dd [F.bm,F.bw] (pe F hl) w.heap.size (t++MemOp.ofEvents i fn pos es):=by
 have CF:=afO (i:=i) (fn:=fn) (pos:=pos) hM he
 have:=cM.app (u:=MemOp.ofEvents i fn pos es) (n':=w.heap.size) (R':=R) (H':=H) (d':=dd i) hM rfl (Fv F s js hl) (Fu F s js hl) h hi (λ op an=>(CF op an).1) (λ op an a ha=>?_) (λ op an=>?_) (λ op an a=>?_) (by rw [Deaf_own,h.deaf i,afN he]) ?_ (Nat.le_refl _) (λ _ _ x=>.inl x) (λ _ o x=>.inl ⟨o,x⟩)
 ·rwa [Br hi,lO] at this
 ·rcases (CF op an).2 with e | e | ⟨a',wr,e,hb⟩ <;> rw [e] at ha
  ·cases ha
  ·cases ha
  ·simp only [MemAct.touch?,Option.some.injEq] at ha
   subst ha
   exact .inr ⟨a'.block,rfl,by rcases hb with hb | hb <;> simp [hb],.inl rfl⟩
 ·rcases (CF op an).2 with e | e | ⟨a',wr,e,hb⟩ <;> rw [e]
  ·trivial
  ·trivial
  ·show a'.block < _
   rcases hb with hb | hb <;> rw [hb]
   ·exact Z7 hM
   ·exact K5 hM
 ·rcases (CF op an).2 with e | e | ⟨a',wr,e,hb⟩ <;> rw [e] <;> intro x <;> cases x
 ·refine hc.imp id λ hd k a hk Ge eE=>?_
  rcases eE with eE | ⟨g,hg,hz⟩
  ·obtain ⟨op,h1,h2⟩:=touch_of Ge
   rcases getElem?_append_cases h1 with ⟨bJ,_⟩ | ⟨_,h3⟩
   ·omega
   ·rcases (CF op h3).2 with e | e | ⟨a',wr,e,hb⟩ <;> rw [e] at h2
    ·cases h2
    ·cases h2
    ·simp only [MemAct.touch?,Option.some.injEq] at h2
     subst h2; exact eE rfl
  ·obtain ⟨op,h1,h2⟩:=touch_of Ge
   have bJ:=lt_size_of_getElem? h1
   rw [Array.size_append] at bJ
   have hgi:g=i:=by
    rcases getElem?_append_cases h1 with ⟨bJ,_⟩ | ⟨_,h3⟩
    ·omega
    ·rw [Trace.g?,h1] at hg
     simp only [Option.map_some,Option.some.injEq] at hg
     rw [← hg]; exact (CF op h3).1
   subst hgi
   obtain ⟨r,rfl⟩:∃ r,k=t.size+r:=⟨k - t.size,by omega⟩
   rw [XD (by omega),h.deaf g] at hz
   have hup:dd g≤((MemOp.ofEvents g fn pos es).toList.take r).foldl (deafStep g) (dd g):=by
    refine XE λ op' Qt=>?_
    rcases he with he | ⟨a',YX,rfl⟩
    ·have hm:op'∈MemOp.ofEvents g fn pos es:=by simpa using List.mem_of_mem_take Qt
     obtain ⟨e,l5,rfl⟩:=yC hm
     obtain ⟨a',wr,rfl,_⟩:=he e l5
     cases wr <;> (intro x; cases x)
    ·have hr:r≤3:=by simp [MemOp.ofEvents,semEvents] at bJ; omega
     have e4:(MemOp.ofEvents g fn pos (semEvents a')).toList=[⟨g,fn,pos,.mark .disable⟩,⟨g,fn,pos,.access ⟨.cell a',false,true⟩⟩,⟨g,fn,pos,.access ⟨.cell a',true,true⟩⟩,⟨g,fn,pos,.mark .enable⟩]:=by simp [MemOp.ofEvents,semEvents,MemAct.ofEvent]
     rw [e4] at Qt
     have h3:op'∈[(⟨g,fn,pos,.mark .disable⟩:MemOp),⟨g,fn,pos,.access ⟨.cell a',false,true⟩⟩,⟨g,fn,pos,.access ⟨.cell a',true,true⟩⟩]:=by
      have:([(⟨g,fn,pos,.mark .disable⟩:MemOp),⟨g,fn,pos,.access ⟨.cell a',false,true⟩⟩,⟨g,fn,pos,.access ⟨.cell a',true,true⟩⟩,⟨g,fn,pos,.mark .enable⟩]).take r <+: ([(⟨g,fn,pos,.mark .disable⟩:MemOp),⟨g,fn,pos,.access ⟨.cell a',false,true⟩⟩,⟨g,fn,pos,.access ⟨.cell a',true,true⟩⟩,⟨g,fn,pos,.mark .enable⟩]).take 3:=List.take_prefix_take_left hr
      exact this.subset Qt
     simp only [List.mem_cons,List.not_mem_nil,or_false] at h3
     rcases h3 with rfl | rfl | rfl <;> (intro x; cases x)
   omega
theorem cM.word{m:Mark}{Wv Wy:Option Addr}{sh:List Nat}{fr:Option Nat}{n:Nat}(h:cM Wv Wy th mu dd sh fr n t)(hm:m = .disable∨m = .enable) :
  cM Wv Wy th mu (fS dd i (deafBehind (dd i) (said m))) sh fr n (t++MemOp.ofEvents i fn pos (said m)):=by
 refine h.leaves λ e he=>?_
 simp only [said,List.mem_toArray,List.mem_cons,List.not_mem_nil,or_false] at he
 subst he
 rcases hm with rfl | rfl <;> rfl
end
end Go.Lg
namespace Go.Lg
open Go.Conc Go.ConcN
theorem JL(c:Lc):nA (hd c)=1:=by unfold hd; split <;> rfl
theorem agA(c:Lc):nA (iE c)=1:=by unfold iE; split <;> rfl
theorem XG(m:Wd):nA (hu m)=1:=by unfold hu; split <;> rfl
theorem Lo(c:Lc):jF (hd c)=false:=by unfold hd; split <;> rfl
theorem avj(c:Lc):jF (iE c)=false:=by unfold iE; split <;> rfl
theorem aax(m:Wd):jF (hu m)=false:=by unfold hu; split <;> rfl
inductive I2 (F:Fx):Lp→Lp→Array Event→Prop
 | at {T T' es}:oW F es→nA T'=nA T→jF T'=jF T→I2 F T T' es
 | xQ {T T'}:nA T=0→nA T'=1→jF T'=jF T→I2 F T T' (said .disable)
 | en {T T'}:nA T=1→nA T'=0→jF T'=jF T→I2 F T T' (said .enable)
theorem PZ{c:Lc}{T:Lp}(h1:∀ c,T ≠ .sq c)(h2:∀ c,T ≠ .c2 c):hd c≠T:=by unfold hd; split <;> exact λ e=>by subst e; first | exact h1 _ rfl | exact h2 _ rfl
theorem T3{c:Lc}{T:Lp}(h1:∀ c,T ≠ .c1 c)(h2:∀ c,T ≠ .r1 c):iE c≠T:=by unfold iE; split <;> exact λ e=>by subst e; first | exact h1 _ rfl | exact h2 _ rfl
theorem R4{m:Wd}{T:Lp}(h1:T ≠ .ue)(h2:∀ c,T ≠ .uc c):hu m≠T:=by unfold hu; split <;> exact λ e=>by subst e; first | exact h1 rfl | exact h2 _ rfl
theorem c7.inv{s s':Sh}{T T':Lp}(h:c7 T s T' s'):(∀ js,T' = .ul js→T = .la)∧(T' = .ud→gg T=true)∧(T' = .quit→T = .d1∨T = .d4):=by
 have k1:∀ c,(∀ js,hd c = .ul js→T = .la)∧(hd c = .ud→gg T=true)∧(hd c = .quit→T = .d1∨T = .d4):=λ c=>⟨λ js e=>absurd e (PZ (by simp) (by simp)),λ e=>absurd e (PZ (by simp) (by simp)),λ e=>absurd e (PZ (by simp) (by simp))⟩
 have k2:∀ c,(∀ js,iE c = .ul js→T = .la)∧(iE c = .ud→gg T=true)∧(iE c = .quit→T = .d1∨T = .d4):=λ c=>⟨λ js e=>absurd e (T3 (by simp) (by simp)),λ e=>absurd e (T3 (by simp) (by simp)),λ e=>absurd e (T3 (by simp) (by simp))⟩
 have k3:∀ c,(∀ js,hu c = .ul js→T = .la)∧(hu c = .ud→gg T=true)∧(hu c = .quit→T = .d1∨T = .d4):=λ c=>⟨λ js e=>absurd e (R4 (by simp) (by simp)),λ e=>absurd e (R4 (by simp) (by simp)),λ e=>absurd e (R4 (by simp) (by simp))⟩
 cases h
 case r0=>exact k1 _
 case r1=>exact k1 _
 case r3=>exact k1 _
 case wC=>exact k1 _
 case wK=>exact k2 _
 case wL=>exact k3 _
 case ux=>exact k3 _
 case vt c _ _=>cases c.ws <;> simp
 case s1 c _ _=>cases c.sv <;> simp
 all_goals simp [gg]
theorem HV(i:Nat)(fn:FuncId)(pos:String)(m:Mark):MemOp.ofEvents i fn pos (said m)=#[⟨i,fn,pos,.mark m⟩]:=by simp [MemOp.ofEvents,said,MemAct.ofEvent]
section
variable {F:Fx} {Q:Nat} {T0:Mp} {D:Nat→Ab} {m:Nat→Ms} {js:Nat→Nat} {s s':Sh} {th:Nat→Option Th} {mu:Nat→Bool} {dd:Nat→Nat} {gs:Array Goroutine} {w w':World} {t:Trace} {sl:Option (Nat × Nat)} {i k j:Nat} {g g':Goroutine} {T T':Lp}
theorem c7.Ux(h:c7 T s T' s'):(T = .us∨T = .d4)∨(s'.ms≤s.ms∧s'.ws≤s.ws):=by
 cases h
 case us=>exact .inl (.inl rfl)
 case d4=>exact .inl (.inr rfl)
 case s1 c m h=>exact .inr ⟨by simp only; omega,Nat.le_refl _⟩
 all_goals exact .inr ⟨Nat.le_refl _,Nat.le_refl _⟩
theorem fV.Ux{T T':Mp}(h:fV T s T' s'):s'.ms≤s.ms∧s'.ws≤s.ws:=by
 cases h
 case w3 m h=>exact ⟨Nat.le_refl _,by simp only; omega⟩
 all_goals exact ⟨Nat.le_refl _,Nat.le_refl _⟩
theorem evK(de:c7 T s T' s'){es:Array Event}(he:Cq F T es)(h1:T ≠ .la)(h2:gg T=false)(h3:T ≠ .wr)(hq:T' ≠ .quit):I2 F T T' es:=by
 cases de
 case ld=>rw [show es=said .disable from he]; exact .xQ rfl rfl rfl
 case ud=>rw [show es=said .disable from he]; exact .xQ rfl rfl rfl
 case le=>rw [show es=said .enable from he]; exact .en rfl rfl rfl
 case L7=>rw [show es=said .enable from he]; exact .en rfl rfl rfl
 case L8=>rw [show es=said .enable from he]; exact .en rfl rfl rfl
 case wk=>rw [show es=said .disable from he]; exact .xQ rfl rfl rfl
 case la=>exact absurd rfl h1
 case ur=>cases h2
 case wr=>exact absurd rfl h3
 case FA=>exact absurd rfl hq
 case d4=>exact absurd rfl hq
 case r0=>exact .at he (JL _) (Lo _)
 case r1=>exact .at he (JL _) (Lo _)
 case r3=>exact .at he (JL _) (Lo _)
 case wC=>exact .at he (JL _) (Lo _)
 case wK=>exact .at he (agA _) (avj _)
 case vt c _ _=>exact .at he (by cases c.ws <;> rfl) (by cases c.ws <;> rfl)
 case s1 c _ _=>exact .at he (by cases c.sv <;> rfl) (by cases c.sv <;> rfl)
 case wL=>exact .at he (XG _) (aax _)
 case ux=>exact .at he (XG _) (aax _)
 all_goals exact .at he rfl rfl
theorem avn{K:Nat→Lp→av→ai→Goroutine→Prop}{R:av}{H:ai}(de:c7 T s T' s')(h1:T ≠ .la)(h2:gg T=false)(hq:T' ≠ .quit)(h:vl F K k j T T' R H g') :
  if jF T' then ∃ q,zw F.P (K j T' R H) q g' else Own F.P F.B false (K j T') R H g':=by
 cases hT:T' with
 | quit=>exact absurd hT hq
 | ul js=>exact absurd (de.inv.1 js hT) h1
 | ud=>rw [de.inv.2.1 hT] at h2; cases h2
 | _=>subst hT; exact h
theorem agw(h:MI F Q T0 D m js s th mu dd gs w t)(hi:gs[i]? = some g)(hd:D i = .wk k j T):0 < i∧dd i=nA T∧mu i=jF T:=by
 have:=h.uR i g hi
 rw [hd] at this
 exact ⟨this.1,this.2.1,this.2.2.1⟩
theorem MI.work(h:MI F Q T0 D m js s th mu dd gs w t)(hi:gs[i]? = some g)(hd:D i = .wk k j T){y:Th}(hy:th i=some y){n:Nat}(hn:MM F Q D s gs.size≤n)(hK:KW F n k j T y.R y.H g) :
  ((∃ c,T = .s1 c)∧s.ms=0∧stepG F.P false g w = .go { g with status:=.blocked } w #[]) ∨
  ∃ gM w' ops D' m' gQ s' iX mu' dd',(∀ sl,runT F.P (crowd gs w sl) i=(.next (crowd gM w' sl),ops))∧gM.size=gs.size∧MI F Q T0 D' m' gQ s' iX mu' dd' gM w' (t++ops)∧MM F Q D' s' gM.size < MM F Q D s gs.size:=by
 have bJ:=AF hi
 obtain ⟨hF,ju,da⟩:=agw h hi hd
 have vH:(i == 0)=false:=by simp; omega
 obtain ⟨ot,oj,oh,ok,on⟩:=h.bk.mf i k j T hd
 have hle:=zj (D:=D) bJ
 rw [hd] at hle
 have YL:=h.bk.rf
 obtain ⟨n',rfl⟩:∃ n',n=n'+1:=⟨n - 1,by omega⟩
 obtain ⟨jS,aFO,amA,cJ⟩:=hK ot
 obtain ⟨R,H⟩:=y
 rcases cJ w s (h.mem.fits i _ hy) (NA h.mem) (h.bk.qG.Ba hle) (h.bk.aig.okW hle) with hb | ⟨g',w',es,T',s',de,yl,jv,cJ,lh,Kt⟩
 ·exact .inl hb
 right
 have hr:∀ sl,runT F.P (crowd gs w sl) i=(.next (crowd ((gs.map (Conc.woken F.P g g' w')).setIfInBounds i g') w' sl),MemOp.ofEvents i g.frame.fn g.frame.place es):=λ sl=>runT_crowd_go hi (by rw [vH]; exact cJ)
 have fp:((gs.map (Conc.woken F.P g g' w')).setIfInBounds i g').size=gs.size:=by simp
 have Y0:=Z7 h.mem
 have hbw:=K5 h.mem
 have wk:(g'.status = .running∨g'.status = .finished)→(mayWake F.P g=true∧g'.status ≠ .blocked∧g'.status ≠ .waiting)∨(s'.ms≤s.ms∧s'.ws≤s.ws):=λ hs=>by
  rcases de.Ux with hx | hx
  ·exact .inl ⟨amA hx,by rcases hs with e | e <;> rw [e] <;> simp,by rcases hs with e | e <;> rw [e] <;> simp⟩
  ·exact .inr hx
 have other:∀ (x1:Option Th) (x2:Bool) (x3:Nat),∀ j,j≠i→fD th i x1 j=th j∧nh mu i x2 j=mu j∧fS dd i x3 j=dd j:=λ x1 x2 x3 j hj=>⟨dT hj,Ug hj,rz hj⟩
 have Lq:nh mu i (mu i)=mu:=by funext j; unfold nh; split <;> simp [*]
 by_cases hq:T' = .quit
 ·
  subst hq
  obtain ⟨q,hq⟩:=Kt
  have yd:(T = .d1∨T = .d4):=de.inv.2.2 rfl
  have hjJ:j=F.J:=by rcases yd with rfl | rfl <;> exact oj
  have amB:mu i=true:=by rw [da]; rcases yd with rfl | rfl <;> rfl
  have hd1:dd i=1:=by rw [ju]; rcases yd with rfl | rfl <;> rfl
  have jq:oW F es:=by rcases yd with rfl | rfl <;> exact jv
  obtain ⟨lZ,mT⟩:=h.bk.quit hd bJ de hjJ (by rcases yd with rfl | rfl <;> rfl)
  have eE:(cnt (cj D i .no) gs.size).hl=(cnt D gs.size).hl:=by
   have:=(tH (D:=D) bJ .no).hl
   rw [hd] at this
   rcases yd with rfl | rfl <;> simpa [cA,cW,Cn.busy,Cn.zero] using this
  have l9:=(cM.N7 (fn:=g.frame.fn) (pos:=g.frame.place) h.mem h.tr hy jq (.inr (by omega))).die amB
  rw [← lh.size] at l9
  refine ⟨_,_,_,_,lM m i (some (qg q)),js,s',fD th i none,nh mu i (mu i),fS dd i (dd i),hr,fp,h.rv hi (wk hq.status) (Nat.le_of_lt mT) (by rw [eE]; exact eT.drop (h.mem.put lh)) (by rw [eE,Lq,lO]; exact l9) ?_ (other _ _ _) lZ,by rw [fp]; exact mT⟩
  rw [eR,rA,hd1]
  exact ⟨rfl,hF,q,rfl,hq⟩
 by_cases Gf:T = .la
 ·
  subst Gf
  cases de
  obtain ⟨T2,r8⟩:=Kt js ok
  obtain ⟨lZ,mT⟩:=h.bk.work (T':=.ul js) hd bJ .la trivial rfl rfl (by simp)
  have Kr:=lZ.rf
  have vI:MM F Q (cj D i (.wk k j (.ul js))) s gs.size≤n':=by omega
  have Kq:(cnt D gs.size).hl=0:=by
   have:=h.bk.qG.ow; have:=h.bk.qG.l1
   have:=hle.ow
   simp only [cA,cW,Cn.busy,Cn.zero] at this
   omega
  have se:(cnt (cj D i (.wk k j (.ul js))) gs.size).hl=1:=by
   have:=(tH (D:=D) bJ (.wk k j (.ul js))).hl
   rw [hd] at this
   simp only [cA,cW,Cn.busy,Cn.zero] at this
   omega
  have e1:es=said (.acquire (am F)):=jv
  subst e1
  have hm:=h.mem
  have ht:=h.tr
  rw [Kq] at hm ht
  have pj:dd i=0:=by rw [ju]; rfl
  have l9:=cM.acquire (b:=F.bo) (o:=F.cont js) (y:=⟨i,g.frame.fn,g.frame.place,.mark (.acquire (am F))⟩) ht hy rfl rfl pj Y0
  rw [← lh.size,← HV] at l9
  refine ⟨_,_,_,_,lM m i (some T2),js,s,fD th i (some ⟨R,(F.bo,F.cont js)::H⟩),nh mu i (mu i),fS dd i 0,hr,fp,h.rv hi (wk (.inl (r8.Bq λ R H g hg=>(KW.run hg (by omega) trivial).1))) (Nat.le_of_lt mT) (by rw [se]; exact eT.take (hm.put lh) hy (by omega)) (by rw [se,Lq,show fS dd i 0=dd by rw [← pj]; exact lO _ _]; exact l9) ?_ (other _ _ _) lZ,by rw [fp]; exact mT⟩
  rw [eR,rA,L9,da]
  exact ⟨hF,rfl,rfl,_,n',rfl,vI,.inl ⟨T2,rfl,r8⟩⟩
 by_cases Zr:gg T=true
 ·
  cases T with
  | ur ZJ =>
   have hjj:ZJ=js:=oh
   subst hjj
   cases de
   obtain ⟨js1,H',e1,e2,T2,r8⟩:=Kt
   cases e1
   subst e2
   obtain ⟨lZ,mT⟩:=h.bk.ur hd bJ
   have Kr:=lZ.rf
   have vI:MM F Q (cj D i (.wk k (j+1) .ud)) s gs.size≤n':=by omega
   have se:(cnt D gs.size).hl≠0:=by
    have:=hle.hl
    simp only [cA,cW,Cn.busy,Cn.zero] at this
    omega
   have Kq:(cnt (cj D i (.wk k (j+1) .ud)) gs.size).hl=0:=by
    have:=(tH (D:=D) bJ (.wk k (j+1) .ud)).hl
    rw [hd] at this
    simp only [cA,cW,Cn.busy,Cn.zero] at this
    have:=h.bk.qG.ow; have:=h.bk.qG.l1
    omega
   have e1:es=said (.releaseMerge (am F)):=jv
   subst e1
   have pj:dd i=0:=by rw [ju]; rfl
   have ht:=h.tr
   rw [show pe F (cnt D gs.size).hl=none by simp [pe,se]] at ht
   have l9:=cM.release (H':=H') (y:=⟨i,g.frame.fn,g.frame.place,.mark (.releaseMerge (am F))⟩) ht hy (List.mem_cons_self) (λ x hx=>List.mem_cons_of_mem _ hx) rfl rfl pj Y0
   rw [← lh.size,← HV] at l9
   refine ⟨_,_,_,_,lM m i (some T2),fS ZJ k (j+1),s,fD th i (some ⟨R,H'⟩),nh mu i (mu i),fS dd i 0,hr,fp,h.rv hi (wk (.inl (r8.Bq λ R H g hg=>(KW.run hg (by omega) trivial).1))) (Nat.le_of_lt mT) (by rw [Kq]; exact eT.ajF (h.mem.put lh) se hy) (by rw [Kq,Lq,show fS dd i 0=dd by rw [← pj]; exact lO _ _]; exact l9) ?_ (other _ _ _) lZ,by rw [fp]; exact mT⟩
   rw [eR,rA,L9,da]
   exact ⟨hF,rfl,rfl,_,n',rfl,vI,.inl ⟨T2,rfl,r8⟩⟩
  | _=>cases Zr
 have KE:gg T=false:=by simpa using Zr
 have R5:yF js T':=by
  cases de
  case la=>exact absurd rfl Gf
  case ul=>exact oh
  case r0=>exact Lx _
  case r1=>exact Lx _
  case r3=>exact Lx _
  case wC=>exact Lx _
  case wK=>exact avu _
  case vt c _ _=>cases c.ws <;> trivial
  case s1 c _ _=>cases c.sv <;> trivial
  case wL=>exact aaG _
  case ux=>exact aaG _
  all_goals trivial
 obtain ⟨lZ,mT⟩:=h.bk.work hd bJ de yl R5 KE hq
 have Kr:=lZ.rf
 have vI:MM F Q (cj D i (.wk k j T')) s' gs.size≤n':=by omega
 have yj:=avn de Gf KE hq Kt
 have oT':pv F.N T':=by
  have:=lZ.mf i k j T' (iZ _ _ _)
  exact this.1
 have eE:(cnt (cj D i (.wk k j T')) gs.size).hl=(cnt D gs.size).hl:=by
  have:=(tH (D:=D) bJ (.wk k j T')).hl
  rw [hd] at this
  have e:(cW T').hl=(cW T).hl:=by
   cases de
   case la=>exact absurd rfl Gf
   case ur=>cases KE
   case r0=>rw [qL]; rfl
   case r1=>rw [qL]; rfl
   case r3=>rw [qL]; rfl
   case wC=>rw [qL]; rfl
   case wK=>rw [OJ]; rfl
   case vt c _ _=>cases c.ws <;> rfl
   case s1 c _ _=>cases c.sv <;> rfl
   case H7 c _=>generalize (c.sv && _)=b; cases b <;> rfl
   case a1 b=>cases b <;> rfl
   case wL=>unfold hu; split <;> rfl
   case ux=>unfold hu; split <;> rfl
   all_goals rfl
  simp only [cA] at this
  omega
 have P7:g'.status = .running:=by
  cases hm:jF T' with
  | true =>
   simp only [hm,if_true] at yj
   obtain ⟨q,hq⟩:=yj
   exact hq.run λ g hg=>(hg.run (by omega) oT').1
  | false =>
   simp only [hm,Bool.false_eq_true,if_false] at yj
   obtain ⟨T2,r8⟩:=yj
   exact r8.Bq λ R H g hg=>(KW.run hg (by omega) oT').1
 obtain ⟨m',QE⟩:∃ m',oY F (MM F Q (cj D i (.wk k j T')) s' gs.size) s' i m' (some ⟨R,H⟩) (jF T') (nA T') g' (.wk k j T'):=by
  cases hm:jF T' with
  | true =>
   simp only [hm,if_true] at yj
   obtain ⟨q,hq⟩:=yj
   exact ⟨some (qg q),hF,rfl,hm.symm,_,n',rfl,vI,by rw [if_pos hm]; exact ⟨q,rfl,hq⟩⟩
  | false =>
   simp only [hm,Bool.false_eq_true,if_false] at yj
   obtain ⟨T2,r8⟩:=yj
   exact ⟨some T2,hF,rfl,hm.symm,_,n',rfl,vI,by rw [if_neg (by simp [hm])]; exact .inl ⟨T2,rfl,r8⟩⟩
 have l9:cM (some (am F)) (some (aw F)) th (nh mu i (jF T')) (fS dd i (nA T')) [F.bm,F.bw] (pe F (cnt D gs.size).hl) w.heap.size (t++MemOp.ofEvents i g.frame.fn g.frame.place es):=by
  by_cases ua:T = .wr
  ·subst ua
   cases de
   have e1:es=said (.releaseMerge (aw F)):=jv
   subst e1
   have pj:dd i=0:=by rw [ju]; rfl
   have:=cM.ayF (y:=⟨i,g.frame.fn,g.frame.place,.mark (.releaseMerge (aw F))⟩) (i:=i) h.tr rfl rfl pj hbw
   rw [show fS dd i (nA .wk)=dd by rw [show nA .wk=dd i from pj.symm]; exact lO _ _,HV]
   exact this
  ·have Tn:jF T'=jF T→nh mu i (jF T')=mu:=λ e=>by rw [e,← da]; exact Lq
   cases evK de jv Gf KE ua hq with
   | «at» ha e1 e2 =>
    rw [Tn e2,e1,← ju,lO]
    refine cM.N7 h.mem h.tr hy ha ?_
    rw [da,ju]
    cases de <;> first | exact .inl rfl | exact .inr (Nat.le_refl _) | (cases e1)
   | xQ e1 e2 e3 =>
    have:=cM.word (i:=i) (fn:=g.frame.fn) (pos:=g.frame.place) h.tr (m:=.disable) (.inl rfl)
    rw [Tn e3,e2]
    rwa [show deafBehind (dd i) (said .disable)=1 by rw [ju,e1]; rfl] at this
   | en e1 e2 e3 =>
    have:=cM.word (i:=i) (fn:=g.frame.fn) (pos:=g.frame.place) h.tr (m:=.enable) (.inr rfl)
    rw [Tn e3,e2]
    rwa [show deafBehind (dd i) (said .enable)=0 by rw [ju,e1]; rfl] at this
 rw [← lh.size] at l9
 refine ⟨_,_,_,_,lM m i m',js,s',fD th i (some ⟨R,H⟩),nh mu i (jF T'),fS dd i (nA T'),hr,fp,h.rv hi (wk (.inl P7)) (Nat.le_of_lt mT) (by rw [eE,Br hy]; exact h.mem.put lh) (by rw [eE,Br hy]; exact l9) (by rw [eR,L9,rA]; exact QE) (other _ _ _) lZ,by rw [fp]; exact mT⟩
end
end Go.Lg
namespace Go.Lg
open Go.Conc Go.ConcN
section
variable {F:Fx} {Q:Nat} {T0:Mp} {D:Nat→Ab} {m:Nat→Ms} {js:Nat→Nat} {s s':Sh} {th:Nat→Option Th} {mu:Nat→Bool} {dd:Nat→Nat} {gs:Array Goroutine} {w w':World} {t:Trace} {sl:Option (Nat × Nat)} {i k j:Nat} {g g':Goroutine} {R:av} {H:ai} {hl:Nat} {fn:FuncId} {pos:String}
theorem cM.awT{mk:Mark}(hM:eT F.B th (gd F s js hl) w)(h:cM (some (am F)) (some (aw F)) th mu dd [F.bm,F.bw] (pe F hl) w.heap.size t)(hi:th 0=some ⟨R,H⟩)(hm:mk = .read (pM F)∨mk = .write (pM F))(hc:mu 0=false) :
  cM (some (am F)) (some (aw F)) th mu dd [F.bm,F.bw] (pe F hl) w.heap.size (t++MemOp.ofEvents 0 fn pos (said mk)):=by
 rw [HV]
 have hd:Deaf (t++#[⟨0,fn,pos,.mark mk⟩]) 0=dd 0:=by
  rw [Deaf_push]
  unfold deafStep
  rcases hm with rfl | rfl <;> exact h.deaf 0
 have:=cM.app (u:=#[⟨0,fn,pos,.mark mk⟩]) (n':=w.heap.size) (R':=R) (H':=H) (d':=dd 0) hM rfl (Fv F s js hl) (Fu F s js hl) h hi (λ op an=>by rw [wm an]) (λ op an a ha=>?_) (λ op an=>?_) (λ op an a=>?_) hd (.inl hc) (Nat.le_refl _) (λ _ _ x=>.inl x) (λ _ o x=>.inl ⟨o,x⟩)
 ·rwa [Br hi,lO] at this
 ·rw [wm an] at ha
  refine .inr ⟨F.bw,?_,by simp,.inr ⟨?_,rfl⟩⟩ <;> rcases hm with rfl | rfl <;> (simp only [MemAct.touch?,Option.some.injEq] at ha; subst ha; rfl)
 ·rw [wm an]
  rcases hm with rfl | rfl <;> exact K5 hM
 ·rw [wm an]
  rcases hm with rfl | rfl <;> (intro x; cases x)
theorem oY.mono{μ Iy:Nat}{mm:Ms}{x:Option Th}{b:Bool}{d:Nat}{A:Ab}(h:oY F μ s i mm x b d g A)(hle:Iy≤μ):oY F Iy s i mm x b d g A:=by
 cases A with
 | no=>exact h
 | wk k j T =>
  obtain ⟨h1,h2,h3,y,n,h4,hn,h⟩:=h
  exact ⟨h1,h2,h3,y,n,h4,by omega,h⟩
 | mn T =>
  obtain ⟨h1,h2,h3,y,n,h4,hn,h⟩:=h
  exact ⟨h1,h2,h3,y,n,h4,by omega,h⟩
inductive EL (F:Fx):Mp→Mp→Array Event→Prop
 | at {T T' es}:oW F es→oe T'=oe T→EL F T T' es
 | xQ {T T'}:oe T=0→oe T'=1→EL F T T' (said .disable)
 | en {T T'}:oe T=1→oe T'=0→EL F T T' (said .enable)
 | sd {T T' mk}:oe T'=oe T→mk = .read (pM F)∨mk = .write (pM F)→EL F T T' (said mk)
theorem evN{T T':Mp}(de:fV T s T' s'){es:Array Event}(he:zJ F T es)(h1:T ≠ .wq):EL F T T' es:=by
 cases de
 case ka=>rw [show es=said .disable from he]; exact .xQ rfl rfl
 case wa=>rw [show es=said .disable from he]; exact .xQ rfl rfl
 case ke=>rw [show es=said .enable from he]; exact .en rfl rfl
 case we=>rw [show es=said .enable from he]; exact .en rfl rfl
 case kd=>rw [show es=said (.read (pM F)) from he]; exact .sd rfl (.inl rfl)
 case wW=>rw [show es=said (.write (pM F)) from he]; exact .sd rfl (.inr rfl)
 case wq=>exact absurd rfl h1
 all_goals exact .at he rfl
theorem XB(h:MI F Q T0 D m js s th mu dd gs w t)(hi:gs[0]? = some g):dd 0=oe T0∧mu 0=false:=by
 have:=h.uR 0 g hi
 rw [h.bk.d0] at this
 exact ⟨this.2.1,this.2.2.1⟩
theorem KM.go_{n r:Nat}(h:KM F (n+1) (.go r) R H g):∀ w s,Fits F.B R H w→eZ F s w→pF F.N (.go r) s→∃ g' child,stepG F.P true g w = .spawn g' child w #[]∧Own F.P F.B false (KW F n (F.N - (r+1)) 0 .ld) R [] child∧Own F.P F.B true (KM F n (jV r)) R H g':=h.2.2
theorem KM.wq_{n:Nat}(h:KM F (n+1) .wq R H g):∀ w s,Fits F.B R H w→eZ F s w→pF F.N .wq s→∃ g' w',stepG F.P true g w = .go g' w' (said (.acquire (aw F)))∧bV F s w w'∧∀ js,(∀ k,k < F.N→js k=F.J)→F.mj R ((F.bo,F.cont js)::H) g':=h.2.2
theorem KM.other{n:Nat}{T:Mp}(h:KM F (n+1) T R H g)(h1:∀ r,T ≠ .go r)(h2:T ≠ .wq):∀ w s,Fits F.B R H w→eZ F s w→pF F.N T s→(T = .w3∧s.ws=0∧stepG F.P true g w = .go { g with status:=.blocked } w #[]) ∨
  ∃ g' w' es T' s',fV T s T' s'∧zJ F T es∧stepG F.P true g w = .go g' w' es∧bV F s' w w'∧Own F.P F.B true (KM F n T') R H g':=by
 cases T <;> first | exact absurd rfl (h1 _) | exact absurd rfl h2 | exact h.2.2
theorem MI.main(h:MI F Q T0 D m js s th mu dd gs w t)(hi:gs[0]? = some g){y:Th}(hy:th 0=some y){n:Nat}(hn:MM F Q D s gs.size≤n)(hK:KM F n T0 y.R y.H g)(h2:T0 ≠ .wq) :
  (T0 = .w3∧s.ws=0∧stepG F.P true g w = .go { g with status:=.blocked } w #[]) ∨
  ∃ hZ gM w' ops D' m' gQ s' iX mu' dd',(∀ sl,runT F.P (crowd gs w sl) 0=(.next (crowd gM w' sl),ops))∧MI F Q hZ D' m' gQ s' iX mu' dd' gM w' (t++ops)∧MM F Q D' s' gM.size < MM F Q D s gs.size:=by
 have bJ:=AF hi
 obtain ⟨ju,da⟩:=XB h hi
 have YL:=h.bk.rf
 obtain ⟨n',rfl⟩:∃ n',n=n'+1:=⟨n - 1,by omega⟩
 obtain ⟨R,H⟩:=y
 have hf:=h.mem.fits 0 _ hy
 have bh:=NA h.mem
 have ix:=h.bk.aig.pF
 by_cases h1:∃ r,T0 = .go r
 ·
  right
  obtain ⟨r,rfl⟩:=h1
  obtain ⟨g',child,cJ,⟨T1,hc⟩,⟨T2,hg⟩⟩:=hK.go_ w s hf bh ix
  obtain ⟨lZ,mT⟩:=h.bk.spawn
  have Kr:=lZ.rf
  obtain ⟨o1,o2,o3⟩:=h.out gs.size (Nat.le_refl _)
  have fp:((gs.setIfInBounds 0 g').push child).size=gs.size+1:=by simp
  have hh:(cnt (cj (cj D gs.size (.wk (F.N - (r+1)) 0 .ld)) 0 (.mn (jV r))) (gs.size+1)).hl=(cnt D gs.size).hl:=by
   have:=(Xz (D:=D) h.bk.pos (.mn (jV r)) (.wk (F.N - (r+1)) 0 .ld) rfl (by rw [h.bk.d0]; rfl)).hl
   simpa [cA,cW,Cn.busy,Cn.zero] using this
  have hr:∀ sl,runT F.P (crowd gs w sl) 0=(.next (crowd ((gs.setIfInBounds 0 g').push child) w sl),#[⟨0,g.frame.fn,g.frame.place,.go gs.size⟩,⟨gs.size,child.frame.fn,g.frame.place,.start⟩]):=λ sl=>by
   have:=runT_crowd_spawn (P:=F.P) (sl:=sl) hi (show stepG F.P (0 == 0) g w=_ from cJ)
   rw [this]
   simp [MemOp.ofEvents]
  have pj:dd 0=0:=by rw [ju]; rfl
  have l9:=h.tr.spawn (c:=gs.size) (x:=⟨0,g.frame.fn,g.frame.place,.go gs.size⟩) (y:=⟨gs.size,child.frame.fn,g.frame.place,.start⟩) hy (aT.refl R) o1 ⟨rfl,rfl⟩ ⟨rfl,rfl⟩ pj o3 (by omega) o2
  have l7:=h.mem.add (c:=gs.size) hy (aT.refl R)
  refine ⟨jV r,_,w,_,_,lM (lM m gs.size (some T1)) 0 (some T2),js,s,_,mu,fS dd 0 (oe (jV r)),hr,⟨by rw [fp,hh]; exact l7,?_,λ a x ha=>?_,λ a ha=>?_,by rw [fp]; exact lZ⟩,by rw [fp]; exact mT⟩
  ·rw [fp,hh]
   have:fS dd 0 (oe (jV r))=dd:=by
    rw [show oe (jV r)=dd 0 by rw [pj]; cases r <;> rfl]; exact lO _ _
   rw [this]; exact l9
  ·rw [fp]
   by_cases tR:a=0
   ·subst tR
    rw [Array.getElem?_push,if_neg (by simp; omega),Array.getElem?_setIfInBounds_self_of_lt bJ] at ha
    cases ha
    rw [iZ,Ij,rA,dT (by omega),hy,da]
    exact ⟨rfl,rfl,rfl,_,n',rfl,by omega,.inl ⟨T2,rfl,hg⟩⟩
   ·by_cases Kg:a=gs.size
    ·subst Kg
     rw [Array.getElem?_push,if_pos (by simp)] at ha
     cases ha
     rw [fb (by omega),iZ,Ec (by omega),Ij,rz (by omega),eR,o2,o3]
     exact ⟨by omega,rfl,rfl,_,n',rfl,by omega,by rw [if_neg (by simp [jF])]; exact .inl ⟨T1,rfl,hc⟩⟩
    ·rw [Array.getElem?_push,if_neg (by simp; omega),Array.getElem?_setIfInBounds_ne (by omega)] at ha
     rw [fb tR,fb Kg,Ec tR,Ec Kg,rz tR,dT Kg]
     exact (h.uR a x ha).mono (Nat.le_of_lt mT)
  ·rw [fp] at ha
   rw [dT (by omega),rz (by omega)]
   exact h.out a (by omega)
 have zk:∀ r,T0 ≠ .go r:=λ r e=>h1 ⟨r,e⟩
 rcases hK.other zk h2 w s hf bh ix with hb | ⟨g',w',es,T',s',de,jv,cJ,lh,T2,r8⟩
 ·exact .inl hb
 right
 have als:T' ≠ .fin:=λ e=>by subst e; cases de; exact h2 rfl
 have hr:∀ sl,runT F.P (crowd gs w sl) 0=(.next (crowd ((gs.map (Conc.woken F.P g g' w')).setIfInBounds 0 g') w' sl),MemOp.ofEvents 0 g.frame.fn g.frame.place es):=λ sl=>runT_crowd_go hi (show stepG F.P (0 == 0) g w=_ from cJ)
 have fp:((gs.map (Conc.woken F.P g g' w')).setIfInBounds 0 g').size=gs.size:=by simp
 obtain ⟨lZ,mT⟩:=h.bk.au7 de als
 have Kr:=lZ.rf
 have eE:(cnt (cj D 0 (.mn T')) gs.size).hl=(cnt D gs.size).hl:=by
  have:=(tH (D:=D) bJ (.mn T')).hl
  rw [h.bk.d0] at this
  simpa [cA,Cn.zero] using this
 have l9:cM (some (am F)) (some (aw F)) th mu (fS dd 0 (oe T')) [F.bm,F.bw] (pe F (cnt D gs.size).hl) w.heap.size (t++MemOp.ofEvents 0 g.frame.fn g.frame.place es):=by
  cases evN de jv h2 with
  | «at» ha e1 =>
   rw [e1,← ju,lO]
   exact cM.N7 h.mem h.tr hy ha (.inl da)
  | xQ e1 e2 =>
   have:=cM.word (i:=0) (fn:=g.frame.fn) (pos:=g.frame.place) h.tr (m:=.disable) (.inl rfl)
   rw [e2]
   rwa [show deafBehind (dd 0) (said .disable)=1 by rw [ju,e1]; rfl] at this
  | en e1 e2 =>
   have:=cM.word (i:=0) (fn:=g.frame.fn) (pos:=g.frame.place) h.tr (m:=.enable) (.inr rfl)
   rw [e2]
   rwa [show deafBehind (dd 0) (said .enable)=0 by rw [ju,e1]; rfl] at this
  | sd e1 e2 =>
   rw [e1,← ju,lO]
   exact cM.awT h.mem h.tr hy e2 da
 rw [← lh.size] at l9
 refine ⟨T',_,_,_,_,lM m 0 (some T2),js,s',fD th 0 (some ⟨R,H⟩),nh mu 0 (mu 0),fS dd 0 (oe T'),hr,h.rv hi (.inr de.Ux) (Nat.le_of_lt mT) (by rw [eE,Br hy]; exact h.mem.put lh) ?_ ?_ (λ j hj=>⟨dT hj,Ug hj,rz hj⟩) lZ,by rw [fp]; exact mT⟩
 ·rw [eE,Br hy,show nh mu 0 (mu 0)=mu by funext j; unfold nh; split <;> simp [*]]; exact l9
 ·rw [eR,L9,rA,da]
  exact ⟨rfl,rfl,rfl,_,n',rfl,by omega,.inl ⟨T2,rfl,r8⟩⟩
theorem MI.axE(h:MI F Q .wq D m js s th mu dd gs w t)(hi:gs[0]? = some g){y:Th}(hy:th 0=some y){n:Nat}(hn:MM F Q D s gs.size≤n)(hK:KM F n .wq y.R y.H g) :
  ∃ gM g' w' ops q dd' R' H',(∀ sl,runT F.P (crowd gs w sl) 0=(.next (crowd gM w' sl),ops))∧gM[0]? = some g'∧F.mj R' H' g'∧vi F.P F.B R' H' gM w' (t++ops) q dd':=by
 have bJ:=AF hi
 obtain ⟨ju,da⟩:=XB h hi
 have YL:=h.bk.rf
 obtain ⟨n',rfl⟩:∃ n',n=n'+1:=⟨n - 1,by omega⟩
 obtain ⟨R,H⟩:=y
 obtain ⟨g',w',cJ,lh,qU⟩:=hK.wq_ w s (h.mem.fits 0 _ hy) (NA h.mem) h.bk.aig.pF
 have hwg:=h.bk.aig.wg
 obtain ⟨_,_,_,hlv,hdw,hd4⟩:=hwg
 have heq:=h.bk.aig.eq
 have aFR:(cnt D gs.size).iY=0:=by omega
 have aaD:∀ a k j T,D a ≠ .wk k j T:=λ a k j T e=>by
  have ha:a < gs.size:=by
   apply Classical.byContradiction
   intro hn
   rw [h.bk.out a (by omega)] at e; cases e
  have hle:=zj (D:=D) ha
  rw [e] at hle
  have hq:T ≠ .quit:=λ e'=>by
   have:=(h.bk.mf a k j T e).2.1
   subst e'; exact this
  have e1:=hle.lv
  have e2:=hle.dw
  have e3:=hle.d4
  simp only [cA] at e1 e2 e3
  cases T <;> simp only [cW,Cn.busy,Cn.zero] at e1 e2 e3 <;> first | omega | skip
  case a1 b=>cases b <;> simp only [Bool.false_eq_true,if_false,if_true] at e1 <;> omega
  case quit=>exact hq rfl
 have NZ:∀ a,a≠0→D a = .no:=λ a ha=>by
  cases hd:D a with
  | no=>rfl
  | wk k j T=>exact absurd hd (aaD a k j T)
  | mn T=>exact absurd (h.bk.main a T hd) ha
 have Y6:(cnt D gs.size).hl=0:=by
  have:∀ n,cY n (λ a=>(cA (D a)).hl)=0:=λ n=>by
   have e:cY n (λ a=>(cA (D a)).hl)=cY n (λ _=>0):=Ii λ a _=>by
    by_cases ha:a=0
    ·subst ha; rw [h.bk.d0]; rfl
    ·rw [NZ a ha]; rfl
   rw [e]
   have hz:∀ n,cY n (λ _=>0)=0:=by intro n; induction n with | zero=>rfl | succ n ih=>simp only [cY,ih]
   exact hz n
  exact this _
 have R3:th=only ⟨R,H⟩:=by
  funext a
  unfold only
  split
  ·rename_i e; subst e; exact hy
  ·rename_i e
   rcases Nat.lt_or_ge a gs.size with hl | hg
   ·have:=h.uR a _ (Array.getElem?_eq_getElem hl)
    rw [NZ a e] at this
    exact this.1
   ·exact (h.out a hg).1
 have gE:∀ k,k < F.N→js k=F.J:=λ k hk=>by
  rcases h.bk.done k (by simpa [rem] using hk) with z | ⟨a,j,T,z⟩
  ·exact z
  ·exact absurd z (aaD a k j T)
 have pj:dd 0=0:=by rw [ju]; rfl
 have hm:=h.mem.put lh
 have ht:=h.tr
 rw [Y6,R3] at hm ht
 have zW:F.bo < w.heap.size:=by rw [← lh.size]; exact kP (hm.mS F.bo (F.cont js) (by simp [gd]))
 have l9:=cM.ayr (b:=F.bo) (o:=F.cont js) (y:=⟨0,g.frame.fn,g.frame.place,.mark (.acquire (aw F))⟩) ht zW rfl rfl pj da (K5 h.mem)
 rw [← lh.size,← HV] at l9
 have l7:=eT.take (hl':=1) hm (i:=0) rfl (by omega)
 rw [LB] at l7
 have hr:∀ sl,runT F.P (crowd gs w sl) 0=(.next (crowd ((gs.map (Conc.woken F.P g g' w')).setIfInBounds 0 g') w' sl),MemOp.ofEvents 0 g.frame.fn g.frame.place (said (.acquire (aw F)))):=λ sl=>runT_crowd_go hi (show stepG F.P (0 == 0) g w=_ from cJ)
 have fp:((gs.map (Conc.woken F.P g g' w')).setIfInBounds 0 g').size=gs.size:=by simp
 refine ⟨_,g',w',_,λ a=>match m a with | some T=>Classical.epsilon λ q=>m a=some (qg q)∧∀ x,gs[a]? = some x→QuitsD F.P q (dd a) x | none=>0,dd,R,(F.bo,F.cont js)::H,hr,Array.getElem?_setIfInBounds_self_of_lt (by simpa using bJ),qU js gE,⟨⟨l7.fits,l7.apart,λ c o hc=>(by cases hc),λ c o hc=>(by cases hc)⟩,l9,pj,λ a ha=>(h.out a (by simpa using ha)).2.2,λ a x ha hx=>?_⟩⟩
 rw [Array.getElem?_setIfInBounds_ne (by omega),Array.getElem?_map] at hx
 obtain ⟨z,hz,rfl⟩:=Option.map_eq_some_iff.1 hx
 have hs:=h.uR a z hz
 rw [NZ a (by omega)] at hs
 obtain ⟨_,_,q,hq,hQ⟩:=hs
 rw [woken_quitsD hQ]
 have hex:∃ q,m a=some (qg q)∧∀ x,gs[a]? = some x→QuitsD F.P q (dd a) x:=⟨q,hq,λ x hx=>by rw [hz] at hx; cases hx; exact hQ⟩
 have:=(Classical.epsilon_spec hex).2 z hz
 simp only [hq] at this ⊢
 exact this
def LW(m:Nat→Ms)(gs:Array Goroutine):Nat:=cY gs.size λ a=>if (m a).isNone∧(gs[a]?.map (·.status))=some .running then 1 else 0
def EW(a b:Nat × List Ms × Nat):Prop:=a.1 < b.1∨(a.1=b.1∧(One n8 a.2.1 b.2.1∨(a.2.1=b.2.1∧a.2.2 < b.2.2)))
theorem EW.wf:WellFounded EW:=by
 have key:∀ p l r,Acc EW (p,l,r):=by
  intro p
  induction p using Nat.strongRecOn with
  | ind p ihp =>
   intro l
   induction l using One.wf.induction with
   | _ l SN =>
    intro r
    induction r using Nat.strongRecOn with
    | ind r ihr =>
     refine ⟨_,λ y hy=>?_⟩
     obtain ⟨q,l',r'⟩:=y
     rcases hy with h | ⟨h1,h2 | ⟨h2,h3⟩⟩
     ·exact ihp q h l' r'
     ·simp only at h1; subst h1; exact SN l' h2 r'
     ·simp only at h1 h2; subst h1 h2; exact ihr r' h3
 exact ⟨λ ⟨p,l,r⟩=>key p l r⟩
def DH(F:Fx)(Q:Nat)(D:Nat→Ab)(m:Nat→Ms)(s:Sh)(gs:Array Goroutine):Nat × List Ms × Nat:=(MM F Q D s gs.size,(List.range gs.size).map m,LW m gs)
theorem Tm{m:Nat→Ms}{n i:Nat}{a b:Ms}(hi:i < n)(hb:m i=b)(hl:n8 a b):One n8 ((List.range n).map (lM m i a)) ((List.range n).map m):=by
 have e:(List.range n).map (lM m i a)=((List.range n).map m).set i a:=by
  apply List.ext_getElem?
  intro j
  rw [List.getElem?_set]
  by_cases hj:i=j
  ·subst hj; simp [hi,Ij]
  ·simp only [hj,if_false,List.getElem?_map]
   cases hr:(List.range n)[j]? with
   | none=>rfl
   | some k =>
    have hk:k=j:=by
     obtain ⟨_,h2⟩:=List.getElem?_eq_some_iff.1 hr
     simpa using h2.symm
    subst hk
    simp [Ec (Ne.symm hj)]
 rw [e]
 exact One.set (by simp [hi,hb]) hl
end
end Go.Lg
namespace Go.Lg
open Go.Conc Go.ConcN
theorem Ua{f:Nat→Nat}:∀ {n:Nat},0 < cY n f→∃ i,i < n∧0 < f i
 | n+1,h=>by
  simp only [cY] at h
  rcases Nat.eq_zero_or_pos (f n) with hz | hp
  ·obtain ⟨i,hi,h2⟩:=Ua (n:=n) (f:=f) (by omega)
   exact ⟨i,by omega,h2⟩
  ·exact ⟨n,by omega,hp⟩
section
variable {F:Fx} {Post:Value→World→Prop} {Q:Nat} {T0:Mp} {D:Nat→Ab} {m:Nat→Ms} {js:Nat→Nat} {s s':Sh} {th:Nat→Option Th} {mu:Nat→Bool} {dd:Nat→Nat} {gs:Array Goroutine} {w w':World} {t:Trace} {sl:Option (Nat × Nat)} {i k j:Nat} {g g':Goroutine}
theorem MI.look(h:MI F Q T0 D m js s th mu dd gs w t)(hi:gs[i]? = some g):(g.status = .running)∨(g.status = .finished∧D i = .no)∨(g.status = .blocked∧m i=none∧((∃ k j c,D i = .wk k j (.s1 c)∧s.ms=0)∨(D i = .mn .w3∧s.ws=0))) :=
 (h.uR i g hi).look h.bk.rf (h.mf i)
theorem MI.awake(h:MI F Q T0 D m js s th mu dd gs w t):∀ x∈gs,awake x:=by
 intro x hx
 obtain ⟨i,hi,rfl⟩:=Array.mem_iff_getElem.1 hx
 rcases h.look (Array.getElem?_eq_getElem hi) with e | ⟨e,_⟩ | ⟨e,_⟩
 ·exact awake_of (.inl e)
 ·exact awake_of (.inr (.inr e))
 ·exact awake_of (.inr (.inl e))
theorem MI.abv(h:MI F Q T0 D m js s th mu dd gs w t):∃ (i:Nat) (g:Goroutine),gs[i]? = some g∧g.status = .running:=by
 apply Classical.byContradiction
 intro z9
 have wkr:∀ i,i < gs.size→∀ k j T,D i = .wk k j T→∃ c,T = .s1 c∧s.ms=0:=λ i hi k j T hd=>by
  rcases h.look (Array.getElem?_eq_getElem hi) with e | ⟨_,e⟩ | ⟨_,_,⟨k',j',c,e,hz⟩ | ⟨e,_⟩⟩
  ·exact absurd ⟨i,_,Array.getElem?_eq_getElem hi,e⟩ z9
  ·rw [hd] at e; cases e
  ·rw [hd] at e; cases e; exact ⟨c,rfl,hz⟩
  ·rw [hd] at e; cases e
 have sP:∀ f:Cn→Nat,f .zero=0→(∀ c,f (cW (.s1 c))=0)→cY gs.size (λ i=>f (cA (D i)))=0:=λ f h0 h1=>by
  apply Classical.byContradiction
  intro hp
  obtain ⟨i,hi,qV⟩:=Ua (n:=gs.size) (f:=λ i=>f (cA (D i))) (by omega)
  cases hd:D i with
  | no=>rw [hd] at qV; simp only [cA] at qV; omega
  | mn T=>rw [hd] at qV; simp only [cA] at qV; omega
  | wk k j T =>
   obtain ⟨c,rfl,_⟩:=wkr i hi k j T hd
   rw [hd] at qV; simp only [cA,h1] at qV; omega
 have hw3:T0 = .w3∧s.ws=0:=by
  have hi:=Array.getElem?_eq_getElem h.bk.pos
  rcases h.look hi with e | ⟨_,e⟩ | ⟨_,_,⟨k',j',c,e,hz⟩ | ⟨e,hz⟩⟩
  ·exact absurd ⟨0,_,hi,e⟩ z9
  ·rw [h.bk.d0] at e; cases e
  ·rw [h.bk.d0] at e; cases e
  ·rw [h.bk.d0] at e; cases e; exact ⟨rfl,hz⟩
 obtain ⟨rfl,jT⟩:=hw3
 have hdw:(cnt D gs.size).dw=0:=sP (·.dw) rfl λ _=>rfl
 have hd4:(cnt D gs.size).d4=0:=sP (·.d4) rfl λ _=>rfl
 have lI:(cnt D gs.size).ow=0:=sP (·.ow) rfl λ _=>rfl
 have Y6:(cnt D gs.size).hl=0:=sP (·.hl) rfl λ _=>rfl
 have hpu:(cnt D gs.size).pu=0:=sP (·.pu) rfl λ _=>rfl
 have hpc:(cnt D gs.size).pc=0:=sP (·.pc) rfl λ _=>rfl
 have hal:(cnt D gs.size).al=0:=sP (·.al) rfl λ _=>rfl
 have YY:(cnt D gs.size).a1=0:=sP (·.a1) rfl λ _=>rfl
 have hak:(cnt D gs.size).ak=0:=sP (·.ak) rfl λ _=>rfl
 have hux:(cnt D gs.size).ux=0:=sP (·.ux) rfl λ _=>rfl
 have hwk:(cnt D gs.size).wk=0:=sP (·.wk) rfl λ _=>rfl
 have hlv:0 < (cnt D gs.size).lv:=by
  rcases h.bk.aig.wg with ⟨_,_,_,h4,⟨_,h6⟩ | ⟨h5,_⟩⟩ | ⟨_,_,_,_,h5⟩
  ·omega
  ·omega
  ·omega
 have heq:=h.bk.aig.eq
 unfold Cn.iY at heq
 have hz:0 < (cnt D gs.size).z:=by omega
 obtain ⟨i,hi,qV⟩:=Ua (n:=gs.size) (f:=λ i=>(cA (D i)).z) hz
 have CB:s.ms=0:=by
  cases hd:D i with
  | no=>rw [hd] at qV; simp [cA,Cn.zero] at qV
  | mn T=>rw [hd] at qV; simp [cA,Cn.zero] at qV
  | wk k j T=>exact (wkr i hi k j T hd).choose_spec.2
 have a1:=h.bk.qG.ow
 have a2:=h.bk.qG.md
 have a3:=h.bk.qG.i4
 omega
theorem avb{gs:Array Goroutine}{g:Goroutine}{w:World}:gs.map (Conc.woken F.P g { g with status:=.blocked } w)=gs:=by
 have:Conc.woken F.P g { g with status:=.blocked } w=id:=by funext o; simp [Conc.woken]
 rw [this,Array.map_id]
theorem MI.ghost(h:MI F Q T0 D m js s th mu dd gs w t)(hi:gs[i]? = some g){m':Ms}{x:Th}{R:av}{H:ai}(R3:th i=some ⟨R,H⟩)(hu:fw F.B R H w x.R x.H w)(hs:oY F (MM F Q D s gs.size) s i m' (some x) (mu i) (dd i) g (D i)) :
  MI F Q T0 D (lM m i m') js s (fD th i (some x)) mu dd gs w t:=by
 obtain ⟨hm,ht⟩:=YE h.mem (Fv F s js _) (Fu F s js _) h.tr R3 hu
 have bJ:=AF hi
 refine ⟨hm,ht,λ a y ha=>?_,λ a ha=>?_,h.bk⟩
 ·by_cases e:a=i
  ·subst e
   rw [hi] at ha; cases ha
   rw [Ij,eR]; exact hs
  ·rw [Ec e,dT e]; exact h.uR a y ha
 ·rw [dT (by omega)]; exact h.out a ha
theorem MI.av7(qU:F.mj=hU F.P F.B Post):∀ (μ:Nat × List Ms × Nat) (gs:Array Goroutine) (w:World) (sl:Option (Nat × Nat)) (t:Trace) (T0:Mp) (D:Nat→Ab) (m:Nat→Ms) (js:Nat→Nat) (s:Sh) (th:Nat→Option Th) (mu:Nat→Bool) (dd:Nat→Nat),
  MI F Q T0 D m js s th mu dd gs w t→DH F Q D m s gs=μ→∀ i g,gs[i]? = some g→g.status = .running→∀ m0,stepT F.P m0=runT F.P (crowd gs w sl) i→kL F.P Post m0 t:=by
 intro μ
 induction μ using EW.wf.induction with
 | _ μ ih =>
  intro gs w sl t T0 D m js s th mu dd h SL i g hi jS m0 CA
  subst SL
  have bJ:=AF hi
  have next:∀ (gM:Array Goroutine) (w':World) (py:Option (Nat × Nat)) (t':Trace) (hZ:Mp) (D':Nat→Ab) (m':Nat→Ms) (gQ:Nat→Nat) (s':Sh) (iX:Nat→Option Th) (mu':Nat→Bool) (dd':Nat→Nat),MI F Q hZ D' m' gQ s' iX mu' dd' gM w' t' →
    EW (DH F Q D' m' s' gM) (DH F Q D m s gs)→kL F.P Post (crowd gM w' py) t':=by
   intro gM w' py t' hZ D' m' gQ s' iX mu' dd' h' hl
   obtain ⟨a,ga,d,TX,ha,Ac,cJ⟩:=crowd_pick (P:=F.P) (gs:=gM) (w:=w') (sl:=py) h'.awake h'.abv
   exact ih _ hl gM (w'.at d) TX t' hZ D' m' gQ s' iX mu' dd' (h'.at d) rfl a ga ha Ac _ cJ
  have hs:=h.uR i g hi
  have go:∀ (m':Ms) (x:Option Th) (d':Nat) (g':Goroutine) (w':World) (es:Array Event),stepG F.P (i == 0) g w = .go g' w' es→eT F.B (fD th i x) (gd F s js (cnt D gs.size).hl) w' →
    cM (some (am F)) (some (aw F)) (fD th i x) mu (fS dd i d') [F.bm,F.bw] (pe F (cnt D gs.size).hl) w'.heap.size (t++MemOp.ofEvents i g.frame.fn g.frame.place es) →
    oY F (MM F Q D s gs.size) s i m' x (mu i) d' g' (D i)→(n8 m' (m i)∨(m'=m i∧m i=none∧g'={ g with status:=.blocked }))→kL F.P Post m0 t:=by
   intro m' x d' g' w' es cJ hm ht QE CB
   have hr:=runT_crowd_go (P:=F.P) (sl:=sl) hi cJ
   have hP:=h.still hi (m':=m') (iX:=fD th i x) (dd':=fS dd i d') (g':=g') (w':=w') hm ht (by rw [eR,rA]; exact QE) (λ a ha=>⟨dT ha,rz ha⟩)
   refine kL.step (CA.trans hr) (next _ _ _ _ _ _ _ _ _ _ _ _ hP ?_)
   have fp:((gs.map (Conc.woken F.P g g' w')).setIfInBounds i g').size=gs.size:=by simp
   unfold DH
   rw [fp]
   rcases CB with hl | ⟨e1,e2,e3⟩
   ·exact .inr ⟨rfl,.inl (Tm bJ rfl hl)⟩
   ·subst e3
    have em:lM m i m'=m:=by funext a; unfold lM; split <;> simp [*]
    refine .inr ⟨rfl,.inr ⟨by rw [em],?_⟩⟩
    show LW _ _ < LW _ _
    rw [em]
    unfold LW
    rw [fp,avb]
    have:=Bo (f:=λ a=>if (m a).isNone∧(gs[a]?.map (·.status))=some .running then 1 else 0) (g:=λ a=>if (m a).isNone∧(((gs.setIfInBounds i { g with status:=.blocked })[a]?).map (·.status))=some .running then 1 else 0) bJ (λ a ha=>by
     simp only [Array.getElem?_setIfInBounds_ne (Ne.symm ha)])
    simp only [e2,hi,Option.isNone_none,Option.map_some,jS,true_and,if_true,Array.getElem?_setIfInBounds_self_of_lt bJ] at this
    simp at this
    simp
    omega
  have yV:∀ x,th i=x→fD th i x=th:=λ x hx=>Br hx
  have nx:(∃ gM w' ops D' m' gQ s' iX mu' dd',(∀ sl,runT F.P (crowd gs w sl) i=(.next (crowd gM w' sl),ops))∧gM.size=gs.size∧MI F Q T0 D' m' gQ s' iX mu' dd' gM w' (t++ops)∧MM F Q D' s' gM.size < MM F Q D s gs.size)→kL F.P Post m0 t:=by
   rintro ⟨gM,w',ops,D',m',gQ,s',iX,mu',dd',hr,_,hP,hl⟩
   exact kL.step (CA.trans (hr sl)) (next _ _ _ _ _ _ _ _ _ _ _ _ hP (.inl hl))
  cases hd:D i with
  | no =>
   rw [hd] at hs
   obtain ⟨hn,hF,q,hq,hQ⟩:=hs
   have vH:(i == 0)=false:=by simp; omega
   cases q with
   | zero=>rw [hQ.1] at jS; cases jS
   | succ q =>
    rcases hQ with e | ⟨_,g',es,l5,cJ,hQ⟩
    ·rw [e.1] at jS; cases jS
    ·refine go (some (qg q)) none (deafBehind (dd i) es) g' w es (by rw [vH]; exact cJ w) ?_ ?_ ?_ (.inl (by rw [hq]; exact aaz q))
     ·rw [yV _ hn]; exact h.mem
     ·rw [yV _ hn]; exact h.tr.leaves l5
     ·rw [hd]; exact ⟨rfl,hF,q,rfl,hQ⟩
  | wk k j T =>
   rw [hd] at hs
   obtain ⟨hF,ju,da,y,n,hy,hn,hs⟩:=hs
   have vH:(i == 0)=false:=by simp; omega
   have stop:KW F n k j T y.R y.H g→kL F.P Post m0 t:=by
    intro hK
    rcases h.work hi hd hy hn hK with ⟨⟨c,rfl⟩,hz,cJ⟩ | hN
    ·refine go none (some y) (dd i) _ w #[] (by rw [vH]; exact cJ) ?_ ?_ ?_ ?_
     ·rw [yV _ hy]; exact h.mem
     ·rw [yV _ hy,lO,ofEvents_none,Array.append_empty]; exact h.tr
     ·rw [hd]
      have ho:=h.mf i k j _ hd
      have hp:=h.bk.rf
      exact ⟨hF,ju,da,y,n,rfl,hn,by rw [if_neg (by simp [jF])]; exact .inr ⟨rfl,⟨c,rfl⟩,g,hK,jS,(KW.run hK (by omega) ho).2,.inr ⟨rfl,hz⟩⟩⟩
     ·cases hmi:m i with
      | none=>exact .inr ⟨rfl,rfl,rfl⟩
      | some T'=>exact .inl .none
    ·exact nx hN
   by_cases CC:jF T=true
   ·rw [if_pos CC] at hs
    obtain ⟨q,hq,hQ⟩:=hs
    cases q with
    | zero=>exact stop hQ
    | succ q =>
     rcases hQ with hK | ⟨_,g',cJ,hQ⟩
     ·exact stop hK
     ·refine go (some (qg q)) (some y) (dd i) g' w #[] (by rw [vH]; exact cJ w) ?_ ?_ ?_ (.inl (by rw [hq]; exact aaz q))
      ·rw [yV _ hy]; exact h.mem
      ·rw [yV _ hy,lO,ofEvents_none,Array.append_empty]; exact h.tr
      ·rw [hd]; exact ⟨hF,ju,da,y,n,rfl,hn,by rw [if_pos CC]; exact ⟨q,rfl,hQ⟩⟩
   ·rw [if_neg CC] at hs
    have Za:mu i=false:=by rw [da]; simpa using CC
    rcases hs with ⟨Tr,FY,hO⟩ | ⟨hm,⟨c,rfl⟩,g0,hK,hr0,mW,hg⟩
    ·obtain ⟨ι,f⟩:=Tr
     obtain ⟨R,H⟩:=y
     rcases hO with hK | ⟨_,cJ⟩ | ⟨R',H',a,P8,hO⟩
     ·exact stop hK
     ·obtain ⟨g',w',es,R',H',a,h1,h2,h3,h4⟩:=cJ w (h.mem.fits i _ hy)
      obtain ⟨hm,ht⟩:=HX h.mem (Fv F s js _) (Fu F s js _) h.tr hy (.inl Za) h2 (.inl Za) h3 g.frame.fn g.frame.place
      refine go (some (f a)) (some ⟨R',H'⟩) (dd i) g' w' es (by rw [vH]; exact h1) hm (by rw [lO]; exact ht) ?_ (.inl (by rw [FY]; exact .some (.mk f a)))
      rw [hd]; exact ⟨hF,ju,da,_,n,rfl,hn,by rw [if_neg CC]; exact .inl ⟨f a,rfl,h4⟩⟩
     ·have hP:=h.ghost (x:=⟨R',H'⟩) (m':=some (f a)) hi hy (P8 w (h.mem.fits i _ hy)) (by rw [hd]; exact ⟨hF,ju,da,_,n,rfl,hn,by rw [if_neg CC]; exact .inl ⟨f a,rfl,hO⟩⟩)
      exact ih (DH F Q D (lM m i (some (f a))) s gs) (.inr ⟨rfl,.inl (Tm bJ FY (.some (.mk f a)))⟩) gs w sl t _ _ _ _ _ _ _ _ hP rfl i g hi jS m0 CA
    ·rcases hg with rfl | ⟨rfl,_⟩
     ·exact stop hK
     ·cases jS
  | mn T =>
   have h0:i=0:=h.bk.main i T hd
   subst h0
   have yd:T=T0:=by have:=h.bk.d0; rw [hd] at this; cases this; rfl
   subst yd
   rw [hd] at hs
   obtain ⟨_,ju,da,y,n,hy,hn,hs⟩:=hs
   have stop:KM F n T y.R y.H g→kL F.P Post m0 t:=by
    intro hK
    by_cases Zt:T = .wq
    ·subst Zt
     obtain ⟨gM,g',w',ops,q,dd',R',H',hr,P7,hJ,hA⟩:=h.axE hi hy hn hK
     rw [qU] at hJ
     exact kL.step (CA.trans (hr sl)) (hJ gM w' sl _ q dd' P7 hA)
    ·rcases h.main hi hy hn hK Zt with ⟨rfl,hz,cJ⟩ | ⟨hZ,gM,w',ops,D',m',gQ,s',iX,mu',dd',hr,hP,hl⟩
     ·refine go none (some y) (dd 0) _ w #[] cJ ?_ ?_ ?_ ?_
      ·rw [yV _ hy]; exact h.mem
      ·rw [yV _ hy,lO,ofEvents_none,Array.append_empty]; exact h.tr
      ·rw [hd]
       have hp:=h.bk.rf
       exact ⟨rfl,ju,da,y,n,rfl,hn,.inr ⟨rfl,rfl,g,hK,jS,(KM.run hK (by omega)).2,.inr ⟨rfl,hz⟩⟩⟩
      ·cases hmi:m 0 with
       | none=>exact .inr ⟨rfl,rfl,rfl⟩
       | some T'=>exact .inl .none
     ·exact kL.step (CA.trans (hr sl)) (next _ _ _ _ _ _ _ _ _ _ _ _ hP (.inl hl))
   rcases hs with ⟨Tr,FY,hO⟩ | ⟨hm,rfl,g0,hK,hr0,mW,hg⟩
   ·obtain ⟨ι,f⟩:=Tr
    obtain ⟨R,H⟩:=y
    rcases hO with hK | ⟨_,cJ⟩ | ⟨R',H',a,P8,hO⟩
    ·exact stop hK
    ·obtain ⟨g',w',es,R',H',a,h1,h2,h3,h4⟩:=cJ w (h.mem.fits 0 _ hy)
     obtain ⟨hm,ht⟩:=HX h.mem (Fv F s js _) (Fu F s js _) h.tr hy (.inl da) h2 (.inl da) h3 g.frame.fn g.frame.place
     refine go (some (f a)) (some ⟨R',H'⟩) (dd 0) g' w' es h1 hm (by rw [lO]; exact ht) ?_ (.inl (by rw [FY]; exact .some (.mk f a)))
     rw [hd]; exact ⟨rfl,ju,da,_,n,rfl,hn,.inl ⟨f a,rfl,h4⟩⟩
    ·have hP:=h.ghost (x:=⟨R',H'⟩) (m':=some (f a)) hi hy (P8 w (h.mem.fits 0 _ hy)) (by rw [hd]; exact ⟨rfl,ju,da,_,n,rfl,hn,.inl ⟨f a,rfl,hO⟩⟩)
     exact ih (DH F Q D (lM m 0 (some (f a))) s gs) (.inr ⟨rfl,.inl (Tm bJ FY (.some (.mk f a)))⟩) gs w sl t _ _ _ _ _ _ _ _ hP rfl 0 g hi jS m0 CA
   ·rcases hg with rfl | ⟨rfl,_⟩
    ·exact stop hK
    ·cases jS
theorem MI.runs(qU:F.mj=hU F.P F.B Post)(h:MI F Q T0 D m js s th mu dd gs w t):kL F.P Post (crowd gs w sl) t:=by
 obtain ⟨a,ga,d,TX,ha,Ac,cJ⟩:=crowd_pick (P:=F.P) (gs:=gs) (w:=w) (sl:=sl) h.awake h.abv
 exact MI.av7 qU _ gs (w.at d) TX t T0 D m js s th mu dd (h.at d) rfl a ga ha Ac _ cJ
end
end Go.Lg
