/- A mutex that any number of goroutines share; the machine of workers behind a mutex and a wait group: it runs to its end. Conditions: none. -/
import Derived.Test.YtihapemckcdicaaGreatDoorQVLgB
import Derived.Conc.MarkLaws
namespace Go.Lg
structure Wd where
 l:Nat
 w:Nat
 s:Nat
 n:Nat
 deriving DecidableEq
def Wd.val(m:Wd):Int:=m.l+2 * m.w+4 * m.s+8 * m.n
def Wd.ok(N:Nat)(m:Wd):Prop:=m.l≤1∧m.w≤1∧m.s≤1∧m.n≤N
def Wd.zero:Wd:=⟨0,0,0,0⟩
theorem Wd.val_inj{N N':Nat}{a b:Wd}(ha:a.ok N)(hb:b.ok N')(h:a.val=b.val):a=b:=by
 obtain ⟨l,w,s,n⟩:=a
 obtain ⟨l',w',s',n'⟩:=b
 simp only [Wd.ok,Wd.val,Wd.mk.injEq] at *
 omega
structure Sh where
 mu:Wd
 ms:Nat
 v:Nat
 w:Nat
 ws:Nat
structure Lc where
 old:Wd
 aw:Bool
 sv:Bool
 it:Nat
 ws:Bool
inductive Lp
 | ld | l0 | r0 | sq (c:Lc) | c1 (c:Lc) | r1 (c:Lc) | c2 (c:Lc) | r3 (c:Lc) | t1 (c:Lc) | s1 (c:Lc) | t2 (c:Lc) | r2 (c:Lc) | a1 (keep:Bool)
 | le | lc | la | ul (js:Nat→Nat) | uv (js:Nat→Nat) | ur (js:Nat→Nat) | ud | u0 | uc (old:Wd) | ux | us | ue
 | wv | wr | wk | d1 | d2 | d3 | d4 | quit
def hd(c:Lc):Lp:=if c.old.l=1∧c.old.s=0 then .sq c else .c2 c
def nw(c:Lc):Wd:={ l:=if c.old.s=0 then 1 else c.old.l,w:=if c.aw then 0 else c.old.w,s:=if c.sv∧c.old.l=1 then 1 else c.old.s,n:=if c.old.l=1∨c.old.s=1 then c.old.n+1 else c.old.n }
def hu(m:Wd):Lp:=if m.n=0∨m.l=1∨m.w=1∨m.s=1 then .ue else .uc m
def ja(c:Lc):Lp:=if c.aw=false∧c.old.w=0∧c.old.n≠0 then .c1 c else .r1 c
inductive dh:Lp→Sh→Lp→Sh→Prop
 | ld {s}:dh .ld s .l0 s
 | adN {s}:s.mu = .zero→dh .l0 s .le { s with mu:=⟨1,0,0,0⟩ }
 | adM {s}:s.mu ≠ .zero→dh .l0 s .r0 s
 | r0 {s}:dh .r0 s (hd ⟨s.mu,false,false,0,false⟩) s
 | OB {s c}:dh (.sq c) s (.c2 c) s
 | ye {s c}:c.it < 4→dh (.sq c) s (ja c) s
 | Q1 {s c}:s.mu=c.old→dh (.c1 c) s (.r1 { c with aw:=true }) { s with mu:={ c.old with w:=1 } }
 | Q0 {s c}:s.mu≠c.old→dh (.c1 c) s (.r1 c) s
 | r1 {s c}:dh (.r1 c) s (hd { c with old:=s.mu,it:=c.it+1 }) s
 | Q6 {s c}:s.mu=c.old→c.old.l=0→c.old.s=0→dh (.c2 c) s .le { s with mu:=nw c }
 | wO {s c}:s.mu=c.old→(c.old.l=1∨c.old.s=1)→dh (.c2 c) s (if c.ws then .s1 c else .t1 c) { s with mu:=nw c }
 | Q7 {s c}:s.mu≠c.old→dh (.c2 c) s (.r3 c) s
 | r3 {s c}:dh (.r3 c) s (hd { c with old:=s.mu }) s
 | t1 {s c} (b:Bool):dh (.t1 c) s (.s1 { c with ws:=b }) s
 | s1 {s c m}:s.ms=m+1→dh (.s1 c) s (if c.sv then .r2 c else .t2 c) { s with ms:=m }
 | t2 {s c} (b:Bool):dh (.t2 c) s (.r2 { c with sv:=b }) s
 | Kl {s c}:s.mu.s=1→dh (.r2 c) s (.a1 (c.sv && s.mu.n != 1)) s
 | xV {s c}:s.mu.s=0→dh (.r2 c) s (hd { c with old:=s.mu,aw:=true,it:=0 }) s
 | a1 {s b}:dh (.a1 b) s .le { s with mu:=⟨1,s.mu.w,if b then s.mu.s else 0,s.mu.n - 1⟩ }
 | le {s}:dh .le s .lc s
 | lc {s}:dh .lc s .la s
 | la {s js}:dh .la s (.ul js) s
 | ul {s js}:dh (.ul js) s (.uv js) s
 | uv {s js}:dh (.uv js) s (.ur js) s
 | ur {s js}:dh (.ur js) s .ud s
 | ud {s}:dh .ud s .u0 s
 | u0z {s}:s.mu.w=0→s.mu.s=0→s.mu.n=0→dh .u0 s .ue { s with mu:={ s.mu with l:=0 } }
 | yf {s}:¬ (s.mu.w=0∧s.mu.s=0∧s.mu.n=0)→s.mu.s=0→dh .u0 s (hu { s.mu with l:=0 }) { s with mu:={ s.mu with l:=0 } }
 | u0h {s}:s.mu.s=1→dh .u0 s .us { s with mu:={ s.mu with l:=0 } }
 | afT {s m}:s.mu=m→dh (.uc m) s .us { s with mu:={ m with w:=1,n:=m.n - 1 } }
 | XZ {s m}:s.mu≠m→dh (.uc m) s .ux s
 | ux {s}:dh .ux s (hu s.mu) s
 | us {s}:dh .us s .ue { s with ms:=s.ms+1 }
 | OK {s}:dh .ue s .ld s
 | OL {s}:dh .ue s .wv s
 | wv {s}:dh .wv s .wr s
 | wr {s}:dh .wr s .wk s
 | wk {s}:dh .wk s .d1 s
 | HF {s}:(s.v≠1∨s.w=0)→dh .d1 s .quit { s with v:=s.v - 1 }
 | Rl {s}:s.v=1→s.w=1→dh .d1 s .d2 { s with v:=0 }
 | d2 {s}:dh .d2 s .d3 s
 | d3 {s}:dh .d3 s .d4 { s with v:=0,w:=0 }
 | d4 {s}:dh .d4 s .quit { s with ws:=s.ws+1 }
structure Cn where
 ow:Nat
 hl:Nat
 pu:Nat
 pc:Nat
 al:Nat
 z:Nat
 a1:Nat
 ak:Nat
 ux:Nat
 wk:Nat
 lv:Nat
 dw:Nat
 d4:Nat
def sY(c:Lc):Nat:=if c.aw then 1 else 0
def Cn.zero:Cn:=⟨0,0,0,0,0,0,0,0,0,0,0,0,0⟩
def Cn.busy:Cn:={ Cn.zero with wk:=1,lv:=1 }
def cW:Lp→Cn
 | .le | .lc | .la | .ud | .u0=>{ Cn.busy with ow:=1 }
 | .ul _ | .uv _ | .ur _=>{ Cn.busy with hl:=1 }
 | .us=>{ Cn.busy with pu:=1 }
 | .t2 _ | .r2 _=>{ Cn.busy with wk:=0,pc:=1 }
 | .a1 b=>if b then { Cn.busy with wk:=0,ak:=1 } else { Cn.busy with wk:=0,a1:=1 }
 | .sq c | .c1 c | .r1 c | .c2 c | .r3 c=>{ Cn.busy with al:=sY c }
 | .t1 _ | .s1 _=>{ Cn.busy with wk:=0,z:=1 }
 | .uc _ | .ux=>{ Cn.busy with ux:=1 }
 | .d2 | .d3=>{ Cn.zero with wk:=1,dw:=1 }
 | .d4=>{ Cn.zero with wk:=1,d4:=1 }
 | .quit=>Cn.zero
 | _=>Cn.busy
structure Cn.yN (c x y c':Cn):Prop where
 ow:c'.ow+x.ow=c.ow+y.ow
 hl:c'.hl+x.hl=c.hl+y.hl
 pu:c'.pu+x.pu=c.pu+y.pu
 pc:c'.pc+x.pc=c.pc+y.pc
 al:c'.al+x.al=c.al+y.al
 z:c'.z+x.z=c.z+y.z
 a1:c'.a1+x.a1=c.a1+y.a1
 ak:c'.ak+x.ak=c.ak+y.ak
 ux:c'.ux+x.ux=c.ux+y.ux
 wk:c'.wk+x.wk=c.wk+y.wk
 lv:c'.lv+x.lv=c.lv+y.lv
 dw:c'.dw+x.dw=c.dw+y.dw
 d4:c'.d4+x.d4=c.d4+y.d4
structure Cn.Le (x c:Cn):Prop where
 ow:x.ow≤c.ow
 hl:x.hl≤c.hl
 pu:x.pu≤c.pu
 pc:x.pc≤c.pc
 al:x.al≤c.al
 z:x.z≤c.z
 a1:x.a1≤c.a1
 ak:x.ak≤c.ak
 ux:x.ux≤c.ux
 wk:x.wk≤c.wk
 lv:x.lv≤c.lv
 dw:x.dw≤c.dw
 d4:x.d4≤c.d4
structure dg (N:Nat) (c:Cn) (s:Sh):Prop where
 l1:s.mu.l≤1
 w1:s.mu.w≤1
 s1:s.mu.w+s.mu.s≤1
 ow:c.ow+c.hl=s.mu.l
 al:c.al≤s.mu.w
 md:((s.mu.s=0∨s.mu.l=1)∧c.pu+c.pc+c.al+s.ms=s.mu.w∧c.a1+c.ak=0∧s.mu.n+c.pu+s.ms=c.z)∨(s.mu.s=1∧s.mu.l=0∧c.pu+c.pc+c.a1+c.ak+c.al+s.ms=1∧s.mu.n=c.z+c.pc+c.a1+c.ak)
 ak:2 * c.ak≤s.mu.n
 sn:s.mu.s=0∨1≤s.mu.n
 i4:s.mu.l=1∨s.mu.w=1∨s.mu.s=1∨s.mu.n=0∨1≤c.ux
 wN:c.wk+c.z+c.pc+c.a1+c.ak≤N
def qb(N:Nat):Lp→Prop
 | .sq c=>c.old.ok N∧c.it≤4∧(c.sv=true→c.aw=true)∧(c.aw=true→c.old.w=1)∧c.old.l=1∧c.old.s=0
 | .c1 c=>c.old.ok N∧c.it < 4∧c.sv=false∧c.aw=false∧c.old.l=1∧c.old.s=0∧c.old.w=0∧c.old.n≠0
 | .r1 c=>c.old.ok N∧c.it < 4∧(c.sv=true→c.aw=true)
 | .c2 c=>c.old.ok N∧c.it≤4∧(c.sv=true→c.aw=true)∧(c.aw=true→c.old.w=1)
 | .r3 c=>c.old.ok N∧c.it≤4∧(c.sv=true→c.aw=true)
 | .t1 c=>c.ws=false
 | .t2 c=>c.sv=false
 | .uc m=>m.ok N∧m.l=0∧m.w=0∧m.s=0∧m.n≠0
 | _=>True
def CW(N:Nat)(T:Lp)(s:Sh):Prop:=s.mu.ok N∧(match T with
 | .r1 c | .r3 c=>c.aw=true→s.mu.w=1
 | .r2 _=>(s.mu.s=1∧s.mu.l=0∧s.mu.w=0∧s.mu.n≠0)∨(s.mu.s=0∧s.mu.w=1)
 | .a1 b=>s.mu.s=1∧s.mu.l=0∧s.mu.w=0∧s.mu.n≠0∧(b=true→2≤s.mu.n)
 | .u0=>s.mu.l=1
 | .us=>s.ms=0
 | _=>True)
theorem D7{c:Lc}(h:c.aw=true):sY c=1:=by simp [sY,h]
theorem Hi{c:Lc}(h:c.aw=false):sY c=0:=by simp [sY,h]
section
variable {N:Nat} {c c':Cn} {s s':Sh} {T T':Lp}
theorem dg.CW(h:dg N c s)(hle:(cW T).Le c):CW N T s:=by
 obtain ⟨h1,h2,h3,h4,h5,h6,h8,h9,y5,HN⟩:=h
 obtain ⟨e1,e2,e3,e4,e5,e6,e7,e8,e9,eG,eH,dP,eI⟩:=hle
 refine ⟨⟨h1,h2,by omega,by omega⟩,?_⟩
 cases T <;> simp only [cW,Cn.busy,Cn.zero] at * <;> first | trivial | skip
 case r1 c=>intro ha; rw [D7 ha] at e5; omega
 case r3 c=>intro ha; rw [D7 ha] at e5; omega
 case r2 c=>omega
 case a1 b =>
  cases b
  ·simp only [Bool.false_eq_true,if_false] at e7 e8
   exact ⟨by omega,by omega,by omega,by omega,λ hb=>by cases hb⟩
  ·simp only [if_true] at e7 e8
   exact ⟨by omega,by omega,by omega,by omega,λ _=>by omega⟩
 case u0=>omega
 case us=>omega
theorem rE(c:Lc):cW (hd c)={ Cn.busy with al:=sY c }:=by unfold hd; split <;> rfl
theorem Ri(c:Lc):cW (ja c)={ Cn.busy with al:=sY c }:=by unfold ja; split <;> rfl
theorem N7{c:Lc}(h1:c.old.ok N)(h2:c.it≤4)(h3:c.sv=true→c.aw=true)(h4:c.aw=true→c.old.w=1):qb N (hd c):=by
 unfold hd; split
 ·exact ⟨h1,h2,h3,h4,by omega,by omega⟩
 ·exact ⟨h1,h2,h3,h4⟩
set_option maxHeartbeats 2000000 in
theorem dg.step(h:dg N c s)(hT:qb N T)(hle:(cW T).Le c)(du:dh T s T' s')(hc:c.yN (cW T) (cW T') c'):dg N c' s'∧qb N T':=by
 have hS:=h.CW hle
 obtain ⟨h1,h2,h3,h4,h5,h6,h8,h9,y5,HN⟩:=h
 obtain ⟨g1,g2,g3,g4,g5,g6,g7,g8,g9,c8,cK,cL,cM⟩:=hc
 obtain ⟨e1,e2,e3,e4,e5,e6,e7,e8,e9,eG,eH,dP,eI⟩:=hle
 obtain ⟨⟨q1,q2,q3,q4⟩,hS⟩:=hS
 obtain ⟨⟨ml,mw,mz,mn⟩,ms,v,w,ws⟩:=s
 obtain ⟨ow,hl,pu,pc,al',z,a1,ak,ux,wk,lv,dw,d4⟩:=c
 obtain ⟨ej,hl',eu,eo,dZ,z',dX,dY,eA,eB,eg,ee,ed⟩:=c'
 dsimp only at h1 h2 h3 h4 h5 h6 h8 h9 y5 HN g1 g2 g3 g4 g5 g6 g7 g8 g9 c8 cK cL cM e1 e2 e3 e4 e5 e6 e7 e8 e9 eG eH dP eI q1 q2 q3 q4 hS
 cases du with
 | ld =>
  simp only [cW,Cn.busy,Cn.zero] at g1 g2 g3 g4 g5 g6 g7 g8 g9 c8 cK cL cM e1 e2 e3 e4 e5 e6 e7 e8 e9 eG eH dP eI
  exact ⟨(by show dg N ⟨ej,hl',eu,eo,dZ,z',dX,dY,eA,eB,eg,ee,ed⟩ ⟨⟨ml,mw,mz,mn⟩,ms,v,w,ws⟩; constructor <;> dsimp only <;> omega),trivial⟩
 | adN hm =>
  simp only [Wd.zero,Wd.mk.injEq] at hm
  obtain ⟨rfl,rfl,rfl,rfl⟩:=hm
  simp only [cW,Cn.busy,Cn.zero] at g1 g2 g3 g4 g5 g6 g7 g8 g9 c8 cK cL cM e1 e2 e3 e4 e5 e6 e7 e8 e9 eG eH dP eI
  exact ⟨(by show dg N ⟨ej,hl',eu,eo,dZ,z',dX,dY,eA,eB,eg,ee,ed⟩ ⟨⟨1,0,0,0⟩,ms,v,w,ws⟩; constructor <;> dsimp only <;> omega),trivial⟩
 | adM hm =>
  simp only [cW,Cn.busy,Cn.zero] at g1 g2 g3 g4 g5 g6 g7 g8 g9 c8 cK cL cM e1 e2 e3 e4 e5 e6 e7 e8 e9 eG eH dP eI
  exact ⟨(by show dg N ⟨ej,hl',eu,eo,dZ,z',dX,dY,eA,eB,eg,ee,ed⟩ ⟨⟨ml,mw,mz,mn⟩,ms,v,w,ws⟩; constructor <;> dsimp only <;> omega),trivial⟩
 | r0 =>
  simp only [rE] at g1 g2 g3 g4 g5 g6 g7 g8 g9 c8 cK cL cM
  simp only [cW,Cn.busy,Cn.zero] at g1 g2 g3 g4 g5 g6 g7 g8 g9 c8 cK cL cM e1 e2 e3 e4 e5 e6 e7 e8 e9 eG eH dP eI
  rw [Hi rfl] at g5
  exact ⟨(by show dg N ⟨ej,hl',eu,eo,dZ,z',dX,dY,eA,eB,eg,ee,ed⟩ ⟨⟨ml,mw,mz,mn⟩,ms,v,w,ws⟩; constructor <;> dsimp only <;> omega),N7 ⟨q1,q2,q3,q4⟩ (by simp) (by simp) (by simp)⟩
 | @OB _ c =>
  simp only [cW,Cn.busy,Cn.zero] at g1 g2 g3 g4 g5 g6 g7 g8 g9 c8 cK cL cM e1 e2 e3 e4 e5 e6 e7 e8 e9 eG eH dP eI
  exact ⟨(by show dg N ⟨ej,hl',eu,eo,dZ,z',dX,dY,eA,eB,eg,ee,ed⟩ ⟨⟨ml,mw,mz,mn⟩,ms,v,w,ws⟩; constructor <;> dsimp only <;> omega),hT.1,hT.2.1,hT.2.2.1,hT.2.2.2.1⟩
 | @ye _ c hi =>
  obtain ⟨t1,t2,t3,t4,t5,t6⟩:=hT
  simp only [Ri] at g1 g2 g3 g4 g5 g6 g7 g8 g9 c8 cK cL cM
  simp only [cW,Cn.busy,Cn.zero] at g1 g2 g3 g4 g5 g6 g7 g8 g9 c8 cK cL cM e1 e2 e3 e4 e5 e6 e7 e8 e9 eG eH dP eI
  refine ⟨(by show dg N ⟨ej,hl',eu,eo,dZ,z',dX,dY,eA,eB,eg,ee,ed⟩ ⟨⟨ml,mw,mz,mn⟩,ms,v,w,ws⟩; constructor <;> dsimp only <;> omega),?_⟩
  unfold ja; split
  ·rename_i hx
   refine ⟨t1,hi,?_,hx.1,t5,t6,hx.2.1,hx.2.2⟩
   cases Ub:c.sv with
   | false=>rfl
   | true=>rw [t3 Ub] at hx; cases hx.1
  ·exact ⟨t1,hi,t3⟩
 | @Q1 _ c hm =>
  obtain ⟨old,aw,sv,it,wz⟩:=c
  cases hm
  obtain ⟨⟨o1,o2,o3,o4⟩,t2,t3,t4,t5,t6,t7,t8⟩:=hT
  simp only at t2 t3 t4 t5 t6 t7 t8
  subst t4
  simp only [cW,Cn.busy,Cn.zero] at g1 g2 g3 g4 g5 g6 g7 g8 g9 c8 cK cL cM e1 e2 e3 e4 e5 e6 e7 e8 e9 eG eH dP eI
  rw [Hi rfl,D7 rfl] at g5
  rw [Hi rfl] at e5
  exact ⟨(by show dg N ⟨ej,hl',eu,eo,dZ,z',dX,dY,eA,eB,eg,ee,ed⟩ ⟨⟨ml,1,mz,mn⟩,ms,v,w,ws⟩; constructor <;> dsimp only <;> omega),⟨o1,o2,o3,o4⟩,t2,λ _=>rfl⟩
 | @Q0 _ c hm =>
  simp only [cW,Cn.busy,Cn.zero] at g1 g2 g3 g4 g5 g6 g7 g8 g9 c8 cK cL cM e1 e2 e3 e4 e5 e6 e7 e8 e9 eG eH dP eI
  exact ⟨(by show dg N ⟨ej,hl',eu,eo,dZ,z',dX,dY,eA,eB,eg,ee,ed⟩ ⟨⟨ml,mw,mz,mn⟩,ms,v,w,ws⟩; constructor <;> dsimp only <;> omega),hT.1,hT.2.1,λ hx=>by rw [hT.2.2.1] at hx; cases hx⟩
 | @r1 _ c =>
  simp only [rE] at g1 g2 g3 g4 g5 g6 g7 g8 g9 c8 cK cL cM
  simp only [cW,Cn.busy,Cn.zero] at g1 g2 g3 g4 g5 g6 g7 g8 g9 c8 cK cL cM e1 e2 e3 e4 e5 e6 e7 e8 e9 eG eH dP eI
  have ea:sY { c with old:=⟨ml,mw,mz,mn⟩,it:=c.it+1 }=sY c:=rfl
  rw [ea] at g5
  exact ⟨(by show dg N ⟨ej,hl',eu,eo,dZ,z',dX,dY,eA,eB,eg,ee,ed⟩ ⟨⟨ml,mw,mz,mn⟩,ms,v,w,ws⟩; constructor <;> dsimp only <;> omega),N7 ⟨q1,q2,q3,q4⟩ (by have:=hT.2.1; simp only; omega) hT.2.2 hS⟩
 | @Q6 _ c hm hl hs =>
  obtain ⟨old,aw,sv,it,wz⟩:=c
  cases hm
  simp only at hl hs
  subst hl hs
  obtain ⟨⟨o1,o2,o3,o4⟩,t2,t3,t4⟩:=hT
  simp only at t3 t4
  simp only [cW,Cn.busy,Cn.zero] at g1 g2 g3 g4 g5 g6 g7 g8 g9 c8 cK cL cM e1 e2 e3 e4 e5 e6 e7 e8 e9 eG eH dP eI
  have en:nw ⟨⟨0,mw,0,mn⟩,aw,sv,it,wz⟩=⟨1,if aw then 0 else mw,0,mn⟩:=by simp [nw]
  rw [en]
  cases aw
  ·rw [Hi rfl] at g5 e5
   exact ⟨(by show dg N ⟨ej,hl',eu,eo,dZ,z',dX,dY,eA,eB,eg,ee,ed⟩ ⟨⟨1,mw,0,mn⟩,ms,v,w,ws⟩; constructor <;> dsimp only <;> omega),trivial⟩
  ·rw [D7 rfl] at g5 e5
   have:=t4 rfl
   exact ⟨(by show dg N ⟨ej,hl',eu,eo,dZ,z',dX,dY,eA,eB,eg,ee,ed⟩ ⟨⟨1,0,0,mn⟩,ms,v,w,ws⟩; constructor <;> dsimp only <;> omega),trivial⟩
 | @wO _ c hm hq =>
  obtain ⟨old,aw,sv,it,wz⟩:=c
  cases hm
  obtain ⟨⟨o1,o2,o3,o4⟩,t2,t3,t4⟩:=hT
  simp only at t3 t4 hq
  have ez:cW (if wz=true then Lp.s1 ⟨⟨ml,mw,mz,mn⟩,aw,sv,it,wz⟩ else Lp.t1 ⟨⟨ml,mw,mz,mn⟩,aw,sv,it,wz⟩)={ Cn.busy with wk:=0,z:=1 }:=by cases wz <;> rfl
  simp only at g1 g2 g3 g4 g5 g6 g7 g8 g9 c8 cK cL cM
  simp only [ez] at g1 g2 g3 g4 g5 g6 g7 g8 g9 c8 cK cL cM
  simp only [cW,Cn.busy,Cn.zero] at g1 g2 g3 g4 g5 g6 g7 g8 g9 c8 cK cL cM e1 e2 e3 e4 e5 e6 e7 e8 e9 eG eH dP eI
  refine ⟨?_,by cases wz <;> first | rfl | trivial⟩
  cases aw
  ·cases sv
   ·rw [Hi rfl] at g5 e5
    by_cases hz:mz=0
    ·subst hz
     have tz:ml=1:=by omega
     subst tz
     have en:nw ⟨⟨1,mw,0,mn⟩,false,false,it,wz⟩=⟨1,mw,0,mn+1⟩:=by simp [nw]
     rw [en]
     exact (by show dg N ⟨ej,hl',eu,eo,dZ,z',dX,dY,eA,eB,eg,ee,ed⟩ ⟨⟨1,mw,0,mn+1⟩,ms,v,w,ws⟩; constructor <;> dsimp only <;> omega)
    ·have hz1:mz=1:=by omega
     subst hz1
     have en:nw ⟨⟨ml,mw,1,mn⟩,false,false,it,wz⟩=⟨ml,mw,1,mn+1⟩:=by simp [nw]
     rw [en]
     exact (by show dg N ⟨ej,hl',eu,eo,dZ,z',dX,dY,eA,eB,eg,ee,ed⟩ ⟨⟨ml,mw,1,mn+1⟩,ms,v,w,ws⟩; constructor <;> dsimp only <;> omega)
   ·exact absurd (t3 rfl) (by simp)
  ·rw [D7 rfl] at g5 e5
   have hw:=t4 rfl
   have hz:mz=0:=by omega
   have tz:ml=1:=by omega
   subst hz tz hw
   cases sv
   ·have en:nw ⟨⟨1,1,0,mn⟩,true,false,it,wz⟩=⟨1,0,0,mn+1⟩:=by simp [nw]
    rw [en]
    exact (by show dg N ⟨ej,hl',eu,eo,dZ,z',dX,dY,eA,eB,eg,ee,ed⟩ ⟨⟨1,0,0,mn+1⟩,ms,v,w,ws⟩; constructor <;> dsimp only <;> omega)
   ·have en:nw ⟨⟨1,1,0,mn⟩,true,true,it,wz⟩=⟨1,0,1,mn+1⟩:=by simp [nw]
    rw [en]
    exact (by show dg N ⟨ej,hl',eu,eo,dZ,z',dX,dY,eA,eB,eg,ee,ed⟩ ⟨⟨1,0,1,mn+1⟩,ms,v,w,ws⟩; constructor <;> dsimp only <;> omega)
 | @Q7 _ c hm =>
  simp only [cW,Cn.busy,Cn.zero] at g1 g2 g3 g4 g5 g6 g7 g8 g9 c8 cK cL cM e1 e2 e3 e4 e5 e6 e7 e8 e9 eG eH dP eI
  exact ⟨(by show dg N ⟨ej,hl',eu,eo,dZ,z',dX,dY,eA,eB,eg,ee,ed⟩ ⟨⟨ml,mw,mz,mn⟩,ms,v,w,ws⟩; constructor <;> dsimp only <;> omega),hT.1,hT.2.1,hT.2.2.1⟩
 | @r3 _ c =>
  simp only [rE] at g1 g2 g3 g4 g5 g6 g7 g8 g9 c8 cK cL cM
  simp only [cW,Cn.busy,Cn.zero] at g1 g2 g3 g4 g5 g6 g7 g8 g9 c8 cK cL cM e1 e2 e3 e4 e5 e6 e7 e8 e9 eG eH dP eI
  have ea:sY { c with old:=⟨ml,mw,mz,mn⟩ }=sY c:=rfl
  rw [ea] at g5
  exact ⟨(by show dg N ⟨ej,hl',eu,eo,dZ,z',dX,dY,eA,eB,eg,ee,ed⟩ ⟨⟨ml,mw,mz,mn⟩,ms,v,w,ws⟩; constructor <;> dsimp only <;> omega),N7 ⟨q1,q2,q3,q4⟩ hT.2.1 hT.2.2 hS⟩
 | @t1 _ c b =>
  simp only [cW,Cn.busy,Cn.zero] at g1 g2 g3 g4 g5 g6 g7 g8 g9 c8 cK cL cM e1 e2 e3 e4 e5 e6 e7 e8 e9 eG eH dP eI
  exact ⟨(by show dg N ⟨ej,hl',eu,eo,dZ,z',dX,dY,eA,eB,eg,ee,ed⟩ ⟨⟨ml,mw,mz,mn⟩,ms,v,w,ws⟩; constructor <;> dsimp only <;> omega),trivial⟩
 | @s1 _ c m hm =>
  have ez:cW (if c.sv=true then Lp.r2 c else Lp.t2 c)={ Cn.busy with wk:=0,pc:=1 }:=by cases c.sv <;> rfl
  simp only at hm
  simp only [ez] at g1 g2 g3 g4 g5 g6 g7 g8 g9 c8 cK cL cM
  simp only [cW,Cn.busy,Cn.zero] at g1 g2 g3 g4 g5 g6 g7 g8 g9 c8 cK cL cM e1 e2 e3 e4 e5 e6 e7 e8 e9 eG eH dP eI
  refine ⟨(by show dg N ⟨ej,hl',eu,eo,dZ,z',dX,dY,eA,eB,eg,ee,ed⟩ ⟨⟨ml,mw,mz,mn⟩,m,v,w,ws⟩; constructor <;> dsimp only <;> omega),?_⟩
  cases Ub:c.sv with
  | false=>exact Ub
  | true=>trivial
 | @t2 _ c b =>
  simp only [cW,Cn.busy,Cn.zero] at g1 g2 g3 g4 g5 g6 g7 g8 g9 c8 cK cL cM e1 e2 e3 e4 e5 e6 e7 e8 e9 eG eH dP eI
  exact ⟨(by show dg N ⟨ej,hl',eu,eo,dZ,z',dX,dY,eA,eB,eg,ee,ed⟩ ⟨⟨ml,mw,mz,mn⟩,ms,v,w,ws⟩; constructor <;> dsimp only <;> omega),trivial⟩
 | @Kl _ c hm =>
  simp only at hm; subst hm
  simp only [cW,Cn.busy,Cn.zero] at g1 g2 g3 g4 g5 g6 g7 g8 g9 c8 cK cL cM e1 e2 e3 e4 e5 e6 e7 e8 e9 eG eH dP eI
  refine ⟨?_,trivial⟩
  cases hb:(c.sv && mn != 1) with
  | false =>
   simp only [hb,Bool.false_eq_true,if_false] at g1 g2 g3 g4 g5 g6 g7 g8 g9 c8 cK cL cM
   exact (by show dg N ⟨ej,hl',eu,eo,dZ,z',dX,dY,eA,eB,eg,ee,ed⟩ ⟨⟨ml,mw,1,mn⟩,ms,v,w,ws⟩; constructor <;> dsimp only <;> omega)
  | true =>
   have hn1:mn≠1:=by simp at hb; exact hb.2
   simp only [hb,if_true] at g1 g2 g3 g4 g5 g6 g7 g8 g9 c8 cK cL cM
   exact (by show dg N ⟨ej,hl',eu,eo,dZ,z',dX,dY,eA,eB,eg,ee,ed⟩ ⟨⟨ml,mw,1,mn⟩,ms,v,w,ws⟩; constructor <;> dsimp only <;> omega)
 | @xV _ c hm =>
  simp only at hm; subst hm
  simp only [rE] at g1 g2 g3 g4 g5 g6 g7 g8 g9 c8 cK cL cM
  simp only [cW,Cn.busy,Cn.zero] at g1 g2 g3 g4 g5 g6 g7 g8 g9 c8 cK cL cM e1 e2 e3 e4 e5 e6 e7 e8 e9 eG eH dP eI
  rw [D7 rfl] at g5
  exact ⟨(by show dg N ⟨ej,hl',eu,eo,dZ,z',dX,dY,eA,eB,eg,ee,ed⟩ ⟨⟨ml,mw,0,mn⟩,ms,v,w,ws⟩; constructor <;> dsimp only <;> omega),N7 ⟨q1,q2,q3,q4⟩ (by simp) (λ _=>rfl) (λ _=>by simp only; omega)⟩
 | @a1 _ b =>
  obtain ⟨r1,r2,r3,r4,r5⟩:=hS
  subst r1 r2 r3
  simp only [cW,Cn.busy,Cn.zero] at g1 g2 g3 g4 g5 g6 g7 g8 g9 c8 cK cL cM e1 e2 e3 e4 e5 e6 e7 e8 e9 eG eH dP eI
  cases b
  ·simp only [Bool.false_eq_true,if_false] at g1 g2 g3 g4 g5 g6 g7 g8 g9 c8 cK cL cM e1 e2 e3 e4 e5 e6 e7 e8 e9 eG eH dP eI
   exact ⟨(by show dg N ⟨ej,hl',eu,eo,dZ,z',dX,dY,eA,eB,eg,ee,ed⟩ ⟨⟨1,0,0,mn - 1⟩,ms,v,w,ws⟩; constructor <;> dsimp only <;> omega),trivial⟩
  ·simp only [if_true] at g1 g2 g3 g4 g5 g6 g7 g8 g9 c8 cK cL cM e1 e2 e3 e4 e5 e6 e7 e8 e9 eG eH dP eI
   exact ⟨(by show dg N ⟨ej,hl',eu,eo,dZ,z',dX,dY,eA,eB,eg,ee,ed⟩ ⟨⟨1,0,1,mn - 1⟩,ms,v,w,ws⟩; constructor <;> dsimp only <;> omega),trivial⟩
 | le =>
  simp only [cW,Cn.busy,Cn.zero] at g1 g2 g3 g4 g5 g6 g7 g8 g9 c8 cK cL cM e1 e2 e3 e4 e5 e6 e7 e8 e9 eG eH dP eI
  exact ⟨(by show dg N ⟨ej,hl',eu,eo,dZ,z',dX,dY,eA,eB,eg,ee,ed⟩ ⟨⟨ml,mw,mz,mn⟩,ms,v,w,ws⟩; constructor <;> dsimp only <;> omega),trivial⟩
 | lc =>
  simp only [cW,Cn.busy,Cn.zero] at g1 g2 g3 g4 g5 g6 g7 g8 g9 c8 cK cL cM e1 e2 e3 e4 e5 e6 e7 e8 e9 eG eH dP eI
  exact ⟨(by show dg N ⟨ej,hl',eu,eo,dZ,z',dX,dY,eA,eB,eg,ee,ed⟩ ⟨⟨ml,mw,mz,mn⟩,ms,v,w,ws⟩; constructor <;> dsimp only <;> omega),trivial⟩
 | la =>
  simp only [cW,Cn.busy,Cn.zero] at g1 g2 g3 g4 g5 g6 g7 g8 g9 c8 cK cL cM e1 e2 e3 e4 e5 e6 e7 e8 e9 eG eH dP eI
  exact ⟨(by show dg N ⟨ej,hl',eu,eo,dZ,z',dX,dY,eA,eB,eg,ee,ed⟩ ⟨⟨ml,mw,mz,mn⟩,ms,v,w,ws⟩; constructor <;> dsimp only <;> omega),trivial⟩
 | ul =>
  simp only [cW,Cn.busy,Cn.zero] at g1 g2 g3 g4 g5 g6 g7 g8 g9 c8 cK cL cM e1 e2 e3 e4 e5 e6 e7 e8 e9 eG eH dP eI
  exact ⟨(by show dg N ⟨ej,hl',eu,eo,dZ,z',dX,dY,eA,eB,eg,ee,ed⟩ ⟨⟨ml,mw,mz,mn⟩,ms,v,w,ws⟩; constructor <;> dsimp only <;> omega),trivial⟩
 | uv =>
  simp only [cW,Cn.busy,Cn.zero] at g1 g2 g3 g4 g5 g6 g7 g8 g9 c8 cK cL cM e1 e2 e3 e4 e5 e6 e7 e8 e9 eG eH dP eI
  exact ⟨(by show dg N ⟨ej,hl',eu,eo,dZ,z',dX,dY,eA,eB,eg,ee,ed⟩ ⟨⟨ml,mw,mz,mn⟩,ms,v,w,ws⟩; constructor <;> dsimp only <;> omega),trivial⟩
 | ur =>
  simp only [cW,Cn.busy,Cn.zero] at g1 g2 g3 g4 g5 g6 g7 g8 g9 c8 cK cL cM e1 e2 e3 e4 e5 e6 e7 e8 e9 eG eH dP eI
  exact ⟨(by show dg N ⟨ej,hl',eu,eo,dZ,z',dX,dY,eA,eB,eg,ee,ed⟩ ⟨⟨ml,mw,mz,mn⟩,ms,v,w,ws⟩; constructor <;> dsimp only <;> omega),trivial⟩
 | ud =>
  simp only [cW,Cn.busy,Cn.zero] at g1 g2 g3 g4 g5 g6 g7 g8 g9 c8 cK cL cM e1 e2 e3 e4 e5 e6 e7 e8 e9 eG eH dP eI
  exact ⟨(by show dg N ⟨ej,hl',eu,eo,dZ,z',dX,dY,eA,eB,eg,ee,ed⟩ ⟨⟨ml,mw,mz,mn⟩,ms,v,w,ws⟩; constructor <;> dsimp only <;> omega),trivial⟩
 | u0z a b d =>
  simp only at a b d; subst a b d
  simp only [cW,Cn.busy,Cn.zero] at g1 g2 g3 g4 g5 g6 g7 g8 g9 c8 cK cL cM e1 e2 e3 e4 e5 e6 e7 e8 e9 eG eH dP eI
  exact ⟨(by show dg N ⟨ej,hl',eu,eo,dZ,z',dX,dY,eA,eB,eg,ee,ed⟩ ⟨⟨0,0,0,0⟩,ms,v,w,ws⟩; constructor <;> dsimp only <;> omega),trivial⟩
 | yf a b =>
  simp only at a b; subst b
  by_cases hx:mn=0∨(0:Nat)=1∨mw=1∨(0:Nat)=1
  ·have eh:hu ⟨0,mw,0,mn⟩ = .ue:=by simp only [hu,hx,if_true]
   simp only [eh] at g1 g2 g3 g4 g5 g6 g7 g8 g9 c8 cK cL cM
   simp only [cW,Cn.busy,Cn.zero] at g1 g2 g3 g4 g5 g6 g7 g8 g9 c8 cK cL cM e1 e2 e3 e4 e5 e6 e7 e8 e9 eG eH dP eI
   rw [eh]
   exact ⟨(by show dg N ⟨ej,hl',eu,eo,dZ,z',dX,dY,eA,eB,eg,ee,ed⟩ ⟨⟨0,mw,0,mn⟩,ms,v,w,ws⟩; constructor <;> dsimp only <;> omega),trivial⟩
  ·have eh:hu ⟨0,mw,0,mn⟩ = .uc ⟨0,mw,0,mn⟩:=by simp only [hu,hx,if_false]
   simp only [eh] at g1 g2 g3 g4 g5 g6 g7 g8 g9 c8 cK cL cM
   simp only [cW,Cn.busy,Cn.zero] at g1 g2 g3 g4 g5 g6 g7 g8 g9 c8 cK cL cM e1 e2 e3 e4 e5 e6 e7 e8 e9 eG eH dP eI
   rw [eh]
   exact ⟨(by show dg N ⟨ej,hl',eu,eo,dZ,z',dX,dY,eA,eB,eg,ee,ed⟩ ⟨⟨0,mw,0,mn⟩,ms,v,w,ws⟩; constructor <;> dsimp only <;> omega),⟨by simp,q2,by simp,q4⟩,rfl,by simp only; omega,rfl,by simp only; omega⟩
 | u0h a =>
  simp only at a; subst a
  simp only [cW,Cn.busy,Cn.zero] at g1 g2 g3 g4 g5 g6 g7 g8 g9 c8 cK cL cM e1 e2 e3 e4 e5 e6 e7 e8 e9 eG eH dP eI
  exact ⟨(by show dg N ⟨ej,hl',eu,eo,dZ,z',dX,dY,eA,eB,eg,ee,ed⟩ ⟨⟨0,mw,1,mn⟩,ms,v,w,ws⟩; constructor <;> dsimp only <;> omega),trivial⟩
 | afT a =>
  cases a
  obtain ⟨⟨o1,o2,o3,o4⟩,t2,t3,t4,t5⟩:=hT
  simp only at t2 t3 t4 t5
  subst t2 t3 t4
  simp only [cW,Cn.busy,Cn.zero] at g1 g2 g3 g4 g5 g6 g7 g8 g9 c8 cK cL cM e1 e2 e3 e4 e5 e6 e7 e8 e9 eG eH dP eI
  exact ⟨(by show dg N ⟨ej,hl',eu,eo,dZ,z',dX,dY,eA,eB,eg,ee,ed⟩ ⟨⟨0,1,0,mn - 1⟩,ms,v,w,ws⟩; constructor <;> dsimp only <;> omega),trivial⟩
 | XZ a =>
  simp only [cW,Cn.busy,Cn.zero] at g1 g2 g3 g4 g5 g6 g7 g8 g9 c8 cK cL cM e1 e2 e3 e4 e5 e6 e7 e8 e9 eG eH dP eI
  exact ⟨(by show dg N ⟨ej,hl',eu,eo,dZ,z',dX,dY,eA,eB,eg,ee,ed⟩ ⟨⟨ml,mw,mz,mn⟩,ms,v,w,ws⟩; constructor <;> dsimp only <;> omega),trivial⟩
 | ux =>
  by_cases hx:mn=0∨ml=1∨mw=1∨mz=1
  ·have eh:hu ⟨ml,mw,mz,mn⟩ = .ue:=by simp only [hu,hx,if_true]
   simp only [eh] at g1 g2 g3 g4 g5 g6 g7 g8 g9 c8 cK cL cM
   simp only [cW,Cn.busy,Cn.zero] at g1 g2 g3 g4 g5 g6 g7 g8 g9 c8 cK cL cM e1 e2 e3 e4 e5 e6 e7 e8 e9 eG eH dP eI
   rw [eh]
   exact ⟨(by show dg N ⟨ej,hl',eu,eo,dZ,z',dX,dY,eA,eB,eg,ee,ed⟩ ⟨⟨ml,mw,mz,mn⟩,ms,v,w,ws⟩; constructor <;> dsimp only <;> omega),trivial⟩
  ·have eh:hu ⟨ml,mw,mz,mn⟩ = .uc ⟨ml,mw,mz,mn⟩:=by simp only [hu,hx,if_false]
   simp only [eh] at g1 g2 g3 g4 g5 g6 g7 g8 g9 c8 cK cL cM
   simp only [cW,Cn.busy,Cn.zero] at g1 g2 g3 g4 g5 g6 g7 g8 g9 c8 cK cL cM e1 e2 e3 e4 e5 e6 e7 e8 e9 eG eH dP eI
   rw [eh]
   exact ⟨(by show dg N ⟨ej,hl',eu,eo,dZ,z',dX,dY,eA,eB,eg,ee,ed⟩ ⟨⟨ml,mw,mz,mn⟩,ms,v,w,ws⟩; constructor <;> dsimp only <;> omega),⟨q1,q2,q3,q4⟩,by simp only; omega,by simp only; omega,by simp only; omega,by simp only; omega⟩
 | us =>
  simp only [cW,Cn.busy,Cn.zero] at g1 g2 g3 g4 g5 g6 g7 g8 g9 c8 cK cL cM e1 e2 e3 e4 e5 e6 e7 e8 e9 eG eH dP eI
  exact ⟨(by show dg N ⟨ej,hl',eu,eo,dZ,z',dX,dY,eA,eB,eg,ee,ed⟩ ⟨⟨ml,mw,mz,mn⟩,ms+1,v,w,ws⟩; constructor <;> dsimp only <;> omega),trivial⟩
 | OK =>
  simp only [cW,Cn.busy,Cn.zero] at g1 g2 g3 g4 g5 g6 g7 g8 g9 c8 cK cL cM e1 e2 e3 e4 e5 e6 e7 e8 e9 eG eH dP eI
  exact ⟨(by show dg N ⟨ej,hl',eu,eo,dZ,z',dX,dY,eA,eB,eg,ee,ed⟩ ⟨⟨ml,mw,mz,mn⟩,ms,v,w,ws⟩; constructor <;> dsimp only <;> omega),trivial⟩
 | OL =>
  simp only [cW,Cn.busy,Cn.zero] at g1 g2 g3 g4 g5 g6 g7 g8 g9 c8 cK cL cM e1 e2 e3 e4 e5 e6 e7 e8 e9 eG eH dP eI
  exact ⟨(by show dg N ⟨ej,hl',eu,eo,dZ,z',dX,dY,eA,eB,eg,ee,ed⟩ ⟨⟨ml,mw,mz,mn⟩,ms,v,w,ws⟩; constructor <;> dsimp only <;> omega),trivial⟩
 | wv =>
  simp only [cW,Cn.busy,Cn.zero] at g1 g2 g3 g4 g5 g6 g7 g8 g9 c8 cK cL cM e1 e2 e3 e4 e5 e6 e7 e8 e9 eG eH dP eI
  exact ⟨(by show dg N ⟨ej,hl',eu,eo,dZ,z',dX,dY,eA,eB,eg,ee,ed⟩ ⟨⟨ml,mw,mz,mn⟩,ms,v,w,ws⟩; constructor <;> dsimp only <;> omega),trivial⟩
 | wr =>
  simp only [cW,Cn.busy,Cn.zero] at g1 g2 g3 g4 g5 g6 g7 g8 g9 c8 cK cL cM e1 e2 e3 e4 e5 e6 e7 e8 e9 eG eH dP eI
  exact ⟨(by show dg N ⟨ej,hl',eu,eo,dZ,z',dX,dY,eA,eB,eg,ee,ed⟩ ⟨⟨ml,mw,mz,mn⟩,ms,v,w,ws⟩; constructor <;> dsimp only <;> omega),trivial⟩
 | wk =>
  simp only [cW,Cn.busy,Cn.zero] at g1 g2 g3 g4 g5 g6 g7 g8 g9 c8 cK cL cM e1 e2 e3 e4 e5 e6 e7 e8 e9 eG eH dP eI
  exact ⟨(by show dg N ⟨ej,hl',eu,eo,dZ,z',dX,dY,eA,eB,eg,ee,ed⟩ ⟨⟨ml,mw,mz,mn⟩,ms,v,w,ws⟩; constructor <;> dsimp only <;> omega),trivial⟩
 | HF a =>
  simp only [cW,Cn.busy,Cn.zero] at g1 g2 g3 g4 g5 g6 g7 g8 g9 c8 cK cL cM e1 e2 e3 e4 e5 e6 e7 e8 e9 eG eH dP eI
  exact ⟨(by show dg N ⟨ej,hl',eu,eo,dZ,z',dX,dY,eA,eB,eg,ee,ed⟩ ⟨⟨ml,mw,mz,mn⟩,ms,v - 1,w,ws⟩; constructor <;> dsimp only <;> omega),trivial⟩
 | Rl a b =>
  simp only [cW,Cn.busy,Cn.zero] at g1 g2 g3 g4 g5 g6 g7 g8 g9 c8 cK cL cM e1 e2 e3 e4 e5 e6 e7 e8 e9 eG eH dP eI
  exact ⟨(by show dg N ⟨ej,hl',eu,eo,dZ,z',dX,dY,eA,eB,eg,ee,ed⟩ ⟨⟨ml,mw,mz,mn⟩,ms,0,w,ws⟩; constructor <;> dsimp only <;> omega),trivial⟩
 | d2 =>
  simp only [cW,Cn.zero] at g1 g2 g3 g4 g5 g6 g7 g8 g9 c8 cK cL cM e1 e2 e3 e4 e5 e6 e7 e8 e9 eG eH dP eI
  exact ⟨(by show dg N ⟨ej,hl',eu,eo,dZ,z',dX,dY,eA,eB,eg,ee,ed⟩ ⟨⟨ml,mw,mz,mn⟩,ms,v,w,ws⟩; constructor <;> dsimp only <;> omega),trivial⟩
 | d3 =>
  simp only [cW,Cn.zero] at g1 g2 g3 g4 g5 g6 g7 g8 g9 c8 cK cL cM e1 e2 e3 e4 e5 e6 e7 e8 e9 eG eH dP eI
  exact ⟨(by show dg N ⟨ej,hl',eu,eo,dZ,z',dX,dY,eA,eB,eg,ee,ed⟩ ⟨⟨ml,mw,mz,mn⟩,ms,0,0,ws⟩; constructor <;> dsimp only <;> omega),trivial⟩
 | d4 =>
  simp only [cW,Cn.zero] at g1 g2 g3 g4 g5 g6 g7 g8 g9 c8 cK cL cM e1 e2 e3 e4 e5 e6 e7 e8 e9 eG eH dP eI
  exact ⟨(by show dg N ⟨ej,hl',eu,eo,dZ,z',dX,dY,eA,eB,eg,ee,ed⟩ ⟨⟨ml,mw,mz,mn⟩,ms,v,w,ws+1⟩; constructor <;> dsimp only <;> omega),trivial⟩
end
end Go.Lg
namespace Go.Lg
inductive Mp
 | ka (r:Nat) | kc (r:Nat) | kv (r:Nat) | kd (r:Nat) | ke (r:Nat) | go (r:Nat) | wa | w1 | w2 (v:Nat) | wV | wW | w3 | w4 | we | qv | wq | fin
def kg:Nat→Mp
 | 0=>.wa
 | r+1=>.ka r
inductive gg:Mp→Sh→Mp→Sh→Prop
 | ka {s r}:gg (.ka r) s (.kc r) s
 | kc1 {s r}:s.v=0→gg (.kc r) s (.kv r) { s with v:=1 }
 | kv {s r}:gg (.kv r) s (.kd r) s
 | kcn {s r}:s.v≠0→gg (.kc r) s (.ke r) { s with v:=s.v+1 }
 | kd {s r}:gg (.kd r) s (.ke r) s
 | ke {s r}:gg (.ke r) s (.go r) s
 | wa {s}:gg .wa s .w1 s
 | w1z {s}:s.v=0→gg .w1 s .we s
 | w1n {s}:s.v≠0→gg .w1 s (.w2 s.v) s
 | agD {s}:gg (.w2 s.v) s .wV { s with w:=1 }
 | wV {s}:gg .wV s .wW s
 | agC {s v}:s.v≠v→gg (.w2 v) s .w1 s
 | wW {s}:gg .wW s .w3 s
 | w3 {s m}:s.ws=m+1→gg .w3 s .w4 { s with ws:=m }
 | w4 {s}:gg .w4 s .we s
 | we {s}:gg .we s .qv s
 | qv {s}:gg .qv s .wq s
 | wq {s}:gg .wq s .fin s
def rem:Mp→Nat
 | .ka r | .kc r | .kv r | .kd r | .ke r | .go r=>r+1
 | _=>0
def Cn.jq(c:Cn):Nat:=c.wk+c.z+c.pc+c.a1+c.ak
def kB(c:Cn)(s:Sh):Mp→Prop
 | .ka _ | .kc _ | .wa | .w1=>s.v=c.lv∧s.w=0∧s.ws=0∧c.dw=0∧c.d4=0
 | .w2 v=>s.v=c.lv∧s.w=0∧s.ws=0∧c.dw=0∧c.d4=0∧v≠0
 | .kv _ | .kd _ | .ke _ | .go _=>s.v=c.lv+1∧s.w=0∧s.ws=0∧c.dw=0∧c.d4=0
 | .wV | .wW | .w3=>(s.w=1∧s.ws=0∧c.d4=0∧s.v=c.lv∧((s.v=0∧c.dw=1)∨(1≤s.v∧c.dw=0)))∨(s.w=0∧s.v=0∧c.lv=0∧c.dw=0∧c.d4+s.ws=1)
 | _=>s.v=0∧s.w=0∧s.ws=0∧c.lv=0∧c.dw=0∧c.d4=0
structure nU (N:Nat) (T0:Mp) (c:Cn) (s:Sh):Prop where
 wg:kB c s T0
 eq:c.lv+c.dw+c.d4=c.jq
 le:c.jq+rem T0≤N
def okW(N:Nat):Lp→Sh→Prop
 | .d1,s=>1≤s.v∧s.v≤N∧s.w≤1
 | .d2,s=>s.v=0∧s.w=1
 | .d4,s=>s.ws=0
 | _,_=>True
def r8(N:Nat):Mp→Sh→Prop
 | .kc _,s=>s.w=0∧s.v+1≤N
 | .w1,s=>s.w=0∧s.v≤N
 | .w2 v,s=>s.w=0∧s.v≤N∧v≠0
 | .w4,s=>s.v=0∧s.w=0
 | .w3,s=>s.ws≤1
 | _,_=>True
section
variable {N:Nat} {c c':Cn} {s s':Sh} {T T':Lp} {T0 iE:Mp}
theorem Rh(T:Lp):(cW T).lv+(cW T).dw+(cW T).d4=(cW T).jq:=by
 cases T <;> simp [cW,Cn.busy,Cn.zero,Cn.jq]
 case a1 b=>cases b <;> simp
theorem Cn.yN.jq{x y:Cn}(h:c.yN x y c'):c'.jq+x.jq=c.jq+y.jq:=by
 have:=h.wk; have:=h.z; have:=h.pc; have:=h.a1; have:=h.ak
 unfold Cn.jq; omega
theorem nU.okW(h:nU N T0 c s)(hle:(cW T).Le c):okW N T s:=by
 obtain ⟨h1,h2,h3⟩:=h
 have e1:=hle.lv
 have e2:=hle.dw
 have e3:=hle.d4
 cases T <;> simp only [cW,Cn.busy,Cn.zero] at e1 e2 e3 <;> first | trivial | skip
 all_goals
  show _
  cases T0 <;> simp only [kB,rem] at h1 h3 <;> simp only [Go.Lg.okW] <;> omega
theorem nU.r8(h:nU N T0 c s):r8 N T0 s:=by
 obtain ⟨h1,h2,h3⟩:=h
 cases T0 <;> simp only [kB,rem] at h1 h3 <;> simp only [Go.Lg.r8] <;> omega
set_option maxHeartbeats 2000000 in
theorem nU.step(h:nU N T0 c s)(hle:(cW T).Le c)(du:dh T s T' s')(hc:c.yN (cW T) (cW T') c'):nU N T0 c' s':=by
 obtain ⟨h1,h2,h3⟩:=h
 have q1:=Rh T
 have q2:=Rh T'
 have q3:=hc.jq
 have cK:=hc.lv
 have cL:=hc.dw
 have cM:=hc.d4
 have e1:=hle.lv
 have e2:=hle.dw
 have e3:=hle.d4
 have same:(cW T').lv=(cW T).lv→(cW T').dw=(cW T).dw→(cW T').d4=(cW T).d4→s'.v=s.v→s'.w=s.w→s'.ws=s.ws→nU N T0 c' s':=by
  intro a1 a2 a3 a4 a5 a6
  refine ⟨?_,by omega,by omega⟩
  cases T0 <;> simp only [kB,a4,a5,a6] at h1 ⊢ <;> omega
 cases du
 case HF a =>
  refine ⟨?_,by omega,by simp only [cW,Cn.busy,Cn.zero,Cn.jq] at q3; unfold Cn.jq at h3 ⊢; omega⟩
  simp only [cW,Cn.busy,Cn.zero] at cK cL cM e1 e2 e3
  clear q1 q2 q3 h2 h3 same hc hle
  have wt:kB c s .w3→kB c' { s with v:=s.v - 1 } .w3:=λ h=>by
   simp only [kB] at h ⊢
   rcases h with ⟨a1,a2,a3,a4,a5⟩ | ⟨a1,a2,a3,a4,a5⟩
   ·rcases a5 with ⟨a5,a6⟩ | ⟨a5,a6⟩ <;> first | omega | (refine .inl ⟨a1,a2,by omega,by omega,.inr ⟨by omega,by omega⟩⟩)
   ·first | omega | (omega)
  cases T0 <;> first | exact wt h1 | (simp only [kB] at h1 ⊢; omega)
 case Rl a b =>
  refine ⟨?_,by omega,by simp only [cW,Cn.busy,Cn.zero,Cn.jq] at q3; unfold Cn.jq at h3 ⊢; omega⟩
  simp only [cW,Cn.busy,Cn.zero] at cK cL cM e1 e2 e3
  clear q1 q2 q3 h2 h3 same hc hle
  have wt:kB c s .w3→kB c' { s with v:=0 } .w3:=λ h=>by
   simp only [kB] at h ⊢
   rcases h with ⟨a1,a2,a3,a4,a5⟩ | ⟨a1,a2,a3,a4,a5⟩
   ·rcases a5 with ⟨a5,a6⟩ | ⟨a5,a6⟩ <;> first | omega | (exact .inl ⟨a1,a2,by omega,by omega,.inl ⟨trivial,by omega⟩⟩)
   ·first | omega | (omega)
  cases T0 <;> first | exact wt h1 | (simp only [kB] at h1 ⊢; omega)
 case d3 =>
  refine ⟨?_,by omega,by simp only [cW,Cn.zero,Cn.jq] at q3; unfold Cn.jq at h3 ⊢; omega⟩
  simp only [cW,Cn.zero] at cK cL cM e1 e2 e3
  clear q1 q2 q3 h2 h3 same hc hle
  have wt:kB c s .w3→kB c' { s with v:=0,w:=0 } .w3:=λ h=>by
   simp only [kB] at h ⊢
   rcases h with ⟨a1,a2,a3,a4,a5⟩ | ⟨a1,a2,a3,a4,a5⟩
   ·rcases a5 with ⟨a5,a6⟩ | ⟨a5,a6⟩ <;> first | omega | (exact .inr ⟨trivial,trivial,by omega,by omega,by omega⟩)
   ·first | omega | (omega)
  cases T0 <;> first | exact wt h1 | (simp only [kB] at h1 ⊢; omega)
 case d4 =>
  refine ⟨?_,by omega,by simp only [cW,Cn.zero,Cn.jq] at q3; unfold Cn.jq at h3 ⊢; omega⟩
  simp only [cW,Cn.zero] at cK cL cM e1 e2 e3
  clear q1 q2 q3 h2 h3 same hc hle
  have wt:kB c s .w3→kB c' { s with ws:=s.ws+1 } .w3:=λ h=>by
   simp only [kB] at h ⊢
   rcases h with ⟨a1,a2,a3,a4,a5⟩ | ⟨a1,a2,a3,a4,a5⟩
   ·rcases a5 with ⟨a5,a6⟩ | ⟨a5,a6⟩ <;> first | omega | (omega)
   ·first | omega | (exact .inr ⟨a1,a2,by omega,by omega,by omega⟩)
  cases T0 <;> first | exact wt h1 | (simp only [kB] at h1 ⊢; omega)
 case r0=>refine same ?_ ?_ ?_ rfl rfl rfl <;> simp only [rE] <;> rfl
 case r1=>refine same ?_ ?_ ?_ rfl rfl rfl <;> simp only [rE] <;> rfl
 case r3=>refine same ?_ ?_ ?_ rfl rfl rfl <;> simp only [rE] <;> rfl
 case xV=>refine same ?_ ?_ ?_ rfl rfl rfl <;> simp only [rE] <;> rfl
 case ye=>refine same ?_ ?_ ?_ rfl rfl rfl <;> simp only [Ri] <;> rfl
 case wO c0 hm hq=>refine same ?_ ?_ ?_ rfl rfl rfl <;> cases c0.ws <;> rfl
 case s1 c0 m hm=>refine same ?_ ?_ ?_ rfl rfl rfl <;> cases c0.sv <;> rfl
 case Kl c0 hm=>refine same ?_ ?_ ?_ rfl rfl rfl <;> cases (c0.sv && s.mu.n != 1) <;> rfl
 case a1 b=>refine same ?_ ?_ ?_ rfl rfl rfl <;> cases b <;> rfl
 case yf a b=>refine same ?_ ?_ ?_ rfl rfl rfl <;> simp only [hu] <;> split <;> rfl
 case ux=>refine same ?_ ?_ ?_ rfl rfl rfl <;> simp only [hu] <;> split <;> rfl
 all_goals exact same rfl rfl rfl rfl rfl rfl
theorem nU.main(h:nU N T0 c s)(du:gg T0 s iE s'):nU N iE c s':=by
 obtain ⟨h1,h2,h3⟩:=h
 cases du
 case agD =>
  obtain ⟨a1,a2,a3,a4,a5,a6⟩:=h1
  exact ⟨.inl ⟨rfl,a3,a5,a1,.inr ⟨by dsimp only; omega,a4⟩⟩,h2,by simp only [rem] at h3 ⊢; omega⟩
 case wV=>exact ⟨h1,h2,h3⟩
 case wW=>exact ⟨h1,h2,h3⟩
 all_goals refine ⟨?_,h2,?_⟩ <;> simp only [kB,rem] at h1 h3 ⊢ <;> omega
theorem dg.main(h:dg N c s)(du:gg T0 s iE s'):dg N c s':=by
 obtain ⟨h1,h2,h3,h4,h5,h6,h8,h9,y5,HN⟩:=h
 cases du <;> exact ⟨h1,h2,h3,h4,h5,h6,h8,h9,y5,HN⟩
theorem nU.spawn{r:Nat}(h:nU N (.go r) c s)(hc:c.yN Cn.zero (cW .ld) c'):nU N (kg r) c' s:=by
 obtain ⟨h1,h2,h3⟩:=h
 have q1:=Rh .ld
 have q3:=hc.jq
 have cK:=hc.lv
 have cL:=hc.dw
 have cM:=hc.d4
 cases r <;> refine ⟨?_,?_,?_⟩ <;> simp only [kB,rem,kg,cW,Cn.busy,Cn.zero,Cn.jq] at * <;> omega
theorem dg.spawn{r:Nat}(h:dg N c s)(hg:nU N (.go r) c s)(hc:c.yN Cn.zero (cW .ld) c'):dg N c' s:=by
 have hle:=hg.le
 obtain ⟨h1,h2,h3,h4,h5,h6,h8,h9,y5,HN⟩:=h
 obtain ⟨g1,g2,g3,g4,g5,g6,g7,g8,g9,c8,cK,cL,cM⟩:=hc
 simp only [cW,Cn.busy,Cn.zero,Cn.jq,rem] at *
 constructor <;> omega
end
def gY:Lp→Nat
 | .ld | .l0 | .r0=>9
 | .sq c | .c1 c | .r1 c | .c2 c | .r3 c=>if c.aw then 8 else 9
 | .t1 _ | .s1 _=>6
 | .t2 _ | .r2 _ | .a1 _=>8
 | .le | .lc | .la | .ul _ | .uv _ | .ur _=>5
 | .ud | .u0=>16
 | .uc _ | .ux=>15
 | .us=>14
 | .ue=>10
 | .wv | .wr | .wk | .d1=>8
 | .d2 | .d3=>6
 | .d4=>5
 | .quit=>0
def jR(m:Wd):Lp→Nat
 | .ld=>31
 | .l0=>30
 | .r0=>29
 | .sq c=>(4 - c.it) * 5+(if c.old=m then 0 else 5)+3
 | .c1 c=>(4 - c.it) * 5+(if c.old=m then 0 else 5)+2
 | .r1 c=>(4 - c.it) * 5+1
 | .c2 c=>(4 - c.it) * 5+(if c.old=m then 0 else 5)+1
 | .r3 c=>(4 - c.it) * 5+5
 | .t1 _=>2
 | .s1 _=>1
 | .t2 _=>25
 | .r2 _=>24
 | .le=>5
 | .lc=>4
 | .la=>3
 | .ul _=>2
 | .uv _=>1
 | .ud=>1
 | .uc o=>if o=m then 0 else 3
 | .ux=>2
 | .wv=>3
 | .wr=>2
 | .wk=>1
 | .d2=>1
 | _=>0
def gr:Lp→Bool
 | .ur _=>true
 | _=>false
theorem aGY(m:Wd)(T:Lp):jR m T≤31:=by
 cases T <;> simp only [jR] <;> (try split) <;> omega
theorem OC(c:Lc):gY (hd c)=if c.aw then 8 else 9:=by unfold hd; split <;> rfl
theorem Ow{c:Lc}{m:Wd}(h:c.old=m):jR m (hd c)≤(4 - c.it) * 5+3:=by unfold hd; split <;> simp only [jR,h,if_true] <;> omega
theorem dh.MB{N:Nat}{s s':Sh}{T T':Lp}(hT:qb N T)(du:dh T s T' s') :
  gY T'+3 * s'.ms+3 * s'.ws < gY T+3 * s.ms+3 * s.ws+(if gr T then 20 else 0) ∨
  (gY T'+3 * s'.ms+3 * s'.ws=gY T+3 * s.ms+3 * s.ws∧gr T=false∧s'.mu=s.mu∧s'.v=s.v∧jR s.mu T' < jR s.mu T):=by
 cases du
 case r0=>right; have:=Ow (c:=⟨s.mu,false,false,0,false⟩) (m:=s.mu) rfl; rw [OC]; generalize jR s.mu (hd _)=x at this ⊢; exact ⟨rfl,rfl,rfl,rfl,by simp only [jR]; simp only at this; omega⟩
 case OB c=>right; simp [gY,jR,gr]
 case ye c h=>right; unfold ja; split <;> simp [gY,jR,gr]; omega
 case Q1 c h=>left; obtain ⟨_,_,_,t4,_⟩:=hT; simp [gY,t4,gr]
 case Q0 c h=>right; simp [gY,jR,gr,Ne.symm h]
 case r1 c =>
  right; obtain ⟨_,t2,_⟩:=hT
  have:=Ow (c:={ c with old:=s.mu,it:=c.it+1 }) (m:=s.mu) rfl
  rw [OC]; generalize jR s.mu (hd _)=x at this ⊢; exact ⟨rfl,rfl,rfl,rfl,by simp only [jR]; simp only at this; omega⟩
 case Q6 c h _ _=>left; simp only [gY,gr]; split <;> simp
 case wO c h _=>left; simp only [gr]; cases c.ws <;> cases hb:c.aw <;> simp [gY,hb]
 case Q7 c h=>right; simp [gY,jR,gr,Ne.symm h]
 case r3 c =>
  right
  have:=Ow (c:={ c with old:=s.mu }) (m:=s.mu) rfl
  rw [OC]; generalize jR s.mu (hd _)=x at this ⊢; exact ⟨rfl,rfl,rfl,rfl,by simp only [jR]; simp only at this; omega⟩
 case t1 c b=>right; simp [gY,jR,gr]
 case s1 c m h=>left; cases c.sv <;> simp [gY,gr,h] <;> omega
 case t2 c b=>right; simp [gY,jR,gr]
 case Kl c h=>right; simp [gY,jR,gr]
 case xV c h =>
  right
  have:=Ow (c:={ c with old:=s.mu,aw:=true,it:=0 }) (m:=s.mu) rfl
  rw [OC]; generalize jR s.mu (hd _)=x at this ⊢; exact ⟨rfl,rfl,rfl,rfl,by simp only [jR]; simp only at this; omega⟩
 case yf a b=>left; unfold hu; split <;> simp [gY,gr]
 case XZ m h=>right; simp [gY,jR,gr,Ne.symm h]
 case ux=>unfold hu; split <;> simp [gY,jR,gr]
 case us=>left; simp [gY,gr]; omega
 case d4=>left; simp [gY,gr]; omega
 case ur=>left; simp [gY,gr]; omega
 all_goals simp [gY,jR,gr]
def stM(J:Nat):Mp→Nat
 | .ka r | .kc r=>(r+1) * (20 * J+20)+15
 | .kv r | .kd r | .ke r | .go r=>(r+1) * (20 * J+20)+14
 | .wa | .w1 | .w2 _=>10
 | .wV | .wW | .w3=>8
 | .w4 | .we | .qv | .wq=>6
 | .fin=>0
def Ah(v:Nat):Mp→Nat
 | .ka _=>1
 | .kv _=>3
 | .kd _=>2
 | .ke _=>1
 | .wa=>6
 | .w1=>4
 | .w2 u=>if u=v then 1 else 5
 | .wV=>2
 | .wW=>1
 | .w4=>3
 | .we=>2
 | .qv=>1
 | _=>0
theorem aGX(v:Nat)(T:Mp):Ah v T≤31:=by
 cases T <;> simp only [Ah] <;> (try split) <;> omega
theorem gg.MB{J:Nat}{s s':Sh}{T T':Mp}(du:gg T s T' s') :
  stM J T'+3 * s'.ms+3 * s'.ws < stM J T+3 * s.ms+3 * s.ws ∨
  (stM J T'+3 * s'.ms+3 * s'.ws=stM J T+3 * s.ms+3 * s.ws∧s'.mu=s.mu∧s'.v=s.v∧Ah s.v T' < Ah s.v T):=by
 cases du
 case w1n h=>right; simp [stM,Ah]
 case agC v h=>right; simp [stM,Ah,Ne.symm h]
 case w3 m h=>left; simp [stM,h]; omega
 all_goals simp [stM,Ah]
theorem aHn(J r:Nat):stM J (kg r)+(20 * J+gY .ld) < stM J (.go r):=by
 cases r with
 | zero=>simp [kg,stM,gY]; omega
 | succ r=>simp only [kg,stM,gY,Nat.add_mul]; omega
end Go.Lg
namespace Go.Lg
open Go.Conc Go.ConcN
def A1(P:Program)(K:Goroutine→Prop):Nat→Goroutine→Prop
 | 0,g=>K g
 | n+1,g=>K g∨(g.status = .running∧∃ g',(∀ w,stepG P false g w = .go g' w #[])∧A1 P K n g')
structure Fx where
 P:Program
 B:Base
 bm:Nat
 bw:Nat
 bo:Nat
 tm:TypeId
 tw:TypeId
 N:Nat
 J:Nat
 cont:(Nat→Nat)→Obj
 ho:bm≠bw∧bm≠bo∧bw≠bo
 hJ:0 < J
 hN:N≤4
 mj:ax→aj→Goroutine→Prop
def pf(tm:TypeId)(s:Sh):Obj:=.cells #[.int .i32 s.mu.val,.int .u32 (s.ms:Int)] tm (0,0)
def yw(s:Sh):Int:=4294967296 * s.v+s.w
def py(tw:TypeId)(s:Sh):Obj:=.cells #[.int .u64 (yw s),.int .u32 (s.ws:Int)] tw (0,0)
variable (F:Fx)
structure fu (s:Sh) (w:World):Prop where
 m:w.heap[F.bm]? = some (pf F.tm s)
 g:w.heap[F.bw]? = some (py F.tw s)
structure cu (s':Sh) (w w':World):Prop where
 size:w'.heap.size=w.heap.size
 same:∀ b,b≠F.bm→b≠F.bw→w'.heap[b]? = w.heap[b]?
 sh:fu F s' w'
 os:F.B.os w.os→F.B.os w'.os
 tape:w'.tape=w.tape
 out:w'.output=w.output
def am:Addr:=⟨F.bm,0,none⟩
def aw:Addr:=⟨F.bw,0,none⟩
def qt:Addr:=⟨F.bw,1,none⟩
def pE(es:Array Event):Prop:=(∀ e∈es,∃ a wr,e=⟨.cell a,wr,true⟩∧(a.block=F.bm∨a.block=F.bw))∨∃ a,(a.block=F.bm∨a.block=F.bw)∧es=semEvents a
def said(m:Mark):Array Event:=#[⟨.mark m,false,true⟩]
def Ep:Lp→Array Event→Prop
 | .ld,es | .ud,es | .wk,es=>es=said .disable
 | .le,es | .ue,es=>es=said .enable
 | .la,es=>es=said (.acquire (am F))
 | .ur _,es=>es=said (.releaseMerge (am F))
 | .wr,es=>es=said (.releaseMerge (aw F))
 | _,es=>pE F es
def Bh:Mp→Array Event→Prop
 | .ka _,es | .wa,es=>es=said .disable
 | .ke _,es | .we,es=>es=said .enable
 | .kd _,es=>es=said (.read (qt F))
 | .wW,es=>es=said (.write (qt F))
 | .wq,es=>es=said (.acquire (aw F))
 | _,es=>pE F es
def jQ:Lp→Bool
 | .wk | .d1 | .d2 | .d3 | .d4=>true
 | _=>false
def yg(j:Nat):Lp→Lp→Prop
 | .ue,.ld=>j < F.J
 | .ue,.wv=>j=F.J
 | _,_=>True
def wJ(K:Nat→Lp→ax→aj→Goroutine→Prop)(k j:Nat)(T T':Lp)(R:ax)(H:aj)(g':Goroutine):Prop :=
 match T' with
 | .quit=>∃ q,QuitsD F.P q 1 g'
 | .ul _=>∀ js,js k=j→Own F.P F.B false (K j (.ul js)) R ((F.bo,F.cont js)::H) g'
 | .ud=>∃ js H',T = .ur js∧H=(F.bo,F.cont (fY js k (j+1)))::H'∧Own F.P F.B false (K (j+1) .ud) R H' g'
 | T'=>if jQ T' then ∃ q,A1 F.P (K j T' R H) q g' else Own F.P F.B false (K j T') R H g'
def KW:Nat→Nat→Nat→Lp→ax→aj→Goroutine→Prop
 | 0,_,_,_,_,_,_=>True
 | n+1,k,j,T,R,H,g=>qb F.N T→g.status = .running∧g.offers=none∧((T = .us∨T = .d4)→mayWake F.P g=true) ∧
   ∀ w s,Fits F.B R H w→fu F s w→CW F.N T s→okW F.N T s →
    ((∃ c,T = .s1 c)∧s.ms=0∧stepG F.P false g w = .go { g with status:=.blocked } w #[]) ∨
    ∃ g' w' es T' s',dh T s T' s'∧yg F j T T'∧Ep F T es∧stepG F.P false g w = .go g' w' es∧cu F s' w w' ∧
     wJ F (KW n k) k j T T' R H g'
def KM:Nat→Mp→ax→aj→Goroutine→Prop
 | 0,_,_,_,_=>True
 | n+1,T,R,H,g=>g.status = .running∧g.offers=none ∧
   ∀ w s,Fits F.B R H w→fu F s w→r8 F.N T s →
    match T with
    | .go r=>∃ g' child,stepG F.P true g w = .spawn g' child w #[]∧Own F.P F.B false (KW F n (F.N - (r+1)) 0 .ld) R [] child∧Own F.P F.B true (KM n (kg r)) R H g'
    | .wq=>∃ g' w',stepG F.P true g w = .go g' w' (said (.acquire (aw F)))∧cu F s w w'∧∀ js,(∀ k,k < F.N→js k=F.J)→F.mj R ((F.bo,F.cont js)::H) g'
    | T=>(T = .w3∧s.ws=0∧stepG F.P true g w = .go { g with status:=.blocked } w #[]) ∨
     ∃ g' w' es T' s',gg T s T' s'∧Bh F T es∧stepG F.P true g w = .go g' w' es∧cu F s' w w'∧Own F.P F.B true (KM n T') R H g'
inductive Ab
 | no
 | wk (k j:Nat) (T:Lp)
 | mn (T:Mp)
def cA:Ab→Cn
 | .wk _ _ T=>cW T
 | _=>.zero
def cP:Ab→Nat
 | .no=>0
 | .wk _ j T=>20 * (F.J - j)+gY T
 | .mn T=>stM F.J T
def nF(s:Sh):Ab→Nat
 | .no=>0
 | .wk _ _ T=>jR s.mu T
 | .mn T=>Ah s.v T
def nZ:Lp→Nat
 | .ld | .lc | .la | .ul _ | .uv _ | .ur _ | .ud | .wv | .wr | .wk=>0
 | _=>1
def oS:Mp→Nat
 | .ka _ | .go _ | .wa | .qv | .wq | .fin=>0
 | _=>1
def cnt(D:Nat→Ab)(n:Nat):Cn where
 ow:=df n λ i=>(cA (D i)).ow
 hl:=df n λ i=>(cA (D i)).hl
 pu:=df n λ i=>(cA (D i)).pu
 pc:=df n λ i=>(cA (D i)).pc
 al:=df n λ i=>(cA (D i)).al
 z:=df n λ i=>(cA (D i)).z
 a1:=df n λ i=>(cA (D i)).a1
 ak:=df n λ i=>(cA (D i)).ak
 ux:=df n λ i=>(cA (D i)).ux
 wk:=df n λ i=>(cA (D i)).wk
 lv:=df n λ i=>(cA (D i)).lv
 dw:=df n λ i=>(cA (D i)).dw
 d4:=df n λ i=>(cA (D i)).d4
def cB(D:Nat→Ab)(i:Nat)(x:Ab):Nat→Ab:=λ j=>if j=i then x else D j
def l5(D:Nat→Ms)(i:Nat)(x:Ms):Nat→Ms:=λ j=>if j=i then x else D j
def MM(Q:Nat)(D:Nat→Ab)(s:Sh)(n:Nat):Nat:=(df n (λ i=>cP F (D i))+3 * s.ms+3 * s.ws) * Q+df n (λ i=>nF s (D i))
def CV(j:Nat):Lp→Prop
 | .ud | .u0 | .uc _ | .ux | .us | .ue=>j≤F.J
 | .wv | .wr | .wk | .d1 | .d2 | .d3 | .d4=>j=F.J
 | .quit=>False
 | _=>j < F.J
def z9(js:Nat→Nat):Lp→Prop
 | .ul j | .uv j | .ur j=>j=js
 | _=>True
def gq(s:Sh)(js:Nat→Nat)(hl:Nat):aj:=(F.bm,pf F.tm s)::(F.bw,py F.tw s)::(if hl=0 then [(F.bo,F.cont js)] else [])
def pV(hl:Nat):Option Nat:=if hl=0 then some F.bo else none
def Hb(K:Goroutine→Prop)(z:Prop)(g:Goroutine):Prop:=∃ g0,K g0∧g0.status = .running∧g0.offers=none∧(g=g0∨(g={ g0 with status:=.blocked }∧z))
def pG(μ:Nat)(s:Sh)(i:Nat)(m:Ms)(x:Option Th)(mu:Bool)(d:Nat)(g:Goroutine):Ab→Prop
 | .no=>x=none∧0 < i∧∃ q,m=some (qX q)∧QuitsD F.P q d g
 | .wk k j T=>0 < i∧d=nZ T∧mu=jQ T∧∃ y n,x=some y∧μ≤n ∧
   if jQ T then ∃ q,m=some (qX q)∧A1 F.P (KW F n k j T y.R y.H) q g
   else (∃ Tr,m=some Tr∧A0 F.P F.B false (KW F n k j T) Tr y.R y.H g)∨(m=none∧(∃ c,T = .s1 c)∧Hb (KW F n k j T y.R y.H) (s.ms=0) g)
 | .mn T=>i=0∧d=oS T∧mu=false∧∃ y n,x=some y∧μ≤n ∧
   ((∃ Tr,m=some Tr∧A0 F.P F.B true (KM F n T) Tr y.R y.H g)∨(m=none∧T = .w3∧Hb (KM F n T y.R y.H) (s.ws=0) g))
structure Bk (Q:Nat) (T0:Mp) (D:Nat→Ab) (js:Nat→Nat) (s:Sh) (n:Nat):Prop where
 d0:D 0 = .mn T0
 nf:T0 ≠ .fin
 pos:0 < n
 out:∀ i,n≤i→D i = .no
 main:∀ i T,D i = .mn T→i=0
 rA:dg F.N (cnt D n) s
 aig:nU F.N T0 (cnt D n) s
 mL:∀ i k j T,D i = .wk k j T→qb F.N T∧CV F j T∧z9 js T∧js k=j∧k+rem T0 < F.N
 xH:∀ i i' k j j' T T',D i = .wk k j T→D i' = .wk k j' T'→i=i'
 done:∀ k,k+rem T0 < F.N→js k=F.J∨∃ i j T,D i = .wk k j T
 N1:∀ k,F.N≤k+rem T0→js k=0
 Ht:31 * (n+rem T0) < Q
structure MI (Q:Nat) (T0:Mp) (D:Nat→Ab) (m:Nat→Ms) (js:Nat→Nat) (s:Sh) (th:Nat→Option Th) (mu:Nat→Bool) (dd:Nat→Nat) (gs:Array Goroutine) (w:World) (t:Trace):Prop where
 mem:fl F.B th (gq F s js (cnt D gs.size).hl) w
 tr:cX (some (am F)) (some (aw F)) th mu dd [F.bm,F.bw] (pV F (cnt D gs.size).hl) w.heap.size t
 vT:∀ i g,gs[i]? = some g→pG F (MM F Q D s gs.size) s i (m i) (th i) (mu i) (dd i) g (D i)
 out:∀ i,gs.size≤i→th i=none∧mu i=false∧dd i=0
 bk:Bk F Q T0 D js s gs.size
end Go.Lg
namespace Go.Lg
open Go.Conc Go.ConcN
theorem jr(D:Nat→Ab)(i:Nat)(x:Ab):cB D i x i=x:=by simp [cB]
theorem fx{D:Nat→Ab}{i j:Nat}{x:Ab}(h:j≠i):cB D i x j=D j:=by simp [cB,h]
theorem Ky(D:Nat→Ms)(i:Nat)(x:Ms):l5 D i x i=x:=by simp [l5]
theorem Gi{D:Nat→Ms}{i j:Nat}{x:Ms}(h:j≠i):l5 D i x j=D j:=by simp [l5,h]
theorem Df{th:Nat→Option Th}{i:Nat}{x:Option Th}(h:th i=x):fO th i x=th:=by
 funext j; unfold fO; split
 ·rename_i e; subst e; exact h.symm
 ·rfl
theorem XV{f:Nat→Nat}{i:Nat}:∀ {n:Nat},i < n→f i≤df n f
 | n+1,h=>by
  simp only [df]
  rcases Nat.lt_or_ge i n with bL | tu
  ·have:=XV (f:=f) bL; omega
  ·obtain rfl:i=n:=by omega
   omega
theorem OI{f:Nat→Nat}{b:Nat}(h:∀ i,f i≤b):∀ n,df n f≤b * n
 | 0=>by simp [df]
 | n+1=>by have:=OI h n; have:=h n; simp only [df,Nat.mul_succ]; omega
theorem uW{D:Nat→Ab}{i n:Nat}(hi:i < n)(x:Ab):(cnt D n).yN (cA (D i)) (cA x) (cnt (cB D i x) n):=by
 have key:∀ f:Cn→Nat,df n (λ j=>f (cA (cB D i x j)))+f (cA (D i))=df n (λ j=>f (cA (D j)))+f (cA x):=λ f=>by
  have:=Dc (f:=λ j=>f (cA (D j))) (g:=λ j=>f (cA (cB D i x j))) hi (λ k hk=>by simp only [fx hk])
  simpa only [jr] using this
 exact ⟨key _,key _,key _,key _,key _,key _,key _,key _,key _,key _,key _,key _,key _⟩
theorem Ej{D:Nat→Ab}{i n:Nat}(hi:i < n):(cA (D i)).Le (cnt D n):=by
 have key:∀ f:Cn→Nat,f (cA (D i))≤df n (λ j=>f (cA (D j))):=λ f=>XV (f:=λ j=>f (cA (D j))) hi
 exact ⟨key _,key _,key _,key _,key _,key _,key _,key _,key _,key _,key _,key _,key _⟩
theorem aa0{D:Nat→Ab}{n:Nat}(hn:0 < n)(x:Ab)(y:Ab)(hx:cA x = .zero)(h0:cA (D 0) = .zero):(cnt D n).yN .zero (cA y) (cnt (cB (cB D n y) 0 x) (n+1)):=by
 have key:∀ f:Cn→Nat,f .zero=0→df (n+1) (λ j=>f (cA (cB (cB D n y) 0 x j)))+f .zero=df n (λ j=>f (cA (D j)))+f (cA y):=λ f hf=>by
  simp only [df]
  rw [fx (show n≠0 by omega),jr,hf]
  have:df n (λ j=>f (cA (cB (cB D n y) 0 x j)))=df n (λ j=>f (cA (D j))):=Kx λ j hj=>by
   by_cases h:j=0
   ·subst h; rw [jr,hx,h0]
   ·rw [fx h,fx (by omega)]
  omega
 exact ⟨key _ rfl,key _ rfl,key _ rfl,key _ rfl,key _ rfl,key _ rfl,key _ rfl,key _ rfl,key _ rfl,key _ rfl,key _ rfl,key _ rfl,key _ rfl⟩
section
variable {F:Fx} {D:Nat→Ab} {s s':Sh} {n i Q:Nat} {x:Ab}
theorem afq(s:Sh)(a:Ab):nF s a≤31:=by
 cases a
 ·exact Nat.zero_le _
 ·exact aGY _ _
 ·exact aGX _ _
theorem LF(hi:i < n)(hQ:31 * n < Q)
  (h:cP F x+3 * s'.ms+3 * s'.ws < cP F (D i)+3 * s.ms+3 * s.ws∨(cP F x+3 * s'.ms+3 * s'.ws=cP F (D i)+3 * s.ms+3 * s.ws∧s'.mu=s.mu∧s'.v=s.v∧nF s x < nF s (D i))) :
  MM F Q (cB D i x) s' n < MM F Q D s n:=by
 have h1:=Dc (f:=λ j=>cP F (D j)) (g:=λ j=>cP F (cB D i x j)) hi (λ k hk=>by simp only [fx hk])
 simp only [jr] at h1
 unfold MM
 rcases h with h | ⟨h,hm,hv,hr⟩
 ·have h2:df n (λ j=>nF s' (cB D i x j))≤31 * n:=OI (λ j=>afq s' _) n
  generalize df n (λ j=>cP F (cB D i x j))=a' at *
  generalize df n (λ j=>cP F (D j))=a at *
  generalize df n (λ j=>nF s' (cB D i x j))=r' at *
  have h3:a'+3 * s'.ms+3 * s'.ws+1≤a+3 * s.ms+3 * s.ws:=by omega
  have h4:=Nat.mul_le_mul_right Q h3
  rw [Nat.add_mul _ 1 Q,Nat.one_mul] at h4
  omega
 ·have er:∀ a,nF s' a=nF s a:=λ a=>by cases a <;> simp [nF,hm,hv]
  have h2:=Dc (f:=λ j=>nF s (D j)) (g:=λ j=>nF s (cB D i x j)) hi (λ k hk=>by simp only [fx hk])
  simp only [jr] at h2
  have e:(λ j=>nF s' (cB D i x j))=λ j=>nF s (cB D i x j):=by funext j; exact er _
  rw [e]
  have e2:df n (λ j=>cP F (cB D i x j))+3 * s'.ms+3 * s'.ws=df n (λ j=>cP F (D j))+3 * s.ms+3 * s.ws:=by omega
  rw [e2]
  omega
theorem aiH{y:Ab}(hn:0 < n)(hQ:31 * (n+1) < Q)(h:cP F x+cP F y < cP F (D 0)):MM F Q (cB (cB D n y) 0 x) s (n+1) < MM F Q D s n:=by
 have h1:=Dc (f:=λ k=>cP F (D k)) (g:=λ k=>cP F (cB D 0 x k)) hn (λ k hk=>by simp only [fx hk])
 have h2:df (n+1) (λ k=>cP F (cB (cB D n y) 0 x k))=df n (λ k=>cP F (cB D 0 x k))+cP F y:=by
  simp only [df]
  rw [fx (show n≠0 by omega),jr]
  congr 1
  exact Kx λ k hk=>by
   by_cases h0:k=0
   ·subst h0; rw [jr,jr]
   ·rw [fx h0,fx h0,fx (by omega)]
 simp only [jr] at h1
 have h3:df (n+1) (λ j=>nF s (cB (cB D n y) 0 x j))≤31 * (n+1):=OI (λ j=>afq s _) _
 unfold MM
 rw [h2]
 generalize df n (λ j=>cP F (cB D 0 x j))=a' at *
 generalize df n (λ j=>cP F (D j))=a at *
 generalize df (n+1) (λ j=>nF s (cB (cB D n y) 0 x j))=r' at *
 have h4:a'+cP F y+3 * s.ms+3 * s.ws+1≤a+3 * s.ms+3 * s.ws:=by omega
 have h5:=Nat.mul_le_mul_right Q h4
 rw [Nat.add_mul _ 1 Q,Nat.one_mul] at h5
 omega
theorem aiG(hi:i < n)(hQ:0 < Q)(h:0 < cP F (D i)):0 < MM F Q D s n:=by
 have:=XV (f:=λ j=>cP F (D j)) hi
 unfold MM
 have h2:0 < (df n (λ j=>cP F (D j))+3 * s.ms+3 * s.ws) * Q:=Nat.mul_pos (by omega) hQ
 omega
end
section
variable {F:Fx} {B:Base} {th:Nat→Option Th} {s s':Sh} {js:Nat→Nat} {hl:Nat} {w w':World}
theorem yV(F:Fx)(s:Sh)(js:Nat→Nat)(hl:Nat):(F.bm,pf F.tm s)∈gq F s js hl:=by simp [gq]
theorem yW(F:Fx)(s:Sh)(js:Nat→Nat)(hl:Nat):(F.bw,py F.tw s)∈gq F s js hl:=by simp [gq]
theorem HB(F:Fx)(s:Sh)(js:Nat→Nat)(hl:Nat):∀ b,b∈[F.bm,F.bw]→∃ o,(b,o)∈gq F s js hl:=λ b hb=>by
 simp only [List.mem_cons,List.not_mem_nil,or_false] at hb
 rcases hb with rfl | rfl
 ·exact ⟨_,yV F s js hl⟩
 ·exact ⟨_,yW F s js hl⟩
theorem HA(F:Fx)(s:Sh)(js:Nat→Nat)(hl:Nat):∀ b,pV F hl=some b→(∃ o,(b,o)∈gq F s js hl)∧b ∉ [F.bm,F.bw]:=λ b hb=>by
 unfold pV at hb
 split at hb
 ·cases hb
  rename_i h
  refine ⟨⟨F.cont js,by simp [gq,h]⟩,?_⟩
  have:=F.ho
  simp only [List.mem_cons,List.not_mem_nil,or_false,not_or]
  exact ⟨λ e=>this.2.1 e.symm,λ e=>this.2.2 e.symm⟩
 ·cases hb
theorem CP{b:Nat}{o:Obj}(h:(b,o)∈gq F s js hl):(b=F.bm∧o=pf F.tm s)∨(b=F.bw∧o=py F.tw s)∨(b=F.bo∧o=F.cont js∧hl=0):=by
 unfold gq at h
 simp only [List.mem_cons,Prod.mk.injEq] at h
 rcases h with h | h | h
 ·exact .inl h
 ·exact .inr (.inl h)
 ·split at h
  ·simp only [List.mem_cons,Prod.mk.injEq,List.not_mem_nil,or_false] at h
   exact .inr (.inr ⟨h.1,h.2,‹_›⟩)
  ·cases h
theorem Qe(h:fl B th (gq F s js hl) w):fu F s w:=⟨h.ni _ _ (yV F s js hl),h.ni _ _ (yW F s js hl)⟩
theorem fl.put(h:fl F.B th (gq F s js hl) w)(hp:cu F s' w w'):fl F.B th (gq F s' js hl) w':=by
 have ne:∀ b,(∃ j x,th j=some x∧((∃ o,x.R b=some o)∨∃ o,(b,o)∈x.H))→w'.heap[b]? = w.heap[b]? := by
  rintro b ⟨j,x,hx,hb⟩
  have h1:=h.lI _ _ (yV F s js hl) j x hx
  have h2:=h.lI _ _ (yW F s js hl) j x hx
  refine hp.same b (λ e=>?_) (λ e=>?_) <;> subst e
  ·rcases hb with ⟨o,ho⟩ | ⟨o,ho⟩
   ·exact nn h1.1 ho
   ·exact h1.2 o ho
  ·rcases hb with ⟨o,ho⟩ | ⟨o,ho⟩
   ·exact nn h2.1 ho
   ·exact h2.2 o ho
 refine ⟨λ j x hx=>?_,h.apart,λ b o hb=>?_,λ b o hb j x hx=>?_⟩
 ·have hf:=h.fits j x hx
  exact ⟨λ b o hb=>by rw [ne b ⟨j,x,hx,.inl ⟨o,hb⟩⟩]; exact hf.r b o hb,λ b o hb=>by rw [ne b ⟨j,x,hx,.inr ⟨o,hb⟩⟩]; exact hf.h b o hb,hf.nd,hf.dj,hp.os hf.os,hp.tape.trans hf.tape,hp.out.trans hf.out⟩
 ·rcases CP hb with ⟨rfl,rfl⟩ | ⟨rfl,rfl⟩ | ⟨rfl,rfl,hz⟩
  ·exact hp.sh.m
  ·exact hp.sh.g
  ·rw [hp.same _ (λ e=>F.ho.2.1 e.symm) (λ e=>F.ho.2.2 e.symm)]
   exact h.ni _ _ (by simp [gq,hz])
 ·rcases CP hb with ⟨rfl,rfl⟩ | ⟨rfl,rfl⟩ | ⟨rfl,rfl,hz⟩
  ·exact h.lI _ _ (yV F s js hl) j x hx
  ·exact h.lI _ _ (yW F s js hl) j x hx
  ·exact h.lI F.bo (F.cont js) (by simp [gq,hz]) j x hx
theorem fl.take{i hl':Nat}{R:ax}{H:aj}(h:fl B th (gq F s js 0) w)(hi:th i=some ⟨R,H⟩)(hz:hl'≠0):fl B (fO th i (some ⟨R,(F.bo,F.cont js)::H⟩)) (gq F s js hl') w:=by
 have Bx:(F.bo,F.cont js)∈gq F s js 0:=by simp [gq]
 have hf:=h.fits i _ hi
 have kY:=h.lI _ _ Bx
 have sub:∀ {b o},(b,o)∈gq F s js hl'→(b,o)∈gq F s js 0∧b≠F.bo:=λ {b o} hb=>by
  rcases CP hb with ⟨rfl,rfl⟩ | ⟨rfl,rfl⟩ | ⟨rfl,rfl,hx⟩
  ·exact ⟨yV F s js 0,F.ho.2.1⟩
  ·exact ⟨yW F s js 0,F.ho.2.2⟩
  ·exact absurd hx hz
 refine ⟨λ j x hx=>?_,λ j k x y mY hx hy b o hb=>?_,λ b o hb=>h.ni b o (sub hb).1,λ b o hb j x hx=>?_⟩
 ·by_cases hj:j=i
  ·subst hj; rw [ff] at hx; cases hx
   refine ⟨hf.r,λ b o hb=>?_,?_,λ b o hb=>?_,hf.os,hf.tape,hf.out⟩
   ·rcases List.mem_cons.1 hb with e | hb
    ·cases e; exact h.ni _ _ Bx
    ·exact hf.h b o hb
   ·rw [List.map_cons,List.nodup_cons]
    refine ⟨λ hm=>?_,hf.nd⟩
    obtain ⟨p,hp,he⟩:=List.mem_map.1 hm
    obtain ⟨b,o⟩:=p
    simp only at he
    subst he
    exact (kY j _ hi).2 o hp
   ·rcases List.mem_cons.1 hb with e | hb
    ·cases e; exact (kY j _ hi).1
    ·exact hf.dj b o hb
  ·rw [ey hj] at hx; exact h.fits j x hx
 ·by_cases hj:j=i
  ·subst hj; rw [ff] at hx; cases hx
   rw [ey (Ne.symm mY)] at hy
   rcases List.mem_cons.1 hb with e | hb
   ·cases e; exact kY k y hy
   ·exact h.apart j k _ _ mY hi hy b o hb
  ·rw [ey hj] at hx
   by_cases hk:k=i
   ·subst hk; rw [ff] at hy; cases hy
    have:=h.apart j k _ _ mY hx hi b o hb
    refine ⟨this.1,λ o' eX=>?_⟩
    rcases List.mem_cons.1 eX with e | eX
    ·cases e; exact (kY j x hx).2 o hb
    ·exact this.2 o' eX
   ·rw [ey hk] at hy; exact h.apart j k x y mY hx hy b o hb
 ·by_cases hj:j=i
  ·subst hj; rw [ff] at hx; cases hx
   have:=h.lI b o (sub hb).1 j _ hi
   refine ⟨this.1,λ o' eX=>?_⟩
   rcases List.mem_cons.1 eX with e | eX
   ·cases e; exact (sub hb).2 rfl
   ·exact this.2 o' eX
  ·rw [ey hj] at hx; exact h.lI b o (sub hb).1 j x hx
theorem fl.an2{i:Nat}{R:ax}{H:aj}{il:Nat→Nat}(h:fl B th (gq F s js hl) w)(_:hl≠0)(hi:th i=some ⟨R,(F.bo,F.cont il)::H⟩):fl B (fO th i (some ⟨R,H⟩)) (gq F s il 0) w:=by
 have hf:=h.fits i _ hi
 have dR:=hf.nd
 rw [List.map_cons,List.nodup_cons] at dR
 have BE:∀ o,(F.bo,o) ∉ H:=λ o ho=>dR.1 (List.mem_map.2 ⟨_,ho,rfl⟩)
 have key:∀ j x,fO th i (some ⟨R,H⟩) j=some x→∃ y,th j=some y∧x.R=y.R∧(∀ p,p∈x.H→p∈y.H):=λ j x hx=>by
  by_cases hj:j=i
  ·subst hj; rw [ff] at hx; cases hx
   exact ⟨_,hi,rfl,λ p hp=>List.mem_cons_of_mem _ hp⟩
  ·rw [ey hj] at hx; exact ⟨x,hx,rfl,λ p hp=>hp⟩
 refine ⟨λ j x hx=>?_,λ j k x y mY hx hy b o hb=>?_,λ b o hb=>?_,λ b o hb j x hx=>?_⟩
 ·by_cases hj:j=i
  ·subst hj; rw [ff] at hx; cases hx
   exact ⟨hf.r,λ b o hb=>hf.h b o (List.mem_cons_of_mem _ hb),dR.2,λ b o hb=>hf.dj b o (List.mem_cons_of_mem _ hb),hf.os,hf.tape,hf.out⟩
  ·rw [ey hj] at hx; exact h.fits j x hx
 ·obtain ⟨x',zy,e1,e2⟩:=key j x hx
  obtain ⟨y',rQ,e3,e4⟩:=key k y hy
  have:=h.apart j k x' y' mY zy rQ b o (e2 _ hb)
  exact ⟨by rw [e3]; exact this.1,λ o' eX=>this.2 o' (e4 _ eX)⟩
 ·rcases CP hb with ⟨rfl,rfl⟩ | ⟨rfl,rfl⟩ | ⟨rfl,rfl,_⟩
  ·exact h.ni _ _ (yV F s js hl)
  ·exact h.ni _ _ (yW F s js hl)
  ·exact hf.h _ _ (by simp)
 ·obtain ⟨x',zy,e1,e2⟩:=key j x hx
  rcases CP hb with ⟨rfl,rfl⟩ | ⟨rfl,rfl⟩ | ⟨rfl,rfl,_⟩
  ·have:=h.lI _ _ (yV F s js hl) j x' zy
   exact ⟨by rw [e1]; exact this.1,λ o' eX=>this.2 o' (e2 _ eX)⟩
  ·have:=h.lI _ _ (yW F s js hl) j x' zy
   exact ⟨by rw [e1]; exact this.1,λ o' eX=>this.2 o' (e2 _ eX)⟩
  ·by_cases hj:j=i
   ·subst hj; rw [ff] at hx; cases hx
    exact ⟨hf.dj F.bo (F.cont il) (by simp),BE⟩
   ·rw [ey hj] at hx
    have:=h.apart i j _ _ (Ne.symm hj) hi hx F.bo (F.cont il) (by simp)
    exact this
end
end Go.Lg
namespace Go.Lg
open Go.Conc Go.ConcN
theorem N6{F:Fx}{j:Nat}(c:Lc):CV F j (hd c)↔j < F.J:=by unfold hd; split <;> exact Iff.rfl
theorem aFA{F:Fx}{j:Nat}(c:Lc):CV F j (ja c)↔j < F.J:=by unfold ja; split <;> exact Iff.rfl
theorem aeP{F:Fx}{j:Nat}(m:Wd):CV F j (hu m)↔j≤F.J:=by unfold hu; split <;> exact Iff.rfl
section
variable {F:Fx} {Q:Nat} {T0 iE:Mp} {D:Nat→Ab} {js:Nat→Nat} {s s':Sh} {n i k j:Nat} {T T':Lp}
theorem aFB(h:CV F j T)(du:dh T s T' s')(zx:yg F j T T')(hu:gr T=false)(hq:T' ≠ .quit):CV F j T':=by
 cases du
 case ur=>cases hu
 case r0=>exact (N6 _).2 h
 case r1=>exact (N6 _).2 h
 case r3=>exact (N6 _).2 h
 case xV=>exact (N6 _).2 h
 case ye=>exact (aFA _).2 h
 case wO c _ _=>cases c.ws <;> exact h
 case s1 c _ _=>cases c.sv <;> exact h
 case yf=>exact (aeP _).2 h
 case ux=>exact (aeP _).2 h
 case OK=>exact zx
 case OL=>exact zx
 case HF=>exact absurd rfl hq
 case d4=>exact absurd rfl hq
 all_goals exact h
theorem N5{js:Nat→Nat}(c:Lc):z9 js (hd c):=by unfold hd; split <;> trivial
theorem aFz{js:Nat→Nat}(c:Lc):z9 js (ja c):=by unfold ja; split <;> trivial
theorem aeO{js:Nat→Nat}(m:Wd):z9 js (hu m):=by unfold hu; split <;> trivial
theorem Bk.Kk(h:Bk F Q T0 D js s n):31 * n < Q:=by have:=h.Ht; omega
theorem aHA{J:Nat}{T:Mp}(h:T ≠ .fin):0 < stM J T:=by cases T <;> simp only [stM] <;> first | omega | exact absurd rfl h
theorem Bk.r6(h:Bk F Q T0 D js s n):0 < MM F Q D s n:=aiG h.pos (by have:=h.Kk; omega) (by rw [h.d0]; exact aHA h.nf)
theorem Bk.sx(h:Bk F Q T0 D js s n)(hd:D i = .wk k j T)(hi:i < n)(du:dh T s T' s'){x:Ab}{il:Nat→Nat}(hx:cA x=cW T')(hxm:∀ T,x ≠ .mn T)(hxw:∀ k' j' T1,x = .wk k' j' T1→k'=k∧T1=T'∧il k=j'∧CV F j' T1)
  (gU:∀ k',k'≠k→il k'=js k') (iU:∀ i' k' j' T1,i'≠i→D i' = .wk k' j' T1→z9 il T1) (as5:z9 il T') (ap4:il k=F.J∨∃ j',x = .wk k j' T'):Bk F Q T0 (cB D i x) il s' n:=by
 have h0:i≠0:=λ e=>by subst e; rw [h.d0] at hd; cases hd
 obtain ⟨ot,oj,oh,ok,on⟩:=h.mL i k j T hd
 have hle:=Ej (D:=D) hi
 have vk:=uW (D:=D) hi x
 rw [hd] at hle vk
 rw [hx] at vk
 obtain ⟨ha,iM⟩:=h.rA.step ot hle du vk
 have hg:=h.aig.step hle du vk
 refine ⟨by rw [fx (Ne.symm h0)]; exact h.d0,h.nf,h.pos,λ i' o6=>by rw [fx (by omega)]; exact h.out i' o6,λ i' T hT=>?_,ha,hg,λ i' k' j' T1 hT=>?_,λ i1 i2 k' j1 j2 T1 T2 h1 h2=>?_,λ k' dM=>?_,λ k' dM=>?_,h.Ht⟩
 ·by_cases e:i'=i
  ·subst e; rw [jr] at hT; exact absurd hT (hxm T)
  ·rw [fx e] at hT; exact h.main i' T hT
 ·by_cases e:i'=i
  ·subst e; rw [jr] at hT
   obtain ⟨rfl,rfl,h3,h4⟩:=hxw k' j' T1 hT
   exact ⟨iM,h4,as5,h3,on⟩
  ·rw [fx e] at hT
   obtain ⟨a1,a2,a3,a4,a5⟩:=h.mL i' k' j' T1 hT
   have hkk:k'≠k:=λ e'=>by subst e'; exact e (h.xH i' i k' j' j T1 T hT hd)
   exact ⟨a1,a2,iU i' k' j' T1 e hT,by rw [gU k' hkk]; exact a4,a5⟩
 ·have key:∀ i1 j1 T1,cB D i x i1 = .wk k' j1 T1→∃ j' T',D i1 = .wk k' j' T':=λ i1 j1 T1 h1=>by
   by_cases e:i1=i
   ·subst e; rw [jr] at h1
    obtain ⟨rfl,_⟩:=hxw k' j1 T1 h1
    exact ⟨_,_,hd⟩
   ·rw [fx e] at h1; exact ⟨_,_,h1⟩
  obtain ⟨_,_,e1⟩:=key i1 j1 T1 h1
  obtain ⟨_,_,e2⟩:=key i2 j2 T2 h2
  exact h.xH _ _ _ _ _ _ _ e1 e2
 ·by_cases e:k'=k
  ·subst e
   rcases ap4 with hz | ⟨j',hz⟩
   ·exact .inl hz
   ·exact .inr ⟨i,j',T',by rw [jr]; exact hz⟩
  ·rcases h.done k' dM with hz | ⟨i',j',T1,hz⟩
   ·exact .inl (by rw [gU k' e]; exact hz)
   ·refine .inr ⟨i',j',T1,?_⟩
    rw [fx (λ e'=>by subst e'; rw [hd] at hz; cases hz; exact e rfl)]; exact hz
 ·have e:k'≠k:=λ e=>by subst e; omega
  rw [gU k' e]; exact h.N1 k' dM
theorem Bk.work(h:Bk F Q T0 D js s n)(hd:D i = .wk k j T)(hi:i < n)(du:dh T s T' s')(zx:yg F j T T')(B0:z9 js T')(hu:gr T=false)(hq:T' ≠ .quit) :
  Bk F Q T0 (cB D i (.wk k j T')) js s' n∧MM F Q (cB D i (.wk k j T')) s' n < MM F Q D s n:=by
 obtain ⟨ot,oj,oh,ok,on⟩:=h.mL i k j T hd
 refine ⟨h.sx hd hi du rfl (λ T=>by simp) (λ k' j' T1 e=>?_) (λ _ _=>rfl) (λ i' k' j' T1 _ e=>(h.mL i' k' j' T1 e).2.2.1) B0 (.inr ⟨j,rfl⟩),LF hi h.Kk ?_⟩
 ·cases e; exact ⟨rfl,rfl,ok,aFB oj du zx hu hq⟩
 ·rw [hd]
  have:=du.MB ot
  simp only [hu,Bool.false_eq_true,if_false] at this
  simp only [cP,nF]
  rcases this with z | ⟨z1,_,z2,z3,z4⟩
  ·left; omega
  ·right; exact ⟨by omega,z2,z3,z4⟩
theorem Bk.ur(h:Bk F Q T0 D js s n)(hd:D i = .wk k j (.ur js))(hi:i < n) :
  Bk F Q T0 (cB D i (.wk k (j+1) .ud)) (fY js k (j+1)) s n∧MM F Q (cB D i (.wk k (j+1) .ud)) s n < MM F Q D s n:=by
 obtain ⟨ot,oj,oh,ok,on⟩:=h.mL i k j _ hd
 have oj':j < F.J:=oj
 refine ⟨h.sx hd hi .ur rfl (λ T=>by simp) (λ k' j' T1 e=>?_) (λ k' dM=>sA dM) (λ i' k' j' T1 cT e=>?_) trivial (.inr ⟨_,rfl⟩),LF hi h.Kk ?_⟩
 ·cases e; exact ⟨rfl,rfl,sB _ _ _,oj'⟩
 ·
  have hb:=h.rA
  have h1:=hb.ow
  have h2:=hb.l1
  have a1:(cA (D i)).hl=1:=by rw [hd]; rfl
  cases T1 with
  | ul z =>
   have a2:(cA (D i')).hl=1:=by rw [e]; rfl
   have:2≤(cnt D n).hl:=by
    have o6:i' < n:=by
     apply Classical.byContradiction
     intro hn
     rw [h.out i' (by omega)] at e; cases e
    have t1:=(uW (D:=D) hi .no).hl
    have t2:=(Ej (D:=cB D i .no) o6).hl
    rw [fx cT,a2] at t2
    rw [a1] at t1
    simp only [cA,Cn.zero] at t1
    omega
   omega
  | uv z =>
   have a2:(cA (D i')).hl=1:=by rw [e]; rfl
   have:2≤(cnt D n).hl:=by
    have o6:i' < n:=by
     apply Classical.byContradiction
     intro hn
     rw [h.out i' (by omega)] at e; cases e
    have t1:=(uW (D:=D) hi .no).hl
    have t2:=(Ej (D:=cB D i .no) o6).hl
    rw [fx cT,a2] at t2
    rw [a1] at t1
    simp only [cA,Cn.zero] at t1
    omega
   omega
  | ur z =>
   have a2:(cA (D i')).hl=1:=by rw [e]; rfl
   have:2≤(cnt D n).hl:=by
    have o6:i' < n:=by
     apply Classical.byContradiction
     intro hn
     rw [h.out i' (by omega)] at e; cases e
    have t1:=(uW (D:=D) hi .no).hl
    have t2:=(Ej (D:=cB D i .no) o6).hl
    rw [fx cT,a2] at t2
    rw [a1] at t1
    simp only [cA,Cn.zero] at t1
    omega
   omega
  | _=>trivial
 ·rw [hd]
  left
  simp only [cP,gY]
  have:F.J - j=(F.J - (j+1))+1:=by omega
  omega
theorem Bk.quit(h:Bk F Q T0 D js s n)(hd:D i = .wk k j T)(hi:i < n)(du:dh T s .quit s')(hj:j=F.J)(hu:gr T=false) :
  Bk F Q T0 (cB D i .no) js s' n∧MM F Q (cB D i .no) s' n < MM F Q D s n:=by
 obtain ⟨ot,oj,oh,ok,on⟩:=h.mL i k j T hd
 refine ⟨h.sx hd hi du rfl (λ T=>by simp) (λ k' j' T1 e=>by cases e) (λ _ _=>rfl) (λ i' k' j' T1 _ e=>(h.mL i' k' j' T1 e).2.2.1) trivial (.inl (ok.trans hj)),LF hi h.Kk ?_⟩
 rw [hd]
 have:=du.MB ot
 simp only [hu,Bool.false_eq_true,if_false] at this
 simp only [cP,nF]
 rcases this with z | ⟨z1,_,z2,z3,z4⟩
 ·left; omega
 ·right; have z5:gY Lp.quit=0:=rfl; subst hj; exact ⟨by omega,z2,z3,z4⟩
theorem aGJ(du:gg T0 s iE s')(h:iE ≠ .fin):rem iE=rem T0:=by cases du <;> rfl
theorem Bk.aFe(h:Bk F Q T0 D js s n)(du:gg T0 s iE s')(hf:iE ≠ .fin):Bk F Q iE (cB D 0 (.mn iE)) js s' n∧MM F Q (cB D 0 (.mn iE)) s' n < MM F Q D s n:=by
 have hr:=aGJ du hf
 have vk:=uW (D:=D) h.pos (.mn iE)
 rw [h.d0] at vk
 have ec:cnt (cB D 0 (.mn iE)) n=cnt D n:=by
  obtain ⟨g1,g2,g3,g4,g5,g6,g7,g8,g9,c8,cK,cL,cM⟩:=vk
  simp only [cA,Cn.zero,Nat.add_zero] at *
  generalize cnt (cB D 0 (.mn iE)) n=c' at *
  generalize cnt D n=c at *
  cases c; cases c'; simp only [Cn.mk.injEq] at *
  exact ⟨g1,g2,g3,g4,g5,g6,g7,g8,g9,c8,cK,cL,cM⟩
 have key:∀ i' k' j' T1,cB D 0 (.mn iE) i' = .wk k' j' T1→D i' = .wk k' j' T1:=λ i' k' j' T1 e=>by
  by_cases e0:i'=0
  ·subst e0; rw [jr] at e; cases e
  ·rwa [fx e0] at e
 refine ⟨⟨jr _ _ _,hf,h.pos,λ i' o6=>by rw [fx (by have:=h.pos; omega)]; exact h.out i' o6,λ i' T hT=>?_,by rw [ec]; exact h.rA.main du,by rw [ec]; exact h.aig.main du,λ i' k' j' T1 e=>by rw [hr]; exact h.mL i' k' j' T1 (key _ _ _ _ e),
  λ i1 i2 k' j1 j2 T1 T2 h1 h2=>h.xH _ _ _ _ _ _ _ (key _ _ _ _ h1) (key _ _ _ _ h2),λ k' dM=>?_,λ k' dM=>h.N1 k' (by rw [← hr]; exact dM),by rw [hr]; exact h.Ht⟩,LF h.pos h.Kk ?_⟩
 ·by_cases e0:i'=0
  ·exact e0
  ·rw [fx e0] at hT; exact h.main i' T hT
 ·rcases h.done k' (by rw [← hr]; exact dM) with z | ⟨i',j',T1,z⟩
  ·exact .inl z
  ·exact .inr ⟨i',j',T1,by rw [fx (λ e=>by subst e; rw [h.d0] at z; cases z)]; exact z⟩
 ·rw [h.d0]; exact du.MB
theorem Ov(r:Nat):rem (kg r)=r:=by cases r <;> rfl
theorem aFw(r:Nat):kg r ≠ .fin:=by cases r <;> simp [kg]
theorem Bk.spawn{r:Nat}(h:Bk F Q (.go r) D js s n):Bk F Q (kg r) (cB (cB D n (.wk (F.N - (r+1)) 0 .ld)) 0 (.mn (kg r))) js s (n+1)∧MM F Q (cB (cB D n (.wk (F.N - (r+1)) 0 .ld)) 0 (.mn (kg r))) s (n+1) < MM F Q D s n:=by
 have vk:=aa0 (D:=D) h.pos (.mn (kg r)) (.wk (F.N - (r+1)) 0 .ld) rfl (by rw [h.d0]; rfl)
 have gF:=h.pos
 have hle:=h.aig.le
 simp only [rem] at hle
 have hrN:r+1≤F.N:=by omega
 have key:∀ i' k' j' T1,cB (cB D n (.wk (F.N - (r+1)) 0 .ld)) 0 (.mn (kg r)) i' = .wk k' j' T1→(i'=n∧k'=F.N - (r+1)∧j'=0∧T1 = .ld)∨D i' = .wk k' j' T1:=λ i' k' j' T1 e=>by
  by_cases e0:i'=0
  ·subst e0; rw [jr] at e; cases e
  ·rw [fx e0] at e
   by_cases en:i'=n
   ·subst en; rw [jr] at e; cases e; exact .inl ⟨rfl,rfl,rfl,rfl⟩
   ·rw [fx en] at e; exact .inr e
 refine ⟨⟨jr _ _ _,aFw r,by omega,λ i' o6=>by rw [fx (by omega),fx (by omega)]; exact h.out i' (by omega),λ i' T hT=>?_,h.rA.spawn h.aig vk,h.aig.spawn vk,λ i' k' j' T1 e=>?_,λ i1 i2 k' j1 j2 T1 T2 h1 h2=>?_,λ k' dM=>?_,λ k' dM=>?_,?_⟩,aiH gF ?_ ?_⟩
 ·by_cases e0:i'=0
  ·exact e0
  ·rw [fx e0] at hT
   by_cases en:i'=n
   ·subst en; rw [jr] at hT; cases hT
   ·rw [fx en] at hT; exact h.main i' T hT
 ·rw [Ov]
  rcases key i' k' j' T1 e with ⟨rfl,rfl,rfl,rfl⟩ | z
  ·exact ⟨trivial,F.hJ,trivial,h.N1 _ (by simp only [rem]; omega),by omega⟩
  ·obtain ⟨a1,a2,a3,a4,a5⟩:=h.mL i' k' j' T1 z
   simp only [rem] at a5
   exact ⟨a1,a2,a3,a4,by omega⟩
 ·rcases key i1 k' j1 T1 h1 with ⟨q1,e1,_,_⟩ | z1 <;> rcases key i2 k' j2 T2 h2 with ⟨q2,e2,_,_⟩ | z2
  ·exact q1.trans q2.symm
  ·have:=(h.mL i2 _ j2 T2 z2).2.2.2.2; simp only [rem] at this; omega
  ·have:=(h.mL i1 _ j1 T1 z1).2.2.2.2; simp only [rem] at this; omega
  ·exact h.xH _ _ _ _ _ _ _ z1 z2
 ·rw [Ov] at dM
  by_cases e:k'+(r+1) < F.N
  ·rcases h.done k' e with z | ⟨i',j',T1,z⟩
   ·exact .inl z
   ·refine .inr ⟨i',j',T1,?_⟩
    rw [fx (λ e=>by rw [e,h.d0] at z; cases z),fx (λ e=>by rw [e,h.out n (Nat.le_refl _)] at z; cases z)]; exact z
  ·exact .inr ⟨n,0,.ld,by rw [fx (by omega),jr]; congr 1; omega⟩
 ·rw [Ov] at dM; exact h.N1 k' (by simp only [rem]; omega)
 ·rw [Ov]; have:=h.Ht; simp only [rem] at this; omega
 ·have:=h.Ht; simp only [rem] at this; omega
 ·rw [h.d0]
  have:=aHn F.J r
  simp only [cP]
  omega
end
end Go.Lg
namespace Go.Lg
open Go.Conc Go.ConcN
theorem A0.De{P:Program}{B:Base}{main:Bool}{K:ax→aj→Goroutine→Prop}{T:Tree}{R:ax}{H:aj}{g:Goroutine}(h:A0 P B main K T R H g)(hs:∀ R H g,K R H g→g.status = .running):g.status = .running:=by
 induction T generalizing R H g with
 | node ι f ih =>
  rcases h with h | ⟨h,_⟩ | ⟨R',H',i,_,h⟩
  ·exact hs _ _ _ h
  ·exact h
  ·exact ih i h
theorem Ck{gs:Array Goroutine}{i:Nat}{g:Goroutine}(h:gs[i]? = some g):i < gs.size:=(Array.getElem?_eq_some_iff.1 h).1
theorem Hb.woken{P:Program}{K:Goroutine→Prop}{z z':Prop}{a a' x:Goroutine}{w:World}(h:Hb K z x)(hz:(mayWake P a=true∧a'.status ≠ .blocked∧a'.status ≠ .waiting)∨(z→z')):Hb K z' (woken P a a' w x):=by
 obtain ⟨g0,hK,hr,ho,hg⟩:=h
 refine ⟨g0,hK,hr,ho,?_⟩
 rcases hg with rfl | ⟨rfl,Wq⟩
 ·left
  unfold Conc.woken
  split
  ·exact again_running _ (.inl hr)
  ·rfl
 ·rcases hz with ⟨h1,h2,h3⟩ | hz
  ·left
   unfold Conc.woken
   rw [if_pos (by simp [h1,h2,h3])]
   obtain ⟨f,c,st,d,o⟩:=g0
   simp only at hr ho
   subst hr ho
   rfl
  ·unfold Conc.woken
   split
   ·left
    obtain ⟨f,c,st,d,o⟩:=g0
    simp only at hr ho
    subst hr ho
    rfl
   ·right; exact ⟨rfl,hz Wq⟩
theorem A1.run{P:Program}{K:Goroutine→Prop}(hK:∀ g,K g→g.status = .running):∀ {q:Nat} {g:Goroutine},A1 P K q g→g.status = .running
 | 0,_,h=>hK _ h
 | _+1,_,h=>h.elim (hK _) (·.1)
section
variable {F:Fx} {Q:Nat} {T0:Mp} {D:Nat→Ab} {m:Nat→Ms} {js:Nat→Nat} {s s':Sh} {th:Nat→Option Th} {mu:Nat→Bool} {dd:Nat→Nat} {gs:Array Goroutine} {w:World} {t:Trace} {sl:Option (Nat × Nat)} {i:Nat} {g:Goroutine}
theorem KW.run{n k j:Nat}{T:Lp}{R:ax}{H:aj}(h:KW F n k j T R H g)(hn:0 < n)(ho:qb F.N T):g.status = .running∧g.offers=none:=by
 cases n with
 | zero=>omega
 | succ n=>have:=h ho; exact ⟨this.1,this.2.1⟩
theorem KM.run{n:Nat}{T:Mp}{R:ax}{H:aj}(h:KM F n T R H g)(hn:0 < n):g.status = .running∧g.offers=none:=by
 cases n with
 | zero=>omega
 | succ n=>exact ⟨h.1,h.2.1⟩
theorem pG.look{μ:Nat}{mm:Ms}{x:Option Th}{b:Bool}{d:Nat}{A:Ab}(h:pG F μ s i mm x b d g A)(Wr:0 < μ)(hT:∀ k j T,A = .wk k j T→qb F.N T) :
  (g.status = .running)∨(g.status = .finished∧A = .no)∨(g.status = .blocked∧mm=none∧((∃ k j c,A = .wk k j (.s1 c)∧s.ms=0)∨(A = .mn .w3∧s.ws=0))):=by
 cases A with
 | no =>
  obtain ⟨_,_,q,_,hq⟩:=h
  rcases hq.status with x | x
  ·exact .inl x
  ·exact .inr (.inl ⟨x,rfl⟩)
 | wk k j T =>
  obtain ⟨_,_,_,y,n,_,hn,h⟩:=h
  have ho:=hT k j T rfl
  split at h
  ·obtain ⟨q,_,hq⟩:=h
   exact .inl (hq.run λ g hg=>(hg.run (by omega) ho).1)
  ·rcases h with ⟨Tr,_,h⟩ | ⟨rfl,⟨c,rfl⟩,g0,hK,hr,_,hg⟩
   ·exact .inl (h.De λ R H g hg=>(KW.run hg (by omega) ho).1)
   ·rcases hg with rfl | ⟨rfl,hz⟩
    ·exact .inl hr
    ·exact .inr (.inr ⟨rfl,rfl,.inl ⟨k,j,c,rfl,hz⟩⟩)
 | mn T =>
  obtain ⟨_,_,_,y,n,_,hn,h⟩:=h
  rcases h with ⟨Tr,_,h⟩ | ⟨rfl,rfl,g0,hK,hr,_,hg⟩
  ·exact .inl (h.De λ R H g hg=>(KM.run hg (by omega)).1)
  ·rcases hg with rfl | ⟨rfl,hz⟩
   ·exact .inl hr
   ·exact .inr (.inr ⟨rfl,rfl,.inr ⟨rfl,hz⟩⟩)
theorem pG.woken{μ K2:Nat}{mm:Ms}{x:Option Th}{b:Bool}{d:Nat}{A:Ab}{a a':Goroutine}{w':World}(h:pG F μ s i mm x b d g A)(Wr:0 < μ)(hT:∀ k j T,A = .wk k j T→qb F.N T)(hle:K2≤μ)
  (hz:(mayWake F.P a=true∧a'.status ≠ .blocked∧a'.status ≠ .waiting)∨(s'.ms≤s.ms∧s'.ws≤s.ws)):pG F K2 s' i mm x b d (Conc.woken F.P a a' w' g) A:=by
 have run:g.status = .running→Conc.woken F.P a a' w' g=g:=λ hr=>by
  unfold Conc.woken
  split
  ·exact again_running _ (.inl hr)
  ·rfl
 cases A with
 | no =>
  obtain ⟨h1,h2,q,h3,hq⟩:=h
  exact ⟨h1,h2,q,h3,by rw [woken_quitsD hq]; exact hq⟩
 | wk k j T =>
  obtain ⟨h1,h2,h3,y,n,h4,hn,h⟩:=h
  have ho:=hT k j T rfl
  refine ⟨h1,h2,h3,y,n,h4,by omega,?_⟩
  split
  ·rename_i hm
   rw [if_pos hm] at h
   obtain ⟨q,h5,hq⟩:=h
   exact ⟨q,h5,by rw [run (hq.run λ g hg=>(hg.run (by omega) ho).1)]; exact hq⟩
  ·rename_i hm
   rw [if_neg hm] at h
   rcases h with ⟨Tr,h5,h⟩ | ⟨h5,h6,hS⟩
   ·exact .inl ⟨Tr,h5,by rw [run (h.De λ R H g hg=>(KW.run hg (by omega) ho).1)]; exact h⟩
   ·exact .inr ⟨h5,h6,hS.woken (hz.imp id λ z h0=>by omega)⟩
 | mn T =>
  obtain ⟨h1,h2,h3,y,n,h4,hn,h⟩:=h
  refine ⟨h1,h2,h3,y,n,h4,by omega,?_⟩
  rcases h with ⟨Tr,h5,h⟩ | ⟨h5,h6,hS⟩
  ·exact .inl ⟨Tr,h5,by rw [run (h.De λ R H g hg=>(KM.run hg (by omega)).1)]; exact h⟩
  ·exact .inr ⟨h5,h6,hS.woken (hz.imp id λ z h0=>by omega)⟩
theorem MI.at(h:MI F Q T0 D m js s th mu dd gs w t)(d:Nat):MI F Q T0 D m js s th mu dd gs (w.at d) t:=⟨h.mem.at d,h.tr,h.vT,h.out,h.bk⟩
theorem MI.mL(h:MI F Q T0 D m js s th mu dd gs w t)(i:Nat):∀ k j T,D i = .wk k j T→qb F.N T:=λ k j T hd=>(h.bk.mL i k j T hd).1
theorem MI.sx(h:MI F Q T0 D m js s th mu dd gs w t)(hi:gs[i]? = some g){x:Ab}{m':Ms}{iE:Mp}{il:Nat→Nat}{jo:Nat→Option Th}{mu':Nat→Bool}{dd':Nat→Nat}{g':Goroutine}{w':World}{t':Trace}
  (hz:(mayWake F.P g=true∧g'.status ≠ .blocked∧g'.status ≠ .waiting)∨(s'.ms≤s.ms∧s'.ws≤s.ws))
  (hM:MM F Q (cB D i x) s' gs.size≤MM F Q D s gs.size) (hm:fl F.B jo (gq F s' il (cnt (cB D i x) gs.size).hl) w') (ht:cX (some (am F)) (some (aw F)) jo mu' dd' [F.bm,F.bw] (pV F (cnt (cB D i x) gs.size).hl) w'.heap.size t')
  (hs:pG F (MM F Q (cB D i x) s' gs.size) s' i m' (jo i) (mu' i) (dd' i) g' x) (ho:∀ j,j≠i→jo j=th j∧mu' j=mu j∧dd' j=dd j) (hb:Bk F Q iE (cB D i x) il s' gs.size) :
  MI F Q iE (cB D i x) (l5 m i m') il s' jo mu' dd' ((gs.map (Conc.woken F.P g g' w')).setIfInBounds i g') w' t':=by
 have bL:=Ck hi
 have fH:((gs.map (Conc.woken F.P g g' w')).setIfInBounds i g').size=gs.size:=by simp
 refine ⟨by rw [fH]; exact hm,by rw [fH]; exact ht,λ j y hj=>?_,λ j hj=>?_,by rw [fH]; exact hb⟩
 ·rw [fH]
  by_cases gi:j=i
  ·subst gi
   rw [Array.getElem?_setIfInBounds_self_of_lt (by simpa using bL)] at hj; cases hj
   rw [jr,Ky]; exact hs
  ·rw [Array.getElem?_setIfInBounds_ne (Ne.symm gi),Array.getElem?_map] at hj
   obtain ⟨z,Wq,rfl⟩:=Option.map_eq_some_iff.1 hj
   obtain ⟨e1,e2,e3⟩:=ho j gi
   rw [fx gi,Gi gi,e1,e2,e3]
   exact (h.vT j z Wq).woken h.bk.r6 (h.mL j) hM hz
 ·rw [fH] at hj
  obtain ⟨e1,e2,e3⟩:=ho j (by omega)
  rw [e1,e2,e3]; exact h.out j hj
theorem aHZ{D:Nat→Ab}{i:Nat}{x:Ab}(h:D i=x):cB D i x=D:=by
 funext j; unfold cB; split
 ·rename_i e; subst e; exact h.symm
 ·rfl
theorem MI.still(h:MI F Q T0 D m js s th mu dd gs w t)(hi:gs[i]? = some g){m':Ms}{jo:Nat→Option Th}{dd':Nat→Nat}{g':Goroutine}{w':World}{t':Trace}(hm:fl F.B jo (gq F s js (cnt D gs.size).hl) w')(ht:cX (some (am F)) (some (aw F)) jo mu dd' [F.bm,F.bw] (pV F (cnt D gs.size).hl) w'.heap.size t')
  (hs:pG F (MM F Q D s gs.size) s i m' (jo i) (mu i) (dd' i) g' (D i)) (ho:∀ j,j≠i→jo j=th j∧dd' j=dd j) :
  MI F Q T0 D (l5 m i m') js s jo mu dd' ((gs.map (Conc.woken F.P g g' w')).setIfInBounds i g') w' t':=by
 have e:=aHZ (D:=D) (i:=i) rfl
 have:=h.sx (x:=D i) (m':=m') (iE:=T0) (il:=js) (s':=s) (jo:=jo) (mu':=mu) (dd':=dd') (g':=g') (w':=w') (t':=t') hi (.inr ⟨Nat.le_refl _,Nat.le_refl _⟩) (by rw [e]; exact Nat.le_refl _) (by rw [e]; exact hm) (by rw [e]; exact ht) (by rw [e]; exact hs) (λ j hj=>⟨(ho j hj).1,rfl,(ho j hj).2⟩) (by rw [e]; exact h.bk)
 rwa [e] at this
end
end Go.Lg
namespace Go.Lg
open Go.Conc Go.ConcN
theorem aa6{t u:Trace}{g:Nat}:∀ {r:Nat},r≤u.size→(t++u).deaf g (t.size+r)=(u.toList.take r).foldl (deafStep g) (Deaf t g)
 | 0,_=>by simp only [Nat.add_zero,List.take_zero,List.foldl_nil]; exact deaf_old (Nat.le_refl _)
 | r+1,h=>by
  have ih:=aa6 (t:=t) (u:=u) (g:=g) (r:=r) (by omega)
  have hr:r < u.size:=by omega
  have hu:(t++u)[t.size+r]? = some u[r]:=by
   rw [Array.getElem?_append_right (by omega),Nat.add_sub_cancel_left,Array.getElem?_eq_getElem hr]
  rw [← Nat.add_assoc,deaf_succ hu,ih]
  have:u.toList.take (r+1)=u.toList.take r++[u[r]]:=by
   rw [List.take_add_one]
   simp [hr]
  rw [this,List.foldl_append]
  rfl
theorem aa7{g:Nat}:∀ {l:List MemOp} {d:Nat},(∀ op∈l,op.act ≠ .mark .enable)→d≤l.foldl (deafStep g) d
 | [],_,_=>Nat.le_refl _
 | y::l,d,h=>by
  have h1:d≤deafStep g d y:=by
   unfold deafStep
   split
   ·split <;> omega
   ·rename_i e; exact absurd e (h y (by simp))
   ·exact Nat.le_refl _
  exact Nat.le_trans h1 (aa7 λ op ao=>h op (List.mem_cons_of_mem _ ao))
section
variable {F:Fx} {th:Nat→Option Th} {mu:Nat→Bool} {dd:Nat→Nat} {s:Sh} {js:Nat→Nat} {hl i:Nat} {w:World} {t:Trace} {fn:FuncId} {pos:String} {es:Array Event} {R:ax} {H:aj}
theorem ad7(h:fl F.B th (gq F s js hl) w):F.bm < w.heap.size:=k6 (h.ni _ _ (yV F s js hl))
theorem NG(h:fl F.B th (gq F s js hl) w):F.bw < w.heap.size:=k6 (h.ni _ _ (yW F s js hl))
theorem ajZ(_:fl F.B th (gq F s js hl) w)(he:pE F es):∀ op∈MemOp.ofEvents i fn pos es,op.g=i∧(op.act = .mark .disable∨op.act = .mark .enable∨∃ a wr,op.act = .access ⟨.cell a,wr,true⟩∧(a.block=F.bm∨a.block=F.bw)):=by
 intro op ao
 obtain ⟨e,ns,rfl⟩:=zZ ao
 refine ⟨rfl,?_⟩
 rcases he with he | ⟨a,ha,rfl⟩
 ·obtain ⟨a,wr,rfl,ha⟩:=he e ns
  exact .inr (.inr ⟨a,wr,by cases wr <;> rfl,ha⟩)
 ·simp only [semEvents,List.mem_toArray,List.mem_cons,List.not_mem_nil,or_false] at ns
  rcases ns with rfl | rfl | rfl | rfl
  ·exact .inl rfl
  ·exact .inr (.inr ⟨a,false,rfl,ha⟩)
  ·exact .inr (.inr ⟨a,true,rfl,ha⟩)
  ·exact .inr (.inl rfl)
theorem ajY(he:pE F es)(d:Nat):deafBehind d es=d:=by
 rcases he with he | ⟨a,_,rfl⟩
 ·obtain ⟨l⟩:=es
  unfold deafBehind
  simp only [List.foldl_toArray']
  induction l with
  | nil=>rfl
  | cons e l ih =>
   obtain ⟨a,wr,rfl,_⟩:=he e (by simp)
   exact ih λ e' MO=>he e' (by simp at MO ⊢; exact .inr MO)
 ·simp [deafBehind,semEvents]
theorem cX.QL(hM:fl F.B th (gq F s js hl) w)(h:cX (some (am F)) (some (aw F)) th mu dd [F.bm,F.bw] (pV F hl) w.heap.size t)(hi:th i=some ⟨R,H⟩)(he:pE F es)(hc:mu i=false∨1≤dd i) :
  cX (some (am F)) (some (aw F)) th mu dd [F.bm,F.bw] (pV F hl) w.heap.size (t++MemOp.ofEvents i fn pos es):=by
 have EJ:=ajZ (i:=i) (fn:=fn) (pos:=pos) hM he
 have:=cX.app (u:=MemOp.ofEvents i fn pos es) (n':=w.heap.size) (R':=R) (H':=H) (d':=dd i) hM rfl (HB F s js hl) (HA F s js hl) h hi (λ op ao=>(EJ op ao).1) (λ op ao a ha=>?_) (λ op ao=>?_) (λ op ao a=>?_) (by rw [Deaf_own,h.deaf i,ajY he]) ?_ (Nat.le_refl _) (λ _ _ x=>.inl x) (λ _ o x=>.inl ⟨o,x⟩)
 ·rwa [Df hi,l6] at this
 ·rcases (EJ op ao).2 with e | e | ⟨a',wr,e,hb⟩ <;> rw [e] at ha
  ·cases ha
  ·cases ha
  ·simp only [MemAct.touch?,Option.some.injEq] at ha
   subst ha
   exact .inr ⟨a'.block,rfl,by rcases hb with hb | hb <;> simp [hb],.inl rfl⟩
 ·rcases (EJ op ao).2 with e | e | ⟨a',wr,e,hb⟩ <;> rw [e]
  ·trivial
  ·trivial
  ·show a'.block < _
   rcases hb with hb | hb <;> rw [hb]
   ·exact ad7 hM
   ·exact NG hM
 ·rcases (EJ op ao).2 with e | e | ⟨a',wr,e,hb⟩ <;> rw [e] <;> intro x <;> cases x
 ·refine hc.imp id λ hd k a hk Ir eV=>?_
  rcases eV with eV | ⟨g,hg,hz⟩
  ·obtain ⟨op,h1,h2⟩:=touch_of Ir
   rcases getElem?_append_cases h1 with ⟨bL,_⟩ | ⟨_,h3⟩
   ·omega
   ·rcases (EJ op h3).2 with e | e | ⟨a',wr,e,hb⟩ <;> rw [e] at h2
    ·cases h2
    ·cases h2
    ·simp only [MemAct.touch?,Option.some.injEq] at h2
     subst h2; exact eV rfl
  ·obtain ⟨op,h1,h2⟩:=touch_of Ir
   have bL:=lt_size_of_getElem? h1
   rw [Array.size_append] at bL
   have S4:g=i:=by
    rcases getElem?_append_cases h1 with ⟨bL,_⟩ | ⟨_,h3⟩
    ·omega
    ·rw [Trace.g?,h1] at hg
     simp only [Option.map_some,Option.some.injEq] at hg
     rw [← hg]; exact (EJ op h3).1
   subst S4
   obtain ⟨r,rfl⟩:∃ r,k=t.size+r:=⟨k - t.size,by omega⟩
   rw [aa6 (by omega),h.deaf g] at hz
   have hup:dd g≤((MemOp.ofEvents g fn pos es).toList.take r).foldl (deafStep g) (dd g):=by
    refine aa7 λ op' TD=>?_
    rcases he with he | ⟨a',ha',rfl⟩
    ·have hm:op'∈MemOp.ofEvents g fn pos es:=by simpa using List.mem_of_mem_take TD
     obtain ⟨e,ns,rfl⟩:=zZ hm
     obtain ⟨a',wr,rfl,_⟩:=he e ns
     cases wr <;> (intro x; cases x)
    ·have hr:r≤3:=by simp [MemOp.ofEvents,semEvents] at bL; omega
     have e4:(MemOp.ofEvents g fn pos (semEvents a')).toList=[⟨g,fn,pos,.mark .disable⟩,⟨g,fn,pos,.access ⟨.cell a',false,true⟩⟩,⟨g,fn,pos,.access ⟨.cell a',true,true⟩⟩,⟨g,fn,pos,.mark .enable⟩]:=by simp [MemOp.ofEvents,semEvents,MemAct.ofEvent]
     rw [e4] at TD
     have h3:op'∈[(⟨g,fn,pos,.mark .disable⟩:MemOp),⟨g,fn,pos,.access ⟨.cell a',false,true⟩⟩,⟨g,fn,pos,.access ⟨.cell a',true,true⟩⟩]:=by
      have:([(⟨g,fn,pos,.mark .disable⟩:MemOp),⟨g,fn,pos,.access ⟨.cell a',false,true⟩⟩,⟨g,fn,pos,.access ⟨.cell a',true,true⟩⟩,⟨g,fn,pos,.mark .enable⟩]).take r <+: ([(⟨g,fn,pos,.mark .disable⟩:MemOp),⟨g,fn,pos,.access ⟨.cell a',false,true⟩⟩,⟨g,fn,pos,.access ⟨.cell a',true,true⟩⟩,⟨g,fn,pos,.mark .enable⟩]).take 3:=List.take_prefix_take_left hr
      exact this.subset TD
     simp only [List.mem_cons,List.not_mem_nil,or_false] at h3
     rcases h3 with rfl | rfl | rfl <;> (intro x; cases x)
   omega
theorem cX.word{m:Mark}{Z3 Z8:Option Addr}{sh:List Nat}{fr:Option Nat}{n:Nat}(h:cX Z3 Z8 th mu dd sh fr n t)(hm:m = .disable∨m = .enable) :
  cX Z3 Z8 th mu (fY dd i (deafBehind (dd i) (said m))) sh fr n (t++MemOp.ofEvents i fn pos (said m)):=by
 refine h.leaves λ e he=>?_
 simp only [said,List.mem_toArray,List.mem_cons,List.not_mem_nil,or_false] at he
 subst he
 rcases hm with rfl | rfl <;> rfl
end
end Go.Lg
namespace Go.Lg
open Go.Conc Go.ConcN
theorem Me(c:Lc):nZ (hd c)=1:=by unfold hd; split <;> rfl
theorem akQ(c:Lc):nZ (ja c)=1:=by unfold ja; split <;> rfl
theorem aba(m:Wd):nZ (hu m)=1:=by unfold hu; split <;> rfl
theorem NW(c:Lc):jQ (hd c)=false:=by unfold hd; split <;> rfl
theorem aFl(c:Lc):jQ (ja c)=false:=by unfold ja; split <;> rfl
theorem aeF(m:Wd):jQ (hu m)=false:=by unfold hu; split <;> rfl
inductive Lh (F:Fx):Lp→Lp→Array Event→Prop
 | at {T T' es}:pE F es→nZ T'=nZ T→jQ T'=jQ T→Lh F T T' es
 | yY {T T'}:nZ T=0→nZ T'=1→jQ T'=jQ T→Lh F T T' (said .disable)
 | en {T T'}:nZ T=1→nZ T'=0→jQ T'=jQ T→Lh F T T' (said .enable)
theorem SU{c:Lc}{T:Lp}(h1:∀ c,T ≠ .sq c)(h2:∀ c,T ≠ .c2 c):hd c≠T:=by unfold hd; split <;> exact λ e=>by subst e; first | exact h1 _ rfl | exact h2 _ rfl
theorem XL{c:Lc}{T:Lp}(h1:∀ c,T ≠ .c1 c)(h2:∀ c,T ≠ .r1 c):ja c≠T:=by unfold ja; split <;> exact λ e=>by subst e; first | exact h1 _ rfl | exact h2 _ rfl
theorem Vq{m:Wd}{T:Lp}(h1:T ≠ .ue)(h2:∀ c,T ≠ .uc c):hu m≠T:=by unfold hu; split <;> exact λ e=>by subst e; first | exact h1 rfl | exact h2 _ rfl
theorem dh.inv{s s':Sh}{T T':Lp}(h:dh T s T' s'):(∀ js,T' = .ul js→T = .la)∧(T' = .ud→gr T=true)∧(T' = .quit→T = .d1∨T = .d4):=by
 have k1:∀ c,(∀ js,hd c = .ul js→T = .la)∧(hd c = .ud→gr T=true)∧(hd c = .quit→T = .d1∨T = .d4):=λ c=>⟨λ js e=>absurd e (SU (by simp) (by simp)),λ e=>absurd e (SU (by simp) (by simp)),λ e=>absurd e (SU (by simp) (by simp))⟩
 have k2:∀ c,(∀ js,ja c = .ul js→T = .la)∧(ja c = .ud→gr T=true)∧(ja c = .quit→T = .d1∨T = .d4):=λ c=>⟨λ js e=>absurd e (XL (by simp) (by simp)),λ e=>absurd e (XL (by simp) (by simp)),λ e=>absurd e (XL (by simp) (by simp))⟩
 have k3:∀ c,(∀ js,hu c = .ul js→T = .la)∧(hu c = .ud→gr T=true)∧(hu c = .quit→T = .d1∨T = .d4):=λ c=>⟨λ js e=>absurd e (Vq (by simp) (by simp)),λ e=>absurd e (Vq (by simp) (by simp)),λ e=>absurd e (Vq (by simp) (by simp))⟩
 cases h
 case r0=>exact k1 _
 case r1=>exact k1 _
 case r3=>exact k1 _
 case xV=>exact k1 _
 case ye=>exact k2 _
 case yf=>exact k3 _
 case ux=>exact k3 _
 case wO c _ _=>cases c.ws <;> simp
 case s1 c _ _=>cases c.sv <;> simp
 all_goals simp [gr]
theorem Kb(i:Nat)(fn:FuncId)(pos:String)(m:Mark):MemOp.ofEvents i fn pos (said m)=#[⟨i,fn,pos,.mark m⟩]:=by simp [MemOp.ofEvents,said,MemAct.ofEvent]
section
variable {F:Fx} {Q:Nat} {T0:Mp} {D:Nat→Ab} {m:Nat→Ms} {js:Nat→Nat} {s s':Sh} {th:Nat→Option Th} {mu:Nat→Bool} {dd:Nat→Nat} {gs:Array Goroutine} {w w':World} {t:Trace} {sl:Option (Nat × Nat)} {i k j:Nat} {g g':Goroutine} {T T':Lp}
theorem dh.Yj(h:dh T s T' s'):(T = .us∨T = .d4)∨(s'.ms≤s.ms∧s'.ws≤s.ws):=by
 cases h
 case us=>exact .inl (.inl rfl)
 case d4=>exact .inl (.inr rfl)
 case s1 c m h=>exact .inr ⟨by simp only; omega,Nat.le_refl _⟩
 all_goals exact .inr ⟨Nat.le_refl _,Nat.le_refl _⟩
theorem gg.Yj{T T':Mp}(h:gg T s T' s'):s'.ms≤s.ms∧s'.ws≤s.ws:=by
 cases h
 case w3 m h=>exact ⟨Nat.le_refl _,by simp only; omega⟩
 all_goals exact ⟨Nat.le_refl _,Nat.le_refl _⟩
theorem evK(du:dh T s T' s'){es:Array Event}(he:Ep F T es)(h1:T ≠ .la)(h2:gr T=false)(h3:T ≠ .wr)(hq:T' ≠ .quit):Lh F T T' es:=by
 cases du
 case ld=>rw [show es=said .disable from he]; exact .yY rfl rfl rfl
 case ud=>rw [show es=said .disable from he]; exact .yY rfl rfl rfl
 case le=>rw [show es=said .enable from he]; exact .en rfl rfl rfl
 case OK=>rw [show es=said .enable from he]; exact .en rfl rfl rfl
 case OL=>rw [show es=said .enable from he]; exact .en rfl rfl rfl
 case wk=>rw [show es=said .disable from he]; exact .yY rfl rfl rfl
 case la=>exact absurd rfl h1
 case ur=>cases h2
 case wr=>exact absurd rfl h3
 case HF=>exact absurd rfl hq
 case d4=>exact absurd rfl hq
 case r0=>exact .at he (Me _) (NW _)
 case r1=>exact .at he (Me _) (NW _)
 case r3=>exact .at he (Me _) (NW _)
 case xV=>exact .at he (Me _) (NW _)
 case ye=>exact .at he (akQ _) (aFl _)
 case wO c _ _=>exact .at he (by cases c.ws <;> rfl) (by cases c.ws <;> rfl)
 case s1 c _ _=>exact .at he (by cases c.sv <;> rfl) (by cases c.sv <;> rfl)
 case yf=>exact .at he (aba _) (aeF _)
 case ux=>exact .at he (aba _) (aeF _)
 all_goals exact .at he rfl rfl
theorem aFp{K:Nat→Lp→ax→aj→Goroutine→Prop}{R:ax}{H:aj}(du:dh T s T' s')(h1:T ≠ .la)(h2:gr T=false)(hq:T' ≠ .quit)(h:wJ F K k j T T' R H g') :
  if jQ T' then ∃ q,A1 F.P (K j T' R H) q g' else Own F.P F.B false (K j T') R H g':=by
 cases hT:T' with
 | quit=>exact absurd hT hq
 | ul js=>exact absurd (du.inv.1 js hT) h1
 | ud=>rw [du.inv.2.1 hT] at h2; cases h2
 | _=>subst hT; exact h
theorem akK(h:MI F Q T0 D m js s th mu dd gs w t)(hi:gs[i]? = some g)(hd:D i = .wk k j T):0 < i∧dd i=nZ T∧mu i=jQ T:=by
 have:=h.vT i g hi
 rw [hd] at this
 exact ⟨this.1,this.2.1,this.2.2.1⟩
theorem MI.work(h:MI F Q T0 D m js s th mu dd gs w t)(hi:gs[i]? = some g)(hd:D i = .wk k j T){y:Th}(hy:th i=some y){n:Nat}(hn:MM F Q D s gs.size≤n)(hK:KW F n k j T y.R y.H g) :
  ((∃ c,T = .s1 c)∧s.ms=0∧stepG F.P false g w = .go { g with status:=.blocked } w #[]) ∨
  ∃ ie w' ops D' m' il s' jo mu' dd',(∀ sl,runT F.P (crowd gs w sl) i=(.next (crowd ie w' sl),ops))∧ie.size=gs.size∧MI F Q T0 D' m' il s' jo mu' dd' ie w' (t++ops)∧MM F Q D' s' ie.size < MM F Q D s gs.size:=by
 have bL:=Ck hi
 obtain ⟨gF,iT,dp⟩:=akK h hi hd
 have tx:(i == 0)=false:=by simp; omega
 obtain ⟨ot,oj,oh,ok,on⟩:=h.bk.mL i k j T hd
 have hle:=Ej (D:=D) bL
 rw [hd] at hle
 have hMp:=h.bk.r6
 obtain ⟨n',rfl⟩:∃ n',n=n'+1:=⟨n - 1,by omega⟩
 obtain ⟨j5,aSN,asM,cQ⟩:=hK ot
 obtain ⟨R,H⟩:=y
 rcases cQ w s (h.mem.fits i _ hy) (Qe h.mem) (h.bk.rA.CW hle) (h.bk.aig.okW hle) with hb | ⟨g',w',es,T',s',du,zx,jH,cQ,mF,MV⟩
 ·exact .inl hb
 right
 have hr:∀ sl,runT F.P (crowd gs w sl) i=(.next (crowd ((gs.map (Conc.woken F.P g g' w')).setIfInBounds i g') w' sl),MemOp.ofEvents i g.frame.fn g.frame.place es):=λ sl=>runT_crowd_go hi (by rw [tx]; exact cQ)
 have fH:((gs.map (Conc.woken F.P g g' w')).setIfInBounds i g').size=gs.size:=by simp
 have hbm:=ad7 h.mem
 have hbw:=NG h.mem
 have wk:(g'.status = .running∨g'.status = .finished)→(mayWake F.P g=true∧g'.status ≠ .blocked∧g'.status ≠ .waiting)∨(s'.ms≤s.ms∧s'.ws≤s.ws):=λ hs=>by
  rcases du.Yj with hx | hx
  ·exact .inl ⟨asM hx,by rcases hs with e | e <;> rw [e] <;> simp,by rcases hs with e | e <;> rw [e] <;> simp⟩
  ·exact .inr hx
 have other:∀ (x1:Option Th) (x2:Bool) (x3:Nat),∀ j,j≠i→fO th i x1 j=th j∧nK mu i x2 j=mu j∧fY dd i x3 j=dd j:=λ x1 x2 x3 j hj=>⟨ey hj,X2 hj,sA hj⟩
 have NY:nK mu i (mu i)=mu:=by funext j; unfold nK; split <;> simp [*]
 by_cases hq:T' = .quit
 ·
  subst hq
  obtain ⟨q,hq⟩:=MV
  have zf:(T = .d1∨T = .d4):=du.inv.2.2 rfl
  have hjJ:j=F.J:=by rcases zf with rfl | rfl <;> exact oj
  have asO:mu i=true:=by rw [dp]; rcases zf with rfl | rfl <;> rfl
  have SS:dd i=1:=by rw [iT]; rcases zf with rfl | rfl <;> rfl
  have jF:pE F es:=by rcases zf with rfl | rfl <;> exact jH
  obtain ⟨mB,nj⟩:=h.bk.quit hd bL du hjJ (by rcases zf with rfl | rfl <;> rfl)
  have eV:(cnt (cB D i .no) gs.size).hl=(cnt D gs.size).hl:=by
   have:=(uW (D:=D) bL .no).hl
   rw [hd] at this
   rcases zf with rfl | rfl <;> simpa [cA,cW,Cn.busy,Cn.zero] using this
  have mH:=(cX.QL (fn:=g.frame.fn) (pos:=g.frame.place) h.mem h.tr hy jF (.inr (by omega))).die asO
  rw [← mF.size] at mH
  refine ⟨_,_,_,_,l5 m i (some (qX q)),js,s',fO th i none,nK mu i (mu i),fY dd i (dd i),hr,fH,h.sx hi (wk hq.status) (Nat.le_of_lt nj) (by rw [eV]; exact fl.drop (h.mem.put mF)) (by rw [eV,NY,l6]; exact mH) ?_ (other _ _ _) mB,by rw [fH]; exact nj⟩
  rw [ff,sB,SS]
  exact ⟨rfl,gF,q,rfl,hq⟩
 by_cases Is:T = .la
 ·
  subst Is
  cases du
  obtain ⟨T2,tq⟩:=MV js ok
  obtain ⟨mB,nj⟩:=h.bk.work (T':=.ul js) hd bL .la trivial rfl rfl (by simp)
  have MU:=mB.r6
  have xb:MM F Q (cB D i (.wk k j (.ul js))) s gs.size≤n':=by omega
  have MT:(cnt D gs.size).hl=0:=by
   have:=h.bk.rA.ow; have:=h.bk.rA.l1
   have:=hle.ow
   simp only [cA,cW,Cn.busy,Cn.zero] at this
   omega
  have tz:(cnt (cB D i (.wk k j (.ul js))) gs.size).hl=1:=by
   have:=(uW (D:=D) bL (.wk k j (.ul js))).hl
   rw [hd] at this
   simp only [cA,cW,Cn.busy,Cn.zero] at this
   omega
  have e1:es=said (.acquire (am F)):=jH
  subst e1
  have hm:=h.mem
  have ht:=h.tr
  rw [MT] at hm ht
  have pY:dd i=0:=by rw [iT]; rfl
  have mH:=cX.acquire (b:=F.bo) (o:=F.cont js) (y:=⟨i,g.frame.fn,g.frame.place,.mark (.acquire (am F))⟩) ht hy rfl rfl pY hbm
  rw [← mF.size,← Kb] at mH
  refine ⟨_,_,_,_,l5 m i (some T2),js,s,fO th i (some ⟨R,(F.bo,F.cont js)::H⟩),nK mu i (mu i),fY dd i 0,hr,fH,h.sx hi (wk (.inl (tq.De λ R H g hg=>(KW.run hg (by omega) trivial).1))) (Nat.le_of_lt nj) (by rw [tz]; exact fl.take (hm.put mF) hy (by omega)) (by rw [tz,NY,show fY dd i 0=dd by rw [← pY]; exact l6 _ _]; exact mH) ?_ (other _ _ _) mB,by rw [fH]; exact nj⟩
  rw [ff,sB,OM,dp]
  exact ⟨gF,rfl,rfl,_,n',rfl,xb,.inl ⟨T2,rfl,tq⟩⟩
 by_cases hur:gr T=true
 ·
  cases T with
  | ur js0 =>
   have hjj:js0=js:=oh
   subst hjj
   cases du
   obtain ⟨js1,H',e1,e2,T2,tq⟩:=MV
   cases e1
   subst e2
   obtain ⟨mB,nj⟩:=h.bk.ur hd bL
   have MU:=mB.r6
   have xb:MM F Q (cB D i (.wk k (j+1) .ud)) s gs.size≤n':=by omega
   have tz:(cnt D gs.size).hl≠0:=by
    have:=hle.hl
    simp only [cA,cW,Cn.busy,Cn.zero] at this
    omega
   have MT:(cnt (cB D i (.wk k (j+1) .ud)) gs.size).hl=0:=by
    have:=(uW (D:=D) bL (.wk k (j+1) .ud)).hl
    rw [hd] at this
    simp only [cA,cW,Cn.busy,Cn.zero] at this
    have:=h.bk.rA.ow; have:=h.bk.rA.l1
    omega
   have e1:es=said (.releaseMerge (am F)):=jH
   subst e1
   have pY:dd i=0:=by rw [iT]; rfl
   have ht:=h.tr
   rw [show pV F (cnt D gs.size).hl=none by simp [pV,tz]] at ht
   have mH:=cX.release (H':=H') (y:=⟨i,g.frame.fn,g.frame.place,.mark (.releaseMerge (am F))⟩) ht hy (List.mem_cons_self) (λ x hx=>List.mem_cons_of_mem _ hx) rfl rfl pY hbm
   rw [← mF.size,← Kb] at mH
   refine ⟨_,_,_,_,l5 m i (some T2),fY js0 k (j+1),s,fO th i (some ⟨R,H'⟩),nK mu i (mu i),fY dd i 0,hr,fH,h.sx hi (wk (.inl (tq.De λ R H g hg=>(KW.run hg (by omega) trivial).1))) (Nat.le_of_lt nj) (by rw [MT]; exact fl.an2 (h.mem.put mF) tz hy) (by rw [MT,NY,show fY dd i 0=dd by rw [← pY]; exact l6 _ _]; exact mH) ?_ (other _ _ _) mB,by rw [fH]; exact nj⟩
   rw [ff,sB,OM,dp]
   exact ⟨gF,rfl,rfl,_,n',rfl,xb,.inl ⟨T2,rfl,tq⟩⟩
  | _=>cases hur
 have Nf:gr T=false:=by simpa using hur
 have B0:z9 js T':=by
  cases du
  case la=>exact absurd rfl Is
  case ul=>exact oh
  case r0=>exact N5 _
  case r1=>exact N5 _
  case r3=>exact N5 _
  case xV=>exact N5 _
  case ye=>exact aFz _
  case wO c _ _=>cases c.ws <;> trivial
  case s1 c _ _=>cases c.sv <;> trivial
  case yf=>exact aeO _
  case ux=>exact aeO _
  all_goals trivial
 obtain ⟨mB,nj⟩:=h.bk.work hd bL du zx B0 Nf hq
 have MU:=mB.r6
 have xb:MM F Q (cB D i (.wk k j T')) s' gs.size≤n':=by omega
 have zq:=aFp du Is Nf hq MV
 have oT':qb F.N T':=by
  have:=mB.mL i k j T' (jr _ _ _)
  exact this.1
 have eV:(cnt (cB D i (.wk k j T')) gs.size).hl=(cnt D gs.size).hl:=by
  have:=(uW (D:=D) bL (.wk k j T')).hl
  rw [hd] at this
  have e:(cW T').hl=(cW T).hl:=by
   cases du
   case la=>exact absurd rfl Is
   case ur=>cases Nf
   case r0=>rw [rE]; rfl
   case r1=>rw [rE]; rfl
   case r3=>rw [rE]; rfl
   case xV=>rw [rE]; rfl
   case ye=>rw [Ri]; rfl
   case wO c _ _=>cases c.ws <;> rfl
   case s1 c _ _=>cases c.sv <;> rfl
   case Kl c _=>generalize (c.sv && _)=b; cases b <;> rfl
   case a1 b=>cases b <;> rfl
   case yf=>unfold hu; split <;> rfl
   case ux=>unfold hu; split <;> rfl
   all_goals rfl
  simp only [cA] at this
  omega
 have S2:g'.status = .running:=by
  cases hm:jQ T' with
  | true =>
   simp only [hm,if_true] at zq
   obtain ⟨q,hq⟩:=zq
   exact hq.run λ g hg=>(hg.run (by omega) oT').1
  | false =>
   simp only [hm,Bool.false_eq_true,if_false] at zq
   obtain ⟨T2,tq⟩:=zq
   exact tq.De λ R H g hg=>(KW.run hg (by omega) oT').1
 obtain ⟨m',TU⟩:∃ m',pG F (MM F Q (cB D i (.wk k j T')) s' gs.size) s' i m' (some ⟨R,H⟩) (jQ T') (nZ T') g' (.wk k j T'):=by
  cases hm:jQ T' with
  | true =>
   simp only [hm,if_true] at zq
   obtain ⟨q,hq⟩:=zq
   exact ⟨some (qX q),gF,rfl,hm.symm,_,n',rfl,xb,by rw [if_pos hm]; exact ⟨q,rfl,hq⟩⟩
  | false =>
   simp only [hm,Bool.false_eq_true,if_false] at zq
   obtain ⟨T2,tq⟩:=zq
   exact ⟨some T2,gF,rfl,hm.symm,_,n',rfl,xb,by rw [if_neg (by simp [hm])]; exact .inl ⟨T2,rfl,tq⟩⟩
 have mH:cX (some (am F)) (some (aw F)) th (nK mu i (jQ T')) (fY dd i (nZ T')) [F.bm,F.bw] (pV F (cnt D gs.size).hl) w.heap.size (t++MemOp.ofEvents i g.frame.fn g.frame.place es):=by
  by_cases vl:T = .wr
  ·subst vl
   cases du
   have e1:es=said (.releaseMerge (aw F)):=jH
   subst e1
   have pY:dd i=0:=by rw [iT]; rfl
   have:=cX.aIQ (y:=⟨i,g.frame.fn,g.frame.place,.mark (.releaseMerge (aw F))⟩) (i:=i) h.tr rfl rfl pY hbw
   rw [show fY dd i (nZ .wk)=dd by rw [show nZ .wk=dd i from pY.symm]; exact l6 _ _,Kb]
   exact this
  ·have W9:jQ T'=jQ T→nK mu i (jQ T')=mu:=λ e=>by rw [e,← dp]; exact NY
   cases evK du jH Is Nf vl hq with
   | «at» ha e1 e2 =>
    rw [W9 e2,e1,← iT,l6]
    refine cX.QL h.mem h.tr hy ha ?_
    rw [dp,iT]
    cases du <;> first | exact .inl rfl | exact .inr (Nat.le_refl _) | (cases e1)
   | yY e1 e2 e3 =>
    have:=cX.word (i:=i) (fn:=g.frame.fn) (pos:=g.frame.place) h.tr (m:=.disable) (.inl rfl)
    rw [W9 e3,e2]
    rwa [show deafBehind (dd i) (said .disable)=1 by rw [iT,e1]; rfl] at this
   | en e1 e2 e3 =>
    have:=cX.word (i:=i) (fn:=g.frame.fn) (pos:=g.frame.place) h.tr (m:=.enable) (.inr rfl)
    rw [W9 e3,e2]
    rwa [show deafBehind (dd i) (said .enable)=0 by rw [iT,e1]; rfl] at this
 rw [← mF.size] at mH
 refine ⟨_,_,_,_,l5 m i m',js,s',fO th i (some ⟨R,H⟩),nK mu i (jQ T'),fY dd i (nZ T'),hr,fH,h.sx hi (wk (.inl S2)) (Nat.le_of_lt nj) (by rw [eV,Df hy]; exact h.mem.put mF) (by rw [eV,Df hy]; exact mH) (by rw [ff,OM,sB]; exact TU) (other _ _ _) mB,by rw [fH]; exact nj⟩
end
end Go.Lg
namespace Go.Lg
open Go.Conc Go.ConcN
section
variable {F:Fx} {Q:Nat} {T0:Mp} {D:Nat→Ab} {m:Nat→Ms} {js:Nat→Nat} {s s':Sh} {th:Nat→Option Th} {mu:Nat→Bool} {dd:Nat→Nat} {gs:Array Goroutine} {w w':World} {t:Trace} {sl:Option (Nat × Nat)} {i k j:Nat} {g g':Goroutine} {R:ax} {H:aj} {hl:Nat} {fn:FuncId} {pos:String}
theorem cX.aG6{mk:Mark}(hM:fl F.B th (gq F s js hl) w)(h:cX (some (am F)) (some (aw F)) th mu dd [F.bm,F.bw] (pV F hl) w.heap.size t)(hi:th 0=some ⟨R,H⟩)(hm:mk = .read (qt F)∨mk = .write (qt F))(hc:mu 0=false) :
  cX (some (am F)) (some (aw F)) th mu dd [F.bm,F.bw] (pV F hl) w.heap.size (t++MemOp.ofEvents 0 fn pos (said mk)):=by
 rw [Kb]
 have hd:Deaf (t++#[⟨0,fn,pos,.mark mk⟩]) 0=dd 0:=by
  rw [Deaf_push]
  unfold deafStep
  rcases hm with rfl | rfl <;> exact h.deaf 0
 have:=cX.app (u:=#[⟨0,fn,pos,.mark mk⟩]) (n':=w.heap.size) (R':=R) (H':=H) (d':=dd 0) hM rfl (HB F s js hl) (HA F s js hl) h hi (λ op ao=>by rw [xL ao]) (λ op ao a ha=>?_) (λ op ao=>?_) (λ op ao a=>?_) hd (.inl hc) (Nat.le_refl _) (λ _ _ x=>.inl x) (λ _ o x=>.inl ⟨o,x⟩)
 ·rwa [Df hi,l6] at this
 ·rw [xL ao] at ha
  refine .inr ⟨F.bw,?_,by simp,.inr ⟨?_,rfl⟩⟩ <;> rcases hm with rfl | rfl <;> (simp only [MemAct.touch?,Option.some.injEq] at ha; subst ha; rfl)
 ·rw [xL ao]
  rcases hm with rfl | rfl <;> exact NG hM
 ·rw [xL ao]
  rcases hm with rfl | rfl <;> (intro x; cases x)
theorem pG.mono{μ K2:Nat}{mm:Ms}{x:Option Th}{b:Bool}{d:Nat}{A:Ab}(h:pG F μ s i mm x b d g A)(hle:K2≤μ):pG F K2 s i mm x b d g A:=by
 cases A with
 | no=>exact h
 | wk k j T =>
  obtain ⟨h1,h2,h3,y,n,h4,hn,h⟩:=h
  exact ⟨h1,h2,h3,y,n,h4,by omega,h⟩
 | mn T =>
  obtain ⟨h1,h2,h3,y,n,h4,hn,h⟩:=h
  exact ⟨h1,h2,h3,y,n,h4,by omega,h⟩
inductive GY (F:Fx):Mp→Mp→Array Event→Prop
 | at {T T' es}:pE F es→oS T'=oS T→GY F T T' es
 | yY {T T'}:oS T=0→oS T'=1→GY F T T' (said .disable)
 | en {T T'}:oS T=1→oS T'=0→GY F T T' (said .enable)
 | sd {T T' mk}:oS T'=oS T→mk = .read (qt F)∨mk = .write (qt F)→GY F T T' (said mk)
theorem evN{T T':Mp}(du:gg T s T' s'){es:Array Event}(he:Bh F T es)(h1:T ≠ .wq):GY F T T' es:=by
 cases du
 case ka=>rw [show es=said .disable from he]; exact .yY rfl rfl
 case wa=>rw [show es=said .disable from he]; exact .yY rfl rfl
 case ke=>rw [show es=said .enable from he]; exact .en rfl rfl
 case we=>rw [show es=said .enable from he]; exact .en rfl rfl
 case kd=>rw [show es=said (.read (qt F)) from he]; exact .sd rfl (.inl rfl)
 case wW=>rw [show es=said (.write (qt F)) from he]; exact .sd rfl (.inr rfl)
 case wq=>exact absurd rfl h1
 all_goals exact .at he rfl
theorem aa4(h:MI F Q T0 D m js s th mu dd gs w t)(hi:gs[0]? = some g):dd 0=oS T0∧mu 0=false:=by
 have:=h.vT 0 g hi
 rw [h.bk.d0] at this
 exact ⟨this.2.1,this.2.2.1⟩
theorem KM.go_{n r:Nat}(h:KM F (n+1) (.go r) R H g):∀ w s,Fits F.B R H w→fu F s w→r8 F.N (.go r) s→∃ g' child,stepG F.P true g w = .spawn g' child w #[]∧Own F.P F.B false (KW F n (F.N - (r+1)) 0 .ld) R [] child∧Own F.P F.B true (KM F n (kg r)) R H g':=h.2.2
theorem KM.wq_{n:Nat}(h:KM F (n+1) .wq R H g):∀ w s,Fits F.B R H w→fu F s w→r8 F.N .wq s→∃ g' w',stepG F.P true g w = .go g' w' (said (.acquire (aw F)))∧cu F s w w'∧∀ js,(∀ k,k < F.N→js k=F.J)→F.mj R ((F.bo,F.cont js)::H) g':=h.2.2
theorem KM.other{n:Nat}{T:Mp}(h:KM F (n+1) T R H g)(h1:∀ r,T ≠ .go r)(h2:T ≠ .wq):∀ w s,Fits F.B R H w→fu F s w→r8 F.N T s→(T = .w3∧s.ws=0∧stepG F.P true g w = .go { g with status:=.blocked } w #[]) ∨
  ∃ g' w' es T' s',gg T s T' s'∧Bh F T es∧stepG F.P true g w = .go g' w' es∧cu F s' w w'∧Own F.P F.B true (KM F n T') R H g':=by
 cases T <;> first | exact absurd rfl (h1 _) | exact absurd rfl h2 | exact h.2.2
theorem MI.main(h:MI F Q T0 D m js s th mu dd gs w t)(hi:gs[0]? = some g){y:Th}(hy:th 0=some y){n:Nat}(hn:MM F Q D s gs.size≤n)(hK:KM F n T0 y.R y.H g)(h2:T0 ≠ .wq) :
  (T0 = .w3∧s.ws=0∧stepG F.P true g w = .go { g with status:=.blocked } w #[]) ∨
  ∃ iE ie w' ops D' m' il s' jo mu' dd',(∀ sl,runT F.P (crowd gs w sl) 0=(.next (crowd ie w' sl),ops))∧MI F Q iE D' m' il s' jo mu' dd' ie w' (t++ops)∧MM F Q D' s' ie.size < MM F Q D s gs.size:=by
 have bL:=Ck hi
 obtain ⟨iT,dp⟩:=aa4 h hi
 have hMp:=h.bk.r6
 obtain ⟨n',rfl⟩:∃ n',n=n'+1:=⟨n - 1,by omega⟩
 obtain ⟨R,H⟩:=y
 have hf:=h.mem.fits 0 _ hy
 have bn:=Qe h.mem
 have iU:=h.bk.aig.r8
 by_cases h1:∃ r,T0 = .go r
 ·
  right
  obtain ⟨r,rfl⟩:=h1
  obtain ⟨g',child,cQ,⟨T1,hc⟩,⟨T2,hg⟩⟩:=hK.go_ w s hf bn iU
  obtain ⟨mB,nj⟩:=h.bk.spawn
  have MU:=mB.r6
  obtain ⟨o1,o2,o3⟩:=h.out gs.size (Nat.le_refl _)
  have fH:((gs.setIfInBounds 0 g').push child).size=gs.size+1:=by simp
  have hh:(cnt (cB (cB D gs.size (.wk (F.N - (r+1)) 0 .ld)) 0 (.mn (kg r))) (gs.size+1)).hl=(cnt D gs.size).hl:=by
   have:=(aa0 (D:=D) h.bk.pos (.mn (kg r)) (.wk (F.N - (r+1)) 0 .ld) rfl (by rw [h.bk.d0]; rfl)).hl
   simpa [cA,cW,Cn.busy,Cn.zero] using this
  have hr:∀ sl,runT F.P (crowd gs w sl) 0=(.next (crowd ((gs.setIfInBounds 0 g').push child) w sl),#[⟨0,g.frame.fn,g.frame.place,.go gs.size⟩,⟨gs.size,child.frame.fn,g.frame.place,.start⟩]):=λ sl=>by
   have:=runT_crowd_spawn (P:=F.P) (sl:=sl) hi (show stepG F.P (0 == 0) g w=_ from cQ)
   rw [this]
   simp [MemOp.ofEvents]
  have pY:dd 0=0:=by rw [iT]; rfl
  have mH:=h.tr.spawn (c:=gs.size) (x:=⟨0,g.frame.fn,g.frame.place,.go gs.size⟩) (y:=⟨gs.size,child.frame.fn,g.frame.place,.start⟩) hy (aQ.refl R) o1 ⟨rfl,rfl⟩ ⟨rfl,rfl⟩ pY o3 (by omega) o2
  have mE:=h.mem.add (c:=gs.size) hy (aQ.refl R)
  refine ⟨kg r,_,w,_,_,l5 (l5 m gs.size (some T1)) 0 (some T2),js,s,_,mu,fY dd 0 (oS (kg r)),hr,⟨by rw [fH,hh]; exact mE,?_,λ a x ha=>?_,λ a ha=>?_,by rw [fH]; exact mB⟩,by rw [fH]; exact nj⟩
  ·rw [fH,hh]
   have:fY dd 0 (oS (kg r))=dd:=by
    rw [show oS (kg r)=dd 0 by rw [pY]; cases r <;> rfl]; exact l6 _ _
   rw [this]; exact mH
  ·rw [fH]
   by_cases rK:a=0
   ·subst rK
    rw [Array.getElem?_push,if_neg (by simp; omega),Array.getElem?_setIfInBounds_self_of_lt bL] at ha
    cases ha
    rw [jr,Ky,sB,ey (by omega),hy,dp]
    exact ⟨rfl,rfl,rfl,_,n',rfl,by omega,.inl ⟨T2,rfl,hg⟩⟩
   ·by_cases K8:a=gs.size
    ·subst K8
     rw [Array.getElem?_push,if_pos (by simp)] at ha
     cases ha
     rw [fx (by omega),jr,Gi (by omega),Ky,sA (by omega),ff,o2,o3]
     exact ⟨by omega,rfl,rfl,_,n',rfl,by omega,by rw [if_neg (by simp [jQ])]; exact .inl ⟨T1,rfl,hc⟩⟩
    ·rw [Array.getElem?_push,if_neg (by simp; omega),Array.getElem?_setIfInBounds_ne (by omega)] at ha
     rw [fx rK,fx K8,Gi rK,Gi K8,sA rK,ey K8]
     exact (h.vT a x ha).mono (Nat.le_of_lt nj)
  ·rw [fH] at ha
   rw [ey (by omega),sA (by omega)]
   exact h.out a (by omega)
 have Et:∀ r,T0 ≠ .go r:=λ r e=>h1 ⟨r,e⟩
 rcases hK.other Et h2 w s hf bn iU with hb | ⟨g',w',es,T',s',du,jH,cQ,mF,T2,tq⟩
 ·exact .inl hb
 right
 have Ij:T' ≠ .fin:=λ e=>by subst e; cases du; exact h2 rfl
 have hr:∀ sl,runT F.P (crowd gs w sl) 0=(.next (crowd ((gs.map (Conc.woken F.P g g' w')).setIfInBounds 0 g') w' sl),MemOp.ofEvents 0 g.frame.fn g.frame.place es):=λ sl=>runT_crowd_go hi (show stepG F.P (0 == 0) g w=_ from cQ)
 have fH:((gs.map (Conc.woken F.P g g' w')).setIfInBounds 0 g').size=gs.size:=by simp
 obtain ⟨mB,nj⟩:=h.bk.aFe du Ij
 have MU:=mB.r6
 have eV:(cnt (cB D 0 (.mn T')) gs.size).hl=(cnt D gs.size).hl:=by
  have:=(uW (D:=D) bL (.mn T')).hl
  rw [h.bk.d0] at this
  simpa [cA,Cn.zero] using this
 have mH:cX (some (am F)) (some (aw F)) th mu (fY dd 0 (oS T')) [F.bm,F.bw] (pV F (cnt D gs.size).hl) w.heap.size (t++MemOp.ofEvents 0 g.frame.fn g.frame.place es):=by
  cases evN du jH h2 with
  | «at» ha e1 =>
   rw [e1,← iT,l6]
   exact cX.QL h.mem h.tr hy ha (.inl dp)
  | yY e1 e2 =>
   have:=cX.word (i:=0) (fn:=g.frame.fn) (pos:=g.frame.place) h.tr (m:=.disable) (.inl rfl)
   rw [e2]
   rwa [show deafBehind (dd 0) (said .disable)=1 by rw [iT,e1]; rfl] at this
  | en e1 e2 =>
   have:=cX.word (i:=0) (fn:=g.frame.fn) (pos:=g.frame.place) h.tr (m:=.enable) (.inr rfl)
   rw [e2]
   rwa [show deafBehind (dd 0) (said .enable)=0 by rw [iT,e1]; rfl] at this
  | sd e1 e2 =>
   rw [e1,← iT,l6]
   exact cX.aG6 h.mem h.tr hy e2 dp
 rw [← mF.size] at mH
 refine ⟨T',_,_,_,_,l5 m 0 (some T2),js,s',fO th 0 (some ⟨R,H⟩),nK mu 0 (mu 0),fY dd 0 (oS T'),hr,h.sx hi (.inr du.Yj) (Nat.le_of_lt nj) (by rw [eV,Df hy]; exact h.mem.put mF) ?_ ?_ (λ j hj=>⟨ey hj,X2 hj,sA hj⟩) mB,by rw [fH]; exact nj⟩
 ·rw [eV,Df hy,show nK mu 0 (mu 0)=mu by funext j; unfold nK; split <;> simp [*]]; exact mH
 ·rw [ff,OM,sB,dp]
  exact ⟨rfl,rfl,rfl,_,n',rfl,by omega,.inl ⟨T2,rfl,tq⟩⟩
theorem MI.aHP(h:MI F Q .wq D m js s th mu dd gs w t)(hi:gs[0]? = some g){y:Th}(hy:th 0=some y){n:Nat}(hn:MM F Q D s gs.size≤n)(hK:KM F n .wq y.R y.H g) :
  ∃ ie g' w' ops q dd' R' H',(∀ sl,runT F.P (crowd gs w sl) 0=(.next (crowd ie w' sl),ops))∧ie[0]? = some g'∧F.mj R' H' g'∧wC F.P F.B R' H' ie w' (t++ops) q dd':=by
 have bL:=Ck hi
 obtain ⟨iT,dp⟩:=aa4 h hi
 have hMp:=h.bk.r6
 obtain ⟨n',rfl⟩:∃ n',n=n'+1:=⟨n - 1,by omega⟩
 obtain ⟨R,H⟩:=y
 obtain ⟨g',w',cQ,mF,rL⟩:=hK.wq_ w s (h.mem.fits 0 _ hy) (Qe h.mem) h.bk.aig.r8
 have hwg:=h.bk.aig.wg
 obtain ⟨_,_,_,hlv,hdw,hd4⟩:=hwg
 have heq:=h.bk.aig.eq
 have aS0:(cnt D gs.size).jq=0:=by omega
 have aeL:∀ a k j T,D a ≠ .wk k j T:=λ a k j T e=>by
  have ha:a < gs.size:=by
   apply Classical.byContradiction
   intro hn
   rw [h.bk.out a (by omega)] at e; cases e
  have hle:=Ej (D:=D) ha
  rw [e] at hle
  have hq:T ≠ .quit:=λ e'=>by
   have:=(h.bk.mL a k j T e).2.1
   subst e'; exact this
  have e1:=hle.lv
  have e2:=hle.dw
  have e3:=hle.d4
  simp only [cA] at e1 e2 e3
  cases T <;> simp only [cW,Cn.busy,Cn.zero] at e1 e2 e3 <;> first | omega | skip
  case a1 b=>cases b <;> simp only [Bool.false_eq_true,if_false,if_true] at e1 <;> omega
  case quit=>exact hq rfl
 have QA:∀ a,a≠0→D a = .no:=λ a ha=>by
  cases hd:D a with
  | no=>rfl
  | wk k j T=>exact absurd hd (aeL a k j T)
  | mn T=>exact absurd (h.bk.main a T hd) ha
 have hhl:(cnt D gs.size).hl=0:=by
  have:∀ n,df n (λ a=>(cA (D a)).hl)=0:=λ n=>by
   have e:df n (λ a=>(cA (D a)).hl)=df n (λ _=>0):=Kx λ a _=>by
    by_cases ha:a=0
    ·subst ha; rw [h.bk.d0]; rfl
    ·rw [QA a ha]; rfl
   rw [e]
   have hz:∀ n,df n (λ _=>0)=0:=by intro n; induction n with | zero=>rfl | succ n ih=>simp only [df,ih]
   exact hz n
  exact this _
 have Vp:th=only ⟨R,H⟩:=by
  funext a
  unfold only
  split
  ·rename_i e; subst e; exact hy
  ·rename_i e
   rcases Nat.lt_or_ge a gs.size with hl | hg
   ·have:=h.vT a _ (Array.getElem?_eq_getElem hl)
    rw [QA a e] at this
    exact this.1
   ·exact (h.out a hg).1
 have gU:∀ k,k < F.N→js k=F.J:=λ k hk=>by
  rcases h.bk.done k (by simpa [rem] using hk) with z | ⟨a,j,T,z⟩
  ·exact z
  ·exact absurd z (aeL a k j T)
 have pY:dd 0=0:=by rw [iT]; rfl
 have hm:=h.mem.put mF
 have ht:=h.tr
 rw [hhl,Vp] at hm ht
 have Bx:F.bo < w.heap.size:=by rw [← mF.size]; exact k6 (hm.ni F.bo (F.cont js) (by simp [gq]))
 have mH:=cX.aIC (b:=F.bo) (o:=F.cont js) (y:=⟨0,g.frame.fn,g.frame.place,.mark (.acquire (aw F))⟩) ht Bx rfl rfl pY dp (NG h.mem)
 rw [← mF.size,← Kb] at mH
 have mE:=fl.take (hl':=1) hm (i:=0) rfl (by omega)
 rw [N9] at mE
 have hr:∀ sl,runT F.P (crowd gs w sl) 0=(.next (crowd ((gs.map (Conc.woken F.P g g' w')).setIfInBounds 0 g') w' sl),MemOp.ofEvents 0 g.frame.fn g.frame.place (said (.acquire (aw F)))):=λ sl=>runT_crowd_go hi (show stepG F.P (0 == 0) g w=_ from cQ)
 have fH:((gs.map (Conc.woken F.P g g' w')).setIfInBounds 0 g').size=gs.size:=by simp
 refine ⟨_,g',w',_,λ a=>match m a with | some T=>Classical.epsilon λ q=>m a=some (qX q)∧∀ x,gs[a]? = some x→QuitsD F.P q (dd a) x | none=>0,dd,R,(F.bo,F.cont js)::H,hr,Array.getElem?_setIfInBounds_self_of_lt (by simpa using bL),rL js gU,⟨⟨mE.fits,mE.apart,λ c o hc=>(by cases hc),λ c o hc=>(by cases hc)⟩,mH,pY,λ a ha=>(h.out a (by simpa using ha)).2.2,λ a x ha hx=>?_⟩⟩
 rw [Array.getElem?_setIfInBounds_ne (by omega),Array.getElem?_map] at hx
 obtain ⟨z,hz,rfl⟩:=Option.map_eq_some_iff.1 hx
 have hs:=h.vT a z hz
 rw [QA a (by omega)] at hs
 obtain ⟨_,_,q,hq,hQ⟩:=hs
 rw [woken_quitsD hQ]
 have hex:∃ q,m a=some (qX q)∧∀ x,gs[a]? = some x→QuitsD F.P q (dd a) x:=⟨q,hq,λ x hx=>by rw [hz] at hx; cases hx; exact hQ⟩
 have:=(Classical.epsilon_spec hex).2 z hz
 simp only [hq] at this ⊢
 exact this
def Oy(m:Nat→Ms)(gs:Array Goroutine):Nat:=df gs.size λ a=>if (m a).isNone∧(gs[a]?.map (·.status))=some .running then 1 else 0
def G8(a b:Nat × List Ms × Nat):Prop:=a.1 < b.1∨(a.1=b.1∧(One oN a.2.1 b.2.1∨(a.2.1=b.2.1∧a.2.2 < b.2.2)))
theorem G8.wf:WellFounded G8:=by
 have key:∀ p l r,Acc G8 (p,l,r):=by
  intro p
  induction p using Nat.strongRecOn with
  | ind p ihp =>
   intro l
   induction l using One.wf.induction with
   | _ l Wt =>
    intro r
    induction r using Nat.strongRecOn with
    | ind r ihr =>
     refine ⟨_,λ y hy=>?_⟩
     obtain ⟨q,l',r'⟩:=y
     rcases hy with h | ⟨h1,h2 | ⟨h2,h3⟩⟩
     ·exact ihp q h l' r'
     ·simp only at h1; subst h1; exact Wt l' h2 r'
     ·simp only at h1 h2; subst h1 h2; exact ihr r' h3
 exact ⟨λ ⟨p,l,r⟩=>key p l r⟩
def FK(F:Fx)(Q:Nat)(D:Nat→Ab)(m:Nat→Ms)(s:Sh)(gs:Array Goroutine):Nat × List Ms × Nat:=(MM F Q D s gs.size,(List.range gs.size).map m,Oy m gs)
theorem W8{m:Nat→Ms}{n i:Nat}{a b:Ms}(hi:i < n)(hb:m i=b)(hl:oN a b):One oN ((List.range n).map (l5 m i a)) ((List.range n).map m):=by
 have e:(List.range n).map (l5 m i a)=((List.range n).map m).set i a:=by
  apply List.ext_getElem?
  intro j
  rw [List.getElem?_set]
  by_cases hj:i=j
  ·subst hj; simp [hi,Ky]
  ·simp only [hj,if_false,List.getElem?_map]
   cases hr:(List.range n)[j]? with
   | none=>rfl
   | some k =>
    have hk:k=j:=by
     obtain ⟨_,h2⟩:=List.getElem?_eq_some_iff.1 hr
     simpa using h2.symm
    subst hk
    simp [Gi (Ne.symm hj)]
 rw [e]
 exact One.set (by simp [hi,hb]) hl
end
end Go.Lg
namespace Go.Lg
open Go.Conc Go.ConcN
theorem XW{f:Nat→Nat}:∀ {n:Nat},0 < df n f→∃ i,i < n∧0 < f i
 | n+1,h=>by
  simp only [df] at h
  rcases Nat.eq_zero_or_pos (f n) with hz | hp
  ·obtain ⟨i,hi,h2⟩:=XW (n:=n) (f:=f) (by omega)
   exact ⟨i,by omega,h2⟩
  ·exact ⟨n,by omega,hp⟩
section
variable {F:Fx} {Post:Value→World→Prop} {Q:Nat} {T0:Mp} {D:Nat→Ab} {m:Nat→Ms} {js:Nat→Nat} {s s':Sh} {th:Nat→Option Th} {mu:Nat→Bool} {dd:Nat→Nat} {gs:Array Goroutine} {w w':World} {t:Trace} {sl:Option (Nat × Nat)} {i k j:Nat} {g g':Goroutine}
theorem MI.look(h:MI F Q T0 D m js s th mu dd gs w t)(hi:gs[i]? = some g):(g.status = .running)∨(g.status = .finished∧D i = .no)∨(g.status = .blocked∧m i=none∧((∃ k j c,D i = .wk k j (.s1 c)∧s.ms=0)∨(D i = .mn .w3∧s.ws=0))) :=
 (h.vT i g hi).look h.bk.r6 (h.mL i)
theorem MI.awake(h:MI F Q T0 D m js s th mu dd gs w t):∀ x∈gs,awake x:=by
 intro x hx
 obtain ⟨i,hi,rfl⟩:=Array.mem_iff_getElem.1 hx
 rcases h.look (Array.getElem?_eq_getElem hi) with e | ⟨e,_⟩ | ⟨e,_⟩
 ·exact awake_of (.inl e)
 ·exact awake_of (.inr (.inr e))
 ·exact awake_of (.inr (.inl e))
theorem MI.afA(h:MI F Q T0 D m js s th mu dd gs w t):∃ (i:Nat) (g:Goroutine),gs[i]? = some g∧g.status = .running:=by
 apply Classical.byContradiction
 intro BE
 have wkr:∀ i,i < gs.size→∀ k j T,D i = .wk k j T→∃ c,T = .s1 c∧s.ms=0:=λ i hi k j T hd=>by
  rcases h.look (Array.getElem?_eq_getElem hi) with e | ⟨_,e⟩ | ⟨_,_,⟨k',j',c,e,hz⟩ | ⟨e,_⟩⟩
  ·exact absurd ⟨i,_,Array.getElem?_eq_getElem hi,e⟩ BE
  ·rw [hd] at e; cases e
  ·rw [hd] at e; cases e; exact ⟨c,rfl,hz⟩
  ·rw [hd] at e; cases e
 have tZ:∀ f:Cn→Nat,f .zero=0→(∀ c,f (cW (.s1 c))=0)→df gs.size (λ i=>f (cA (D i)))=0:=λ f h0 h1=>by
  apply Classical.byContradiction
  intro hp
  obtain ⟨i,hi,o7⟩:=XW (n:=gs.size) (f:=λ i=>f (cA (D i))) (by omega)
  cases hd:D i with
  | no=>rw [hd] at o7; simp only [cA] at o7; omega
  | mn T=>rw [hd] at o7; simp only [cA] at o7; omega
  | wk k j T =>
   obtain ⟨c,rfl,_⟩:=wkr i hi k j T hd
   rw [hd] at o7; simp only [cA,h1] at o7; omega
 have hw3:T0 = .w3∧s.ws=0:=by
  have hi:=Array.getElem?_eq_getElem h.bk.pos
  rcases h.look hi with e | ⟨_,e⟩ | ⟨_,_,⟨k',j',c,e,hz⟩ | ⟨e,hz⟩⟩
  ·exact absurd ⟨0,_,hi,e⟩ BE
  ·rw [h.bk.d0] at e; cases e
  ·rw [h.bk.d0] at e; cases e
  ·rw [h.bk.d0] at e; cases e; exact ⟨rfl,hz⟩
 obtain ⟨rfl,j6⟩:=hw3
 have hdw:(cnt D gs.size).dw=0:=tZ (·.dw) rfl λ _=>rfl
 have hd4:(cnt D gs.size).d4=0:=tZ (·.d4) rfl λ _=>rfl
 have lQ:(cnt D gs.size).ow=0:=tZ (·.ow) rfl λ _=>rfl
 have hhl:(cnt D gs.size).hl=0:=tZ (·.hl) rfl λ _=>rfl
 have hpu:(cnt D gs.size).pu=0:=tZ (·.pu) rfl λ _=>rfl
 have hpc:(cnt D gs.size).pc=0:=tZ (·.pc) rfl λ _=>rfl
 have hal:(cnt D gs.size).al=0:=tZ (·.al) rfl λ _=>rfl
 have ha1:(cnt D gs.size).a1=0:=tZ (·.a1) rfl λ _=>rfl
 have hak:(cnt D gs.size).ak=0:=tZ (·.ak) rfl λ _=>rfl
 have hux:(cnt D gs.size).ux=0:=tZ (·.ux) rfl λ _=>rfl
 have hwk:(cnt D gs.size).wk=0:=tZ (·.wk) rfl λ _=>rfl
 have hlv:0 < (cnt D gs.size).lv:=by
  rcases h.bk.aig.wg with ⟨_,_,_,h4,⟨_,h6⟩ | ⟨h5,_⟩⟩ | ⟨_,_,_,_,h5⟩
  ·omega
  ·omega
  ·omega
 have heq:=h.bk.aig.eq
 unfold Cn.jq at heq
 have hz:0 < (cnt D gs.size).z:=by omega
 obtain ⟨i,hi,o7⟩:=XW (n:=gs.size) (f:=λ i=>(cA (D i)).z) hz
 have zp:s.ms=0:=by
  cases hd:D i with
  | no=>rw [hd] at o7; simp [cA,Cn.zero] at o7
  | mn T=>rw [hd] at o7; simp [cA,Cn.zero] at o7
  | wk k j T=>exact (wkr i hi k j T hd).choose_spec.2
 have a1:=h.bk.rA.ow
 have a2:=h.bk.rA.md
 have a3:=h.bk.rA.i4
 omega
theorem aFi{gs:Array Goroutine}{g:Goroutine}{w:World}:gs.map (Conc.woken F.P g { g with status:=.blocked } w)=gs:=by
 have:Conc.woken F.P g { g with status:=.blocked } w=id:=by funext o; simp [Conc.woken]
 rw [this,Array.map_id]
theorem MI.ghost(h:MI F Q T0 D m js s th mu dd gs w t)(hi:gs[i]? = some g){m':Ms}{x:Th}{R:ax}{H:aj}(Vp:th i=some ⟨R,H⟩)(hu:fK F.B R H w x.R x.H w)(hs:pG F (MM F Q D s gs.size) s i m' (some x) (mu i) (dd i) g (D i)) :
  MI F Q T0 D (l5 m i m') js s (fO th i (some x)) mu dd gs w t:=by
 obtain ⟨hm,ht⟩:=acv h.mem (HB F s js _) (HA F s js _) h.tr Vp hu
 have bL:=Ck hi
 refine ⟨hm,ht,λ a y ha=>?_,λ a ha=>?_,h.bk⟩
 ·by_cases e:a=i
  ·subst e
   rw [hi] at ha; cases ha
   rw [Ky,ff]; exact hs
  ·rw [Gi e,ey e]; exact h.vT a y ha
 ·rw [ey (by omega)]; exact h.out a ha
theorem MI.aGl(rL:F.mj=iD F.P F.B Post):∀ (μ:Nat × List Ms × Nat) (gs:Array Goroutine) (w:World) (sl:Option (Nat × Nat)) (t:Trace) (T0:Mp) (D:Nat→Ab) (m:Nat→Ms) (js:Nat→Nat) (s:Sh) (th:Nat→Option Th) (mu:Nat→Bool) (dd:Nat→Nat),
  MI F Q T0 D m js s th mu dd gs w t→FK F Q D m s gs=μ→∀ i g,gs[i]? = some g→g.status = .running→∀ m0,stepT F.P m0=runT F.P (crowd gs w sl) i→kQ F.P Post m0 t:=by
 intro μ
 induction μ using G8.wf.induction with
 | _ μ ih =>
  intro gs w sl t T0 D m js s th mu dd h Wr i g hi j5 m0 EE
  subst Wr
  have bL:=Ck hi
  have next:∀ (ie:Array Goroutine) (w':World) (qf:Option (Nat × Nat)) (t':Trace) (iE:Mp) (D':Nat→Ab) (m':Nat→Ms) (il:Nat→Nat) (s':Sh) (jo:Nat→Option Th) (mu':Nat→Bool) (dd':Nat→Nat),MI F Q iE D' m' il s' jo mu' dd' ie w' t' →
    G8 (FK F Q D' m' s' ie) (FK F Q D m s gs)→kQ F.P Post (crowd ie w' qf) t':=by
   intro ie w' qf t' iE D' m' il s' jo mu' dd' h' hl
   obtain ⟨a,ga,d,XI,ha,BJ,cQ⟩:=crowd_pick (P:=F.P) (gs:=ie) (w:=w') (sl:=qf) h'.awake h'.afA
   exact ih _ hl ie (w'.at d) XI t' iE D' m' il s' jo mu' dd' (h'.at d) rfl a ga ha BJ _ cQ
  have hs:=h.vT i g hi
  have go:∀ (m':Ms) (x:Option Th) (d':Nat) (g':Goroutine) (w':World) (es:Array Event),stepG F.P (i == 0) g w = .go g' w' es→fl F.B (fO th i x) (gq F s js (cnt D gs.size).hl) w' →
    cX (some (am F)) (some (aw F)) (fO th i x) mu (fY dd i d') [F.bm,F.bw] (pV F (cnt D gs.size).hl) w'.heap.size (t++MemOp.ofEvents i g.frame.fn g.frame.place es) →
    pG F (MM F Q D s gs.size) s i m' x (mu i) d' g' (D i)→(oN m' (m i)∨(m'=m i∧m i=none∧g'={ g with status:=.blocked }))→kQ F.P Post m0 t:=by
   intro m' x d' g' w' es cQ hm ht TU zp
   have hr:=runT_crowd_go (P:=F.P) (sl:=sl) hi cQ
   have hP:=h.still hi (m':=m') (jo:=fO th i x) (dd':=fY dd i d') (g':=g') (w':=w') hm ht (by rw [ff,sB]; exact TU) (λ a ha=>⟨ey ha,sA ha⟩)
   refine kQ.step (EE.trans hr) (next _ _ _ _ _ _ _ _ _ _ _ _ hP ?_)
   have fH:((gs.map (Conc.woken F.P g g' w')).setIfInBounds i g').size=gs.size:=by simp
   unfold FK
   rw [fH]
   rcases zp with hl | ⟨e1,e2,e3⟩
   ·exact .inr ⟨rfl,.inl (W8 bL rfl hl)⟩
   ·subst e3
    have em:l5 m i m'=m:=by funext a; unfold l5; split <;> simp [*]
    refine .inr ⟨rfl,.inr ⟨by rw [em],?_⟩⟩
    show Oy _ _ < Oy _ _
    rw [em]
    unfold Oy
    rw [fH,aFi]
    have:=Dc (f:=λ a=>if (m a).isNone∧(gs[a]?.map (·.status))=some .running then 1 else 0) (g:=λ a=>if (m a).isNone∧(((gs.setIfInBounds i { g with status:=.blocked })[a]?).map (·.status))=some .running then 1 else 0) bL (λ a ha=>by
     simp only [Array.getElem?_setIfInBounds_ne (Ne.symm ha)])
    simp only [e2,hi,Option.isNone_none,Option.map_some,j5,true_and,if_true,Array.getElem?_setIfInBounds_self_of_lt bL] at this
    simp at this
    simp
    omega
  have Ax:∀ x,th i=x→fO th i x=th:=λ x hx=>Df hx
  have nx:(∃ ie w' ops D' m' il s' jo mu' dd',(∀ sl,runT F.P (crowd gs w sl) i=(.next (crowd ie w' sl),ops))∧ie.size=gs.size∧MI F Q T0 D' m' il s' jo mu' dd' ie w' (t++ops)∧MM F Q D' s' ie.size < MM F Q D s gs.size)→kQ F.P Post m0 t:=by
   rintro ⟨ie,w',ops,D',m',il,s',jo,mu',dd',hr,_,hP,hl⟩
   exact kQ.step (EE.trans (hr sl)) (next _ _ _ _ _ _ _ _ _ _ _ _ hP (.inl hl))
  cases hd:D i with
  | no =>
   rw [hd] at hs
   obtain ⟨hn,gF,q,hq,hQ⟩:=hs
   have tx:(i == 0)=false:=by simp; omega
   cases q with
   | zero=>rw [hQ.1] at j5; cases j5
   | succ q =>
    rcases hQ with e | ⟨_,g',es,ns,cQ,hQ⟩
    ·rw [e.1] at j5; cases j5
    ·refine go (some (qX q)) none (deafBehind (dd i) es) g' w es (by rw [tx]; exact cQ w) ?_ ?_ ?_ (.inl (by rw [hq]; exact aeH q))
     ·rw [Ax _ hn]; exact h.mem
     ·rw [Ax _ hn]; exact h.tr.leaves ns
     ·rw [hd]; exact ⟨rfl,gF,q,rfl,hQ⟩
  | wk k j T =>
   rw [hd] at hs
   obtain ⟨gF,iT,dp,y,n,hy,hn,hs⟩:=hs
   have tx:(i == 0)=false:=by simp; omega
   have stop:KW F n k j T y.R y.H g→kQ F.P Post m0 t:=by
    intro hK
    rcases h.work hi hd hy hn hK with ⟨⟨c,rfl⟩,hz,cQ⟩ | hN
    ·refine go none (some y) (dd i) _ w #[] (by rw [tx]; exact cQ) ?_ ?_ ?_ ?_
     ·rw [Ax _ hy]; exact h.mem
     ·rw [Ax _ hy,l6,ofEvents_none,Array.append_empty]; exact h.tr
     ·rw [hd]
      have ho:=h.mL i k j _ hd
      have hp:=h.bk.r6
      exact ⟨gF,iT,dp,y,n,rfl,hn,by rw [if_neg (by simp [jQ])]; exact .inr ⟨rfl,⟨c,rfl⟩,g,hK,j5,(KW.run hK (by omega) ho).2,.inr ⟨rfl,hz⟩⟩⟩
     ·cases EG:m i with
      | none=>exact .inr ⟨rfl,rfl,rfl⟩
      | some T'=>exact .inl .none
    ·exact nx hN
   by_cases EH:jQ T=true
   ·rw [if_pos EH] at hs
    obtain ⟨q,hq,hQ⟩:=hs
    cases q with
    | zero=>exact stop hQ
    | succ q =>
     rcases hQ with hK | ⟨_,g',cQ,hQ⟩
     ·exact stop hK
     ·refine go (some (qX q)) (some y) (dd i) g' w #[] (by rw [tx]; exact cQ w) ?_ ?_ ?_ (.inl (by rw [hq]; exact aeH q))
      ·rw [Ax _ hy]; exact h.mem
      ·rw [Ax _ hy,l6,ofEvents_none,Array.append_empty]; exact h.tr
      ·rw [hd]; exact ⟨gF,iT,dp,y,n,rfl,hn,by rw [if_pos EH]; exact ⟨q,rfl,hQ⟩⟩
   ·rw [if_neg EH] at hs
    have hmf:mu i=false:=by rw [dp]; simpa using EH
    rcases hs with ⟨Tr,H6,hO⟩ | ⟨hm,⟨c,rfl⟩,g0,hK,hr0,fD,hg⟩
    ·obtain ⟨ι,f⟩:=Tr
     obtain ⟨R,H⟩:=y
     rcases hO with hK | ⟨_,cQ⟩ | ⟨R',H',a,S3,hO⟩
     ·exact stop hK
     ·obtain ⟨g',w',es,R',H',a,h1,h2,h3,h4⟩:=cQ w (h.mem.fits i _ hy)
      obtain ⟨hm,ht⟩:=Ke h.mem (HB F s js _) (HA F s js _) h.tr hy (.inl hmf) h2 (.inl hmf) h3 g.frame.fn g.frame.place
      refine go (some (f a)) (some ⟨R',H'⟩) (dd i) g' w' es (by rw [tx]; exact h1) hm (by rw [l6]; exact ht) ?_ (.inl (by rw [H6]; exact .some (.mk f a)))
      rw [hd]; exact ⟨gF,iT,dp,_,n,rfl,hn,by rw [if_neg EH]; exact .inl ⟨f a,rfl,h4⟩⟩
     ·have hP:=h.ghost (x:=⟨R',H'⟩) (m':=some (f a)) hi hy (S3 w (h.mem.fits i _ hy)) (by rw [hd]; exact ⟨gF,iT,dp,_,n,rfl,hn,by rw [if_neg EH]; exact .inl ⟨f a,rfl,hO⟩⟩)
      exact ih (FK F Q D (l5 m i (some (f a))) s gs) (.inr ⟨rfl,.inl (W8 bL H6 (.some (.mk f a)))⟩) gs w sl t _ _ _ _ _ _ _ _ hP rfl i g hi j5 m0 EE
    ·rcases hg with rfl | ⟨rfl,_⟩
     ·exact stop hK
     ·cases j5
  | mn T =>
   have h0:i=0:=h.bk.main i T hd
   subst h0
   have zf:T=T0:=by have:=h.bk.d0; rw [hd] at this; cases this; rfl
   subst zf
   rw [hd] at hs
   obtain ⟨_,iT,dp,y,n,hy,hn,hs⟩:=hs
   have stop:KM F n T y.R y.H g→kQ F.P Post m0 t:=by
    intro hK
    by_cases Vt:T = .wq
    ·subst Vt
     obtain ⟨ie,g',w',ops,q,dd',R',H',hr,S2,hJ,hA⟩:=h.aHP hi hy hn hK
     rw [rL] at hJ
     exact kQ.step (EE.trans (hr sl)) (hJ ie w' sl _ q dd' S2 hA)
    ·rcases h.main hi hy hn hK Vt with ⟨rfl,hz,cQ⟩ | ⟨iE,ie,w',ops,D',m',il,s',jo,mu',dd',hr,hP,hl⟩
     ·refine go none (some y) (dd 0) _ w #[] cQ ?_ ?_ ?_ ?_
      ·rw [Ax _ hy]; exact h.mem
      ·rw [Ax _ hy,l6,ofEvents_none,Array.append_empty]; exact h.tr
      ·rw [hd]
       have hp:=h.bk.r6
       exact ⟨rfl,iT,dp,y,n,rfl,hn,.inr ⟨rfl,rfl,g,hK,j5,(KM.run hK (by omega)).2,.inr ⟨rfl,hz⟩⟩⟩
      ·cases EG:m 0 with
       | none=>exact .inr ⟨rfl,rfl,rfl⟩
       | some T'=>exact .inl .none
     ·exact kQ.step (EE.trans (hr sl)) (next _ _ _ _ _ _ _ _ _ _ _ _ hP (.inl hl))
   rcases hs with ⟨Tr,H6,hO⟩ | ⟨hm,rfl,g0,hK,hr0,fD,hg⟩
   ·obtain ⟨ι,f⟩:=Tr
    obtain ⟨R,H⟩:=y
    rcases hO with hK | ⟨_,cQ⟩ | ⟨R',H',a,S3,hO⟩
    ·exact stop hK
    ·obtain ⟨g',w',es,R',H',a,h1,h2,h3,h4⟩:=cQ w (h.mem.fits 0 _ hy)
     obtain ⟨hm,ht⟩:=Ke h.mem (HB F s js _) (HA F s js _) h.tr hy (.inl dp) h2 (.inl dp) h3 g.frame.fn g.frame.place
     refine go (some (f a)) (some ⟨R',H'⟩) (dd 0) g' w' es h1 hm (by rw [l6]; exact ht) ?_ (.inl (by rw [H6]; exact .some (.mk f a)))
     rw [hd]; exact ⟨rfl,iT,dp,_,n,rfl,hn,.inl ⟨f a,rfl,h4⟩⟩
    ·have hP:=h.ghost (x:=⟨R',H'⟩) (m':=some (f a)) hi hy (S3 w (h.mem.fits 0 _ hy)) (by rw [hd]; exact ⟨rfl,iT,dp,_,n,rfl,hn,.inl ⟨f a,rfl,hO⟩⟩)
     exact ih (FK F Q D (l5 m 0 (some (f a))) s gs) (.inr ⟨rfl,.inl (W8 bL H6 (.some (.mk f a)))⟩) gs w sl t _ _ _ _ _ _ _ _ hP rfl 0 g hi j5 m0 EE
   ·rcases hg with rfl | ⟨rfl,_⟩
    ·exact stop hK
    ·cases j5
theorem MI.runs(rL:F.mj=iD F.P F.B Post)(h:MI F Q T0 D m js s th mu dd gs w t):kQ F.P Post (crowd gs w sl) t:=by
 obtain ⟨a,ga,d,XI,ha,BJ,cQ⟩:=crowd_pick (P:=F.P) (gs:=gs) (w:=w) (sl:=sl) h.awake h.afA
 exact MI.aGl rL _ gs (w.at d) XI t T0 D m js s th mu dd (h.at d) rfl a ga ha BJ _ cQ
end
end Go.Lg
