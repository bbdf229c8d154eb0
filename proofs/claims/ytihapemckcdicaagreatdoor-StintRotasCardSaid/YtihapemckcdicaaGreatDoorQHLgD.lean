/- A mutex that any number of goroutines share; the machine of workers behind a mutex and a wait group: it runs to its end. Conditions: none. -/
import Derived.Test.YtihapemckcdicaaGreatDoorQHLgB
import Derived.Conc.MarkLaws
namespace Go.Lg
structure Wd where
 l:Nat
 w:Nat
 s:Nat
 n:Nat
 deriving DecidableEq
def Wd.val(m:Wd):Int:=m.l+2 * m.w+4 * m.s+8 * m.n
def Wd.ok(N:Nat)(m:Wd):Prop:=m.l≤1∧m.w≤1∧m.s≤1∧m.n≤N
def Wd.zero:Wd:=⟨0,0,0,0⟩
theorem Wd.val_inj{N N':Nat}{a b:Wd}(ha:a.ok N)(hb:b.ok N')(h:a.val=b.val):a=b:=by
 obtain ⟨l,w,s,n⟩:=a
 obtain ⟨l',w',s',n'⟩:=b
 simp only [Wd.ok,Wd.val,Wd.mk.injEq] at *
 omega
structure Sh where
 mu:Wd
 ms:Nat
 v:Nat
 w:Nat
 ws:Nat
structure Lc where
 old:Wd
 aw:Bool
 sv:Bool
 it:Nat
 ws:Bool
inductive Lp
 | ld | l0 | r0 | sq (c:Lc) | c1 (c:Lc) | r1 (c:Lc) | c2 (c:Lc) | r3 (c:Lc) | t1 (c:Lc) | s1 (c:Lc) | t2 (c:Lc) | r2 (c:Lc) | a1 (keep:Bool)
 | le | lc | la | ul (js:Nat→Nat) | uv (js:Nat→Nat) | ur (js:Nat→Nat) | ud | u0 | uc (old:Wd) | ux | us | ue
 | wv | wr | wk | d1 | d2 | d3 | d4 | quit
def hd(c:Lc):Lp:=if c.old.l=1∧c.old.s=0 then .sq c else .c2 c
def nw(c:Lc):Wd:={ l:=if c.old.s=0 then 1 else c.old.l,w:=if c.aw then 0 else c.old.w,s:=if c.sv∧c.old.l=1 then 1 else c.old.s,n:=if c.old.l=1∨c.old.s=1 then c.old.n+1 else c.old.n }
def hu(m:Wd):Lp:=if m.n=0∨m.l=1∨m.w=1∨m.s=1 then .ue else .uc m
def jC(c:Lc):Lp:=if c.aw=false∧c.old.w=0∧c.old.n≠0 then .c1 c else .r1 c
inductive dp:Lp→Sh→Lp→Sh→Prop
 | ld {s}:dp .ld s .l0 s
 | agR {s}:s.mu = .zero→dp .l0 s .le { s with mu:=⟨1,0,0,0⟩ }
 | agQ {s}:s.mu ≠ .zero→dp .l0 s .r0 s
 | r0 {s}:dp .r0 s (hd ⟨s.mu,false,false,0,false⟩) s
 | RD {s c}:dp (.sq c) s (.c2 c) s
 | zM {s c}:c.it < 4→dp (.sq c) s (jC c) s
 | Uh {s c}:s.mu=c.old→dp (.c1 c) s (.r1 { c with aw:=true }) { s with mu:={ c.old with w:=1 } }
 | Ug {s c}:s.mu≠c.old→dp (.c1 c) s (.r1 c) s
 | r1 {s c}:dp (.r1 c) s (hd { c with old:=s.mu,it:=c.it+1 }) s
 | Ul {s c}:s.mu=c.old→c.old.l=0→c.old.s=0→dp (.c2 c) s .le { s with mu:=nw c }
 | yA {s c}:s.mu=c.old→(c.old.l=1∨c.old.s=1)→dp (.c2 c) s (if c.ws then .s1 c else .t1 c) { s with mu:=nw c }
 | Um {s c}:s.mu≠c.old→dp (.c2 c) s (.r3 c) s
 | r3 {s c}:dp (.r3 c) s (hd { c with old:=s.mu }) s
 | t1 {s c} (b:Bool):dp (.t1 c) s (.s1 { c with ws:=b }) s
 | s1 {s c m}:s.ms=m+1→dp (.s1 c) s (if c.sv then .r2 c else .t2 c) { s with ms:=m }
 | t2 {s c} (b:Bool):dp (.t2 c) s (.r2 { c with sv:=b }) s
 | MH {s c}:s.mu.s=1→dp (.r2 c) s (.a1 (c.sv && s.mu.n != 1)) s
 | zB {s c}:s.mu.s=0→dp (.r2 c) s (hd { c with old:=s.mu,aw:=true,it:=0 }) s
 | a1 {s b}:dp (.a1 b) s .le { s with mu:=⟨1,s.mu.w,if b then s.mu.s else 0,s.mu.n - 1⟩ }
 | le {s}:dp .le s .lc s
 | lc {s}:dp .lc s .la s
 | la {s js}:dp .la s (.ul js) s
 | ul {s js}:dp (.ul js) s (.uv js) s
 | uv {s js}:dp (.uv js) s (.ur js) s
 | ur {s js}:dp (.ur js) s .ud s
 | ud {s}:dp .ud s .u0 s
 | u0z {s}:s.mu.w=0→s.mu.s=0→s.mu.n=0→dp .u0 s .ue { s with mu:={ s.mu with l:=0 } }
 | zO {s}:¬ (s.mu.w=0∧s.mu.s=0∧s.mu.n=0)→s.mu.s=0→dp .u0 s (hu { s.mu with l:=0 }) { s with mu:={ s.mu with l:=0 } }
 | u0h {s}:s.mu.s=1→dp .u0 s .us { s with mu:={ s.mu with l:=0 } }
 | ajp {s m}:s.mu=m→dp (.uc m) s .us { s with mu:={ m with w:=1,n:=m.n - 1 } }
 | abE {s m}:s.mu≠m→dp (.uc m) s .ux s
 | ux {s}:dp .ux s (hu s.mu) s
 | us {s}:dp .us s .ue { s with ms:=s.ms+1 }
 | RK {s}:dp .ue s .ld s
 | RL {s}:dp .ue s .wv s
 | wv {s}:dp .wv s .wr s
 | wr {s}:dp .wr s .wk s
 | wk {s}:dp .wk s .d1 s
 | Jg {s}:(s.v≠1∨s.w=0)→dp .d1 s .quit { s with v:=s.v - 1 }
 | UD {s}:s.v=1→s.w=1→dp .d1 s .d2 { s with v:=0 }
 | d2 {s}:dp .d2 s .d3 s
 | d3 {s}:dp .d3 s .d4 { s with v:=0,w:=0 }
 | d4 {s}:dp .d4 s .quit { s with ws:=s.ws+1 }
structure Cn where
 ow:Nat
 hl:Nat
 pu:Nat
 pc:Nat
 al:Nat
 z:Nat
 a1:Nat
 ak:Nat
 ux:Nat
 wk:Nat
 lv:Nat
 dw:Nat
 d4:Nat
def uK(c:Lc):Nat:=if c.aw then 1 else 0
def Cn.zero:Cn:=⟨0,0,0,0,0,0,0,0,0,0,0,0,0⟩
def Cn.busy:Cn:={ Cn.zero with wk:=1,lv:=1 }
def cW:Lp→Cn
 | .le | .lc | .la | .ud | .u0=>{ Cn.busy with ow:=1 }
 | .ul _ | .uv _ | .ur _=>{ Cn.busy with hl:=1 }
 | .us=>{ Cn.busy with pu:=1 }
 | .t2 _ | .r2 _=>{ Cn.busy with wk:=0,pc:=1 }
 | .a1 b=>if b then { Cn.busy with wk:=0,ak:=1 } else { Cn.busy with wk:=0,a1:=1 }
 | .sq c | .c1 c | .r1 c | .c2 c | .r3 c=>{ Cn.busy with al:=uK c }
 | .t1 _ | .s1 _=>{ Cn.busy with wk:=0,z:=1 }
 | .uc _ | .ux=>{ Cn.busy with ux:=1 }
 | .d2 | .d3=>{ Cn.zero with wk:=1,dw:=1 }
 | .d4=>{ Cn.zero with wk:=1,d4:=1 }
 | .quit=>Cn.zero
 | _=>Cn.busy
structure Cn.AD (c x y c':Cn):Prop where
 ow:c'.ow+x.ow=c.ow+y.ow
 hl:c'.hl+x.hl=c.hl+y.hl
 pu:c'.pu+x.pu=c.pu+y.pu
 pc:c'.pc+x.pc=c.pc+y.pc
 al:c'.al+x.al=c.al+y.al
 z:c'.z+x.z=c.z+y.z
 a1:c'.a1+x.a1=c.a1+y.a1
 ak:c'.ak+x.ak=c.ak+y.ak
 ux:c'.ux+x.ux=c.ux+y.ux
 wk:c'.wk+x.wk=c.wk+y.wk
 lv:c'.lv+x.lv=c.lv+y.lv
 dw:c'.dw+x.dw=c.dw+y.dw
 d4:c'.d4+x.d4=c.d4+y.d4
structure Cn.Le (x c:Cn):Prop where
 ow:x.ow≤c.ow
 hl:x.hl≤c.hl
 pu:x.pu≤c.pu
 pc:x.pc≤c.pc
 al:x.al≤c.al
 z:x.z≤c.z
 a1:x.a1≤c.a1
 ak:x.ak≤c.ak
 ux:x.ux≤c.ux
 wk:x.wk≤c.wk
 lv:x.lv≤c.lv
 dw:x.dw≤c.dw
 d4:x.d4≤c.d4
structure dh (N:Nat) (c:Cn) (s:Sh):Prop where
 l1:s.mu.l≤1
 w1:s.mu.w≤1
 s1:s.mu.w+s.mu.s≤1
 ow:c.ow+c.hl=s.mu.l
 al:c.al≤s.mu.w
 md:((s.mu.s=0∨s.mu.l=1)∧c.pu+c.pc+c.al+s.ms=s.mu.w∧c.a1+c.ak=0∧s.mu.n+c.pu+s.ms=c.z)∨(s.mu.s=1∧s.mu.l=0∧c.pu+c.pc+c.a1+c.ak+c.al+s.ms=1∧s.mu.n=c.z+c.pc+c.a1+c.ak)
 ak:2 * c.ak≤s.mu.n
 sn:s.mu.s=0∨1≤s.mu.n
 i4:s.mu.l=1∨s.mu.w=1∨s.mu.s=1∨s.mu.n=0∨1≤c.ux
 wN:c.wk+c.z+c.pc+c.a1+c.ak≤N
def ri(N:Nat):Lp→Prop
 | .sq c=>c.old.ok N∧c.it≤4∧(c.sv=true→c.aw=true)∧(c.aw=true→c.old.w=1)∧c.old.l=1∧c.old.s=0
 | .c1 c=>c.old.ok N∧c.it < 4∧c.sv=false∧c.aw=false∧c.old.l=1∧c.old.s=0∧c.old.w=0∧c.old.n≠0
 | .r1 c=>c.old.ok N∧c.it < 4∧(c.sv=true→c.aw=true)
 | .c2 c=>c.old.ok N∧c.it≤4∧(c.sv=true→c.aw=true)∧(c.aw=true→c.old.w=1)
 | .r3 c=>c.old.ok N∧c.it≤4∧(c.sv=true→c.aw=true)
 | .t1 c=>c.ws=false
 | .t2 c=>c.sv=false
 | .uc m=>m.ok N∧m.l=0∧m.w=0∧m.s=0∧m.n≠0
 | _=>True
def xS(N:Nat)(T:Lp)(s:Sh):Prop:=s.mu.ok N∧(match T with
 | .r1 c | .r3 c=>c.aw=true→s.mu.w=1
 | .r2 _=>(s.mu.s=1∧s.mu.l=0∧s.mu.w=0∧s.mu.n≠0)∨(s.mu.s=0∧s.mu.w=1)
 | .a1 b=>s.mu.s=1∧s.mu.l=0∧s.mu.w=0∧s.mu.n≠0∧(b=true→2≤s.mu.n)
 | .u0=>s.mu.l=1
 | .us=>s.ms=0
 | _=>True)
theorem Fv{c:Lc}(h:c.aw=true):uK c=1:=by simp [uK,h]
theorem IP{c:Lc}(h:c.aw=false):uK c=0:=by simp [uK,h]
section
variable {N:Nat} {c c':Cn} {s s':Sh} {T T':Lp}
theorem dh.xS(h:dh N c s)(hle:(cW T).Le c):xS N T s:=by
 obtain ⟨h1,h2,h3,h4,h5,h6,h8,h9,Jw,Jx⟩:=h
 obtain ⟨e1,e2,e3,e4,e5,e6,e7,e8,e9,eJ,eK,dS,eL⟩:=hle
 refine ⟨⟨h1,h2,by omega,by omega⟩,?_⟩
 cases T <;> simp only [cW,Cn.busy,Cn.zero] at * <;> first | trivial | skip
 case r1 c=>intro ha; rw [Fv ha] at e5; omega
 case r3 c=>intro ha; rw [Fv ha] at e5; omega
 case r2 c=>omega
 case a1 b =>
  cases b
  ·simp only [nF,if_false] at e7 e8
   exact ⟨by omega,by omega,by omega,by omega,λ hb=>by cases hb⟩
  ·simp only [if_true] at e7 e8
   exact ⟨by omega,by omega,by omega,by omega,λ _=>by omega⟩
 case u0=>omega
 case us=>omega
theorem td(c:Lc):cW (hd c)={ Cn.busy with al:=uK c }:=by unfold hd; split <;> rfl
theorem Uw(c:Lc):cW (jC c)={ Cn.busy with al:=uK c }:=by unfold jC; split <;> rfl
theorem QX{c:Lc}(h1:c.old.ok N)(h2:c.it≤4)(h3:c.sv=true→c.aw=true)(h4:c.aw=true→c.old.w=1):ri N (hd c):=by
 unfold hd; split
 ·exact ⟨h1,h2,h3,h4,by omega,by omega⟩
 ·exact ⟨h1,h2,h3,h4⟩
set_option maxHeartbeats 2000000 in
theorem dh.step(h:dh N c s)(hT:ri N T)(hle:(cW T).Le c)(dy:dp T s T' s')(hc:c.AD (cW T) (cW T') c'):dh N c' s'∧ri N T':=by
 have hS:=h.xS hle
 obtain ⟨h1,h2,h3,h4,h5,h6,h8,h9,Jw,Jx⟩:=h
 obtain ⟨g1,g2,g3,g4,g5,g6,g7,g8,g9,c7,cO,cQ,cR⟩:=hc
 obtain ⟨e1,e2,e3,e4,e5,e6,e7,e8,e9,eJ,eK,dS,eL⟩:=hle
 obtain ⟨⟨q1,q2,q3,q4⟩,hS⟩:=hS
 obtain ⟨⟨ml,mw,mz,mn⟩,ms,v,w,ws⟩:=s
 obtain ⟨ow,hl,pu,pc,al',z,a1,ak,ux,wk,lv,dw,d4⟩:=c
 obtain ⟨ey,hl',eB,eA,ed,z',dZ,eb,eD,eE,eo,ek,ee⟩:=c'
 dsimp only at h1 h2 h3 h4 h5 h6 h8 h9 Jw Jx g1 g2 g3 g4 g5 g6 g7 g8 g9 c7 cO cQ cR e1 e2 e3 e4 e5 e6 e7 e8 e9 eJ eK dS eL q1 q2 q3 q4 hS
 cases dy with
 | ld =>
  simp only [cW,Cn.busy,Cn.zero] at g1 g2 g3 g4 g5 g6 g7 g8 g9 c7 cO cQ cR e1 e2 e3 e4 e5 e6 e7 e8 e9 eJ eK dS eL
  exact ⟨(by show dh N ⟨ey,hl',eB,eA,ed,z',dZ,eb,eD,eE,eo,ek,ee⟩ ⟨⟨ml,mw,mz,mn⟩,ms,v,w,ws⟩; constructor <;> dsimp only <;> omega),trivial⟩
 | agR hm =>
  simp only [Wd.zero,Wd.mk.injEq] at hm
  obtain ⟨rfl,rfl,rfl,rfl⟩:=hm
  simp only [cW,Cn.busy,Cn.zero] at g1 g2 g3 g4 g5 g6 g7 g8 g9 c7 cO cQ cR e1 e2 e3 e4 e5 e6 e7 e8 e9 eJ eK dS eL
  exact ⟨(by show dh N ⟨ey,hl',eB,eA,ed,z',dZ,eb,eD,eE,eo,ek,ee⟩ ⟨⟨1,0,0,0⟩,ms,v,w,ws⟩; constructor <;> dsimp only <;> omega),trivial⟩
 | agQ hm =>
  simp only [cW,Cn.busy,Cn.zero] at g1 g2 g3 g4 g5 g6 g7 g8 g9 c7 cO cQ cR e1 e2 e3 e4 e5 e6 e7 e8 e9 eJ eK dS eL
  exact ⟨(by show dh N ⟨ey,hl',eB,eA,ed,z',dZ,eb,eD,eE,eo,ek,ee⟩ ⟨⟨ml,mw,mz,mn⟩,ms,v,w,ws⟩; constructor <;> dsimp only <;> omega),trivial⟩
 | r0 =>
  simp only [td] at g1 g2 g3 g4 g5 g6 g7 g8 g9 c7 cO cQ cR
  simp only [cW,Cn.busy,Cn.zero] at g1 g2 g3 g4 g5 g6 g7 g8 g9 c7 cO cQ cR e1 e2 e3 e4 e5 e6 e7 e8 e9 eJ eK dS eL
  rw [IP rfl] at g5
  exact ⟨(by show dh N ⟨ey,hl',eB,eA,ed,z',dZ,eb,eD,eE,eo,ek,ee⟩ ⟨⟨ml,mw,mz,mn⟩,ms,v,w,ws⟩; constructor <;> dsimp only <;> omega),QX ⟨q1,q2,q3,q4⟩ (by simp) (by simp) (by simp)⟩
 | @RD _ c =>
  simp only [cW,Cn.busy,Cn.zero] at g1 g2 g3 g4 g5 g6 g7 g8 g9 c7 cO cQ cR e1 e2 e3 e4 e5 e6 e7 e8 e9 eJ eK dS eL
  exact ⟨(by show dh N ⟨ey,hl',eB,eA,ed,z',dZ,eb,eD,eE,eo,ek,ee⟩ ⟨⟨ml,mw,mz,mn⟩,ms,v,w,ws⟩; constructor <;> dsimp only <;> omega),hT.1,hT.2.1,hT.2.2.1,hT.2.2.2.1⟩
 | @zM _ c hi =>
  obtain ⟨t1,t2,t3,t4,t5,t6⟩:=hT
  simp only [Uw] at g1 g2 g3 g4 g5 g6 g7 g8 g9 c7 cO cQ cR
  simp only [cW,Cn.busy,Cn.zero] at g1 g2 g3 g4 g5 g6 g7 g8 g9 c7 cO cQ cR e1 e2 e3 e4 e5 e6 e7 e8 e9 eJ eK dS eL
  refine ⟨(by show dh N ⟨ey,hl',eB,eA,ed,z',dZ,eb,eD,eE,eo,ek,ee⟩ ⟨⟨ml,mw,mz,mn⟩,ms,v,w,ws⟩; constructor <;> dsimp only <;> omega),?_⟩
  unfold jC; split
  ·rename_i hx
   refine ⟨t1,hi,?_,hx.1,t5,t6,hx.2.1,hx.2.2⟩
   cases XH:c.sv with
   | false=>rfl
   | true=>rw [t3 XH] at hx; cases hx.1
  ·exact ⟨t1,hi,t3⟩
 | @Uh _ c hm =>
  obtain ⟨old,aw,sv,it,wz⟩:=c
  cases hm
  obtain ⟨⟨o1,o2,o3,o4⟩,t2,t3,t4,t5,t6,t7,t8⟩:=hT
  simp only at t2 t3 t4 t5 t6 t7 t8
  subst t4
  simp only [cW,Cn.busy,Cn.zero] at g1 g2 g3 g4 g5 g6 g7 g8 g9 c7 cO cQ cR e1 e2 e3 e4 e5 e6 e7 e8 e9 eJ eK dS eL
  rw [IP rfl,Fv rfl] at g5
  rw [IP rfl] at e5
  exact ⟨(by show dh N ⟨ey,hl',eB,eA,ed,z',dZ,eb,eD,eE,eo,ek,ee⟩ ⟨⟨ml,1,mz,mn⟩,ms,v,w,ws⟩; constructor <;> dsimp only <;> omega),⟨o1,o2,o3,o4⟩,t2,λ _=>rfl⟩
 | @Ug _ c hm =>
  simp only [cW,Cn.busy,Cn.zero] at g1 g2 g3 g4 g5 g6 g7 g8 g9 c7 cO cQ cR e1 e2 e3 e4 e5 e6 e7 e8 e9 eJ eK dS eL
  exact ⟨(by show dh N ⟨ey,hl',eB,eA,ed,z',dZ,eb,eD,eE,eo,ek,ee⟩ ⟨⟨ml,mw,mz,mn⟩,ms,v,w,ws⟩; constructor <;> dsimp only <;> omega),hT.1,hT.2.1,λ hx=>by rw [hT.2.2.1] at hx; cases hx⟩
 | @r1 _ c =>
  simp only [td] at g1 g2 g3 g4 g5 g6 g7 g8 g9 c7 cO cQ cR
  simp only [cW,Cn.busy,Cn.zero] at g1 g2 g3 g4 g5 g6 g7 g8 g9 c7 cO cQ cR e1 e2 e3 e4 e5 e6 e7 e8 e9 eJ eK dS eL
  have ea:uK { c with old:=⟨ml,mw,mz,mn⟩,it:=c.it+1 }=uK c:=rfl
  rw [ea] at g5
  exact ⟨(by show dh N ⟨ey,hl',eB,eA,ed,z',dZ,eb,eD,eE,eo,ek,ee⟩ ⟨⟨ml,mw,mz,mn⟩,ms,v,w,ws⟩; constructor <;> dsimp only <;> omega),QX ⟨q1,q2,q3,q4⟩ (by have:=hT.2.1; simp only; omega) hT.2.2 hS⟩
 | @Ul _ c hm hl hs =>
  obtain ⟨old,aw,sv,it,wz⟩:=c
  cases hm
  simp only at hl hs
  subst hl hs
  obtain ⟨⟨o1,o2,o3,o4⟩,t2,t3,t4⟩:=hT
  simp only at t3 t4
  simp only [cW,Cn.busy,Cn.zero] at g1 g2 g3 g4 g5 g6 g7 g8 g9 c7 cO cQ cR e1 e2 e3 e4 e5 e6 e7 e8 e9 eJ eK dS eL
  have en:nw ⟨⟨0,mw,0,mn⟩,aw,sv,it,wz⟩=⟨1,if aw then 0 else mw,0,mn⟩:=by simp [nw]
  rw [en]
  cases aw
  ·rw [IP rfl] at g5 e5
   exact ⟨(by show dh N ⟨ey,hl',eB,eA,ed,z',dZ,eb,eD,eE,eo,ek,ee⟩ ⟨⟨1,mw,0,mn⟩,ms,v,w,ws⟩; constructor <;> dsimp only <;> omega),trivial⟩
  ·rw [Fv rfl] at g5 e5
   have:=t4 rfl
   exact ⟨(by show dh N ⟨ey,hl',eB,eA,ed,z',dZ,eb,eD,eE,eo,ek,ee⟩ ⟨⟨1,0,0,mn⟩,ms,v,w,ws⟩; constructor <;> dsimp only <;> omega),trivial⟩
 | @yA _ c hm hq =>
  obtain ⟨old,aw,sv,it,wz⟩:=c
  cases hm
  obtain ⟨⟨o1,o2,o3,o4⟩,t2,t3,t4⟩:=hT
  simp only at t3 t4 hq
  have ez:cW (if wz=true then Lp.s1 ⟨⟨ml,mw,mz,mn⟩,aw,sv,it,wz⟩ else Lp.t1 ⟨⟨ml,mw,mz,mn⟩,aw,sv,it,wz⟩)={ Cn.busy with wk:=0,z:=1 }:=by cases wz <;> rfl
  simp only at g1 g2 g3 g4 g5 g6 g7 g8 g9 c7 cO cQ cR
  simp only [ez] at g1 g2 g3 g4 g5 g6 g7 g8 g9 c7 cO cQ cR
  simp only [cW,Cn.busy,Cn.zero] at g1 g2 g3 g4 g5 g6 g7 g8 g9 c7 cO cQ cR e1 e2 e3 e4 e5 e6 e7 e8 e9 eJ eK dS eL
  refine ⟨?_,by cases wz <;> first | rfl | trivial⟩
  cases aw
  ·cases sv
   ·rw [IP rfl] at g5 e5
    by_cases hz:mz=0
    ·subst hz
     have vd:ml=1:=by omega
     subst vd
     have en:nw ⟨⟨1,mw,0,mn⟩,false,false,it,wz⟩=⟨1,mw,0,mn+1⟩:=by simp [nw]
     rw [en]
     exact (by show dh N ⟨ey,hl',eB,eA,ed,z',dZ,eb,eD,eE,eo,ek,ee⟩ ⟨⟨1,mw,0,mn+1⟩,ms,v,w,ws⟩; constructor <;> dsimp only <;> omega)
    ·have ZV:mz=1:=by omega
     subst ZV
     have en:nw ⟨⟨ml,mw,1,mn⟩,false,false,it,wz⟩=⟨ml,mw,1,mn+1⟩:=by simp [nw]
     rw [en]
     exact (by show dh N ⟨ey,hl',eB,eA,ed,z',dZ,eb,eD,eE,eo,ek,ee⟩ ⟨⟨ml,mw,1,mn+1⟩,ms,v,w,ws⟩; constructor <;> dsimp only <;> omega)
   ·exact absurd (t3 rfl) (by simp)
  ·rw [Fv rfl] at g5 e5
   have hw:=t4 rfl
   have hz:mz=0:=by omega
   have vd:ml=1:=by omega
   subst hz vd hw
   cases sv
   ·have en:nw ⟨⟨1,1,0,mn⟩,true,false,it,wz⟩=⟨1,0,0,mn+1⟩:=by simp [nw]
    rw [en]
    exact (by show dh N ⟨ey,hl',eB,eA,ed,z',dZ,eb,eD,eE,eo,ek,ee⟩ ⟨⟨1,0,0,mn+1⟩,ms,v,w,ws⟩; constructor <;> dsimp only <;> omega)
   ·have en:nw ⟨⟨1,1,0,mn⟩,true,true,it,wz⟩=⟨1,0,1,mn+1⟩:=by simp [nw]
    rw [en]
    exact (by show dh N ⟨ey,hl',eB,eA,ed,z',dZ,eb,eD,eE,eo,ek,ee⟩ ⟨⟨1,0,1,mn+1⟩,ms,v,w,ws⟩; constructor <;> dsimp only <;> omega)
 | @Um _ c hm =>
  simp only [cW,Cn.busy,Cn.zero] at g1 g2 g3 g4 g5 g6 g7 g8 g9 c7 cO cQ cR e1 e2 e3 e4 e5 e6 e7 e8 e9 eJ eK dS eL
  exact ⟨(by show dh N ⟨ey,hl',eB,eA,ed,z',dZ,eb,eD,eE,eo,ek,ee⟩ ⟨⟨ml,mw,mz,mn⟩,ms,v,w,ws⟩; constructor <;> dsimp only <;> omega),hT.1,hT.2.1,hT.2.2.1⟩
 | @r3 _ c =>
  simp only [td] at g1 g2 g3 g4 g5 g6 g7 g8 g9 c7 cO cQ cR
  simp only [cW,Cn.busy,Cn.zero] at g1 g2 g3 g4 g5 g6 g7 g8 g9 c7 cO cQ cR e1 e2 e3 e4 e5 e6 e7 e8 e9 eJ eK dS eL
  have ea:uK { c with old:=⟨ml,mw,mz,mn⟩ }=uK c:=rfl
  rw [ea] at g5
  exact ⟨(by show dh N ⟨ey,hl',eB,eA,ed,z',dZ,eb,eD,eE,eo,ek,ee⟩ ⟨⟨ml,mw,mz,mn⟩,ms,v,w,ws⟩; constructor <;> dsimp only <;> omega),QX ⟨q1,q2,q3,q4⟩ hT.2.1 hT.2.2 hS⟩
 | @t1 _ c b =>
  simp only [cW,Cn.busy,Cn.zero] at g1 g2 g3 g4 g5 g6 g7 g8 g9 c7 cO cQ cR e1 e2 e3 e4 e5 e6 e7 e8 e9 eJ eK dS eL
  exact ⟨(by show dh N ⟨ey,hl',eB,eA,ed,z',dZ,eb,eD,eE,eo,ek,ee⟩ ⟨⟨ml,mw,mz,mn⟩,ms,v,w,ws⟩; constructor <;> dsimp only <;> omega),trivial⟩
 | @s1 _ c m hm =>
  have ez:cW (if c.sv=true then Lp.r2 c else Lp.t2 c)={ Cn.busy with wk:=0,pc:=1 }:=by cases c.sv <;> rfl
  simp only at hm
  simp only [ez] at g1 g2 g3 g4 g5 g6 g7 g8 g9 c7 cO cQ cR
  simp only [cW,Cn.busy,Cn.zero] at g1 g2 g3 g4 g5 g6 g7 g8 g9 c7 cO cQ cR e1 e2 e3 e4 e5 e6 e7 e8 e9 eJ eK dS eL
  refine ⟨(by show dh N ⟨ey,hl',eB,eA,ed,z',dZ,eb,eD,eE,eo,ek,ee⟩ ⟨⟨ml,mw,mz,mn⟩,m,v,w,ws⟩; constructor <;> dsimp only <;> omega),?_⟩
  cases XH:c.sv with
  | false=>exact XH
  | true=>trivial
 | @t2 _ c b =>
  simp only [cW,Cn.busy,Cn.zero] at g1 g2 g3 g4 g5 g6 g7 g8 g9 c7 cO cQ cR e1 e2 e3 e4 e5 e6 e7 e8 e9 eJ eK dS eL
  exact ⟨(by show dh N ⟨ey,hl',eB,eA,ed,z',dZ,eb,eD,eE,eo,ek,ee⟩ ⟨⟨ml,mw,mz,mn⟩,ms,v,w,ws⟩; constructor <;> dsimp only <;> omega),trivial⟩
 | @MH _ c hm =>
  simp only at hm; subst hm
  simp only [cW,Cn.busy,Cn.zero] at g1 g2 g3 g4 g5 g6 g7 g8 g9 c7 cO cQ cR e1 e2 e3 e4 e5 e6 e7 e8 e9 eJ eK dS eL
  refine ⟨?_,trivial⟩
  cases hb:(c.sv && mn != 1) with
  | false =>
   simp only [hb,nF,if_false] at g1 g2 g3 g4 g5 g6 g7 g8 g9 c7 cO cQ cR
   exact (by show dh N ⟨ey,hl',eB,eA,ed,z',dZ,eb,eD,eE,eo,ek,ee⟩ ⟨⟨ml,mw,1,mn⟩,ms,v,w,ws⟩; constructor <;> dsimp only <;> omega)
  | true =>
   have hn1:mn≠1:=by simp at hb; exact hb.2
   simp only [hb,if_true] at g1 g2 g3 g4 g5 g6 g7 g8 g9 c7 cO cQ cR
   exact (by show dh N ⟨ey,hl',eB,eA,ed,z',dZ,eb,eD,eE,eo,ek,ee⟩ ⟨⟨ml,mw,1,mn⟩,ms,v,w,ws⟩; constructor <;> dsimp only <;> omega)
 | @zB _ c hm =>
  simp only at hm; subst hm
  simp only [td] at g1 g2 g3 g4 g5 g6 g7 g8 g9 c7 cO cQ cR
  simp only [cW,Cn.busy,Cn.zero] at g1 g2 g3 g4 g5 g6 g7 g8 g9 c7 cO cQ cR e1 e2 e3 e4 e5 e6 e7 e8 e9 eJ eK dS eL
  rw [Fv rfl] at g5
  exact ⟨(by show dh N ⟨ey,hl',eB,eA,ed,z',dZ,eb,eD,eE,eo,ek,ee⟩ ⟨⟨ml,mw,0,mn⟩,ms,v,w,ws⟩; constructor <;> dsimp only <;> omega),QX ⟨q1,q2,q3,q4⟩ (by simp) (λ _=>rfl) (λ _=>by simp only; omega)⟩
 | @a1 _ b =>
  obtain ⟨r1,r2,r3,r4,r5⟩:=hS
  subst r1 r2 r3
  simp only [cW,Cn.busy,Cn.zero] at g1 g2 g3 g4 g5 g6 g7 g8 g9 c7 cO cQ cR e1 e2 e3 e4 e5 e6 e7 e8 e9 eJ eK dS eL
  cases b
  ·simp only [nF,if_false] at g1 g2 g3 g4 g5 g6 g7 g8 g9 c7 cO cQ cR e1 e2 e3 e4 e5 e6 e7 e8 e9 eJ eK dS eL
   exact ⟨(by show dh N ⟨ey,hl',eB,eA,ed,z',dZ,eb,eD,eE,eo,ek,ee⟩ ⟨⟨1,0,0,mn - 1⟩,ms,v,w,ws⟩; constructor <;> dsimp only <;> omega),trivial⟩
  ·simp only [if_true] at g1 g2 g3 g4 g5 g6 g7 g8 g9 c7 cO cQ cR e1 e2 e3 e4 e5 e6 e7 e8 e9 eJ eK dS eL
   exact ⟨(by show dh N ⟨ey,hl',eB,eA,ed,z',dZ,eb,eD,eE,eo,ek,ee⟩ ⟨⟨1,0,1,mn - 1⟩,ms,v,w,ws⟩; constructor <;> dsimp only <;> omega),trivial⟩
 | le =>
  simp only [cW,Cn.busy,Cn.zero] at g1 g2 g3 g4 g5 g6 g7 g8 g9 c7 cO cQ cR e1 e2 e3 e4 e5 e6 e7 e8 e9 eJ eK dS eL
  exact ⟨(by show dh N ⟨ey,hl',eB,eA,ed,z',dZ,eb,eD,eE,eo,ek,ee⟩ ⟨⟨ml,mw,mz,mn⟩,ms,v,w,ws⟩; constructor <;> dsimp only <;> omega),trivial⟩
 | lc =>
  simp only [cW,Cn.busy,Cn.zero] at g1 g2 g3 g4 g5 g6 g7 g8 g9 c7 cO cQ cR e1 e2 e3 e4 e5 e6 e7 e8 e9 eJ eK dS eL
  exact ⟨(by show dh N ⟨ey,hl',eB,eA,ed,z',dZ,eb,eD,eE,eo,ek,ee⟩ ⟨⟨ml,mw,mz,mn⟩,ms,v,w,ws⟩; constructor <;> dsimp only <;> omega),trivial⟩
 | la =>
  simp only [cW,Cn.busy,Cn.zero] at g1 g2 g3 g4 g5 g6 g7 g8 g9 c7 cO cQ cR e1 e2 e3 e4 e5 e6 e7 e8 e9 eJ eK dS eL
  exact ⟨(by show dh N ⟨ey,hl',eB,eA,ed,z',dZ,eb,eD,eE,eo,ek,ee⟩ ⟨⟨ml,mw,mz,mn⟩,ms,v,w,ws⟩; constructor <;> dsimp only <;> omega),trivial⟩
 | ul =>
  simp only [cW,Cn.busy,Cn.zero] at g1 g2 g3 g4 g5 g6 g7 g8 g9 c7 cO cQ cR e1 e2 e3 e4 e5 e6 e7 e8 e9 eJ eK dS eL
  exact ⟨(by show dh N ⟨ey,hl',eB,eA,ed,z',dZ,eb,eD,eE,eo,ek,ee⟩ ⟨⟨ml,mw,mz,mn⟩,ms,v,w,ws⟩; constructor <;> dsimp only <;> omega),trivial⟩
 | uv =>
  simp only [cW,Cn.busy,Cn.zero] at g1 g2 g3 g4 g5 g6 g7 g8 g9 c7 cO cQ cR e1 e2 e3 e4 e5 e6 e7 e8 e9 eJ eK dS eL
  exact ⟨(by show dh N ⟨ey,hl',eB,eA,ed,z',dZ,eb,eD,eE,eo,ek,ee⟩ ⟨⟨ml,mw,mz,mn⟩,ms,v,w,ws⟩; constructor <;> dsimp only <;> omega),trivial⟩
 | ur =>
  simp only [cW,Cn.busy,Cn.zero] at g1 g2 g3 g4 g5 g6 g7 g8 g9 c7 cO cQ cR e1 e2 e3 e4 e5 e6 e7 e8 e9 eJ eK dS eL
  exact ⟨(by show dh N ⟨ey,hl',eB,eA,ed,z',dZ,eb,eD,eE,eo,ek,ee⟩ ⟨⟨ml,mw,mz,mn⟩,ms,v,w,ws⟩; constructor <;> dsimp only <;> omega),trivial⟩
 | ud =>
  simp only [cW,Cn.busy,Cn.zero] at g1 g2 g3 g4 g5 g6 g7 g8 g9 c7 cO cQ cR e1 e2 e3 e4 e5 e6 e7 e8 e9 eJ eK dS eL
  exact ⟨(by show dh N ⟨ey,hl',eB,eA,ed,z',dZ,eb,eD,eE,eo,ek,ee⟩ ⟨⟨ml,mw,mz,mn⟩,ms,v,w,ws⟩; constructor <;> dsimp only <;> omega),trivial⟩
 | u0z a b d =>
  simp only at a b d; subst a b d
  simp only [cW,Cn.busy,Cn.zero] at g1 g2 g3 g4 g5 g6 g7 g8 g9 c7 cO cQ cR e1 e2 e3 e4 e5 e6 e7 e8 e9 eJ eK dS eL
  exact ⟨(by show dh N ⟨ey,hl',eB,eA,ed,z',dZ,eb,eD,eE,eo,ek,ee⟩ ⟨⟨0,0,0,0⟩,ms,v,w,ws⟩; constructor <;> dsimp only <;> omega),trivial⟩
 | zO a b =>
  simp only at a b; subst b
  by_cases hx:mn=0∨(0:Nat)=1∨mw=1∨(0:Nat)=1
  ·have eh:hu ⟨0,mw,0,mn⟩ = .ue:=by simp only [hu,hx,if_true]
   simp only [eh] at g1 g2 g3 g4 g5 g6 g7 g8 g9 c7 cO cQ cR
   simp only [cW,Cn.busy,Cn.zero] at g1 g2 g3 g4 g5 g6 g7 g8 g9 c7 cO cQ cR e1 e2 e3 e4 e5 e6 e7 e8 e9 eJ eK dS eL
   rw [eh]
   exact ⟨(by show dh N ⟨ey,hl',eB,eA,ed,z',dZ,eb,eD,eE,eo,ek,ee⟩ ⟨⟨0,mw,0,mn⟩,ms,v,w,ws⟩; constructor <;> dsimp only <;> omega),trivial⟩
  ·have eh:hu ⟨0,mw,0,mn⟩ = .uc ⟨0,mw,0,mn⟩:=by simp only [hu,hx,if_false]
   simp only [eh] at g1 g2 g3 g4 g5 g6 g7 g8 g9 c7 cO cQ cR
   simp only [cW,Cn.busy,Cn.zero] at g1 g2 g3 g4 g5 g6 g7 g8 g9 c7 cO cQ cR e1 e2 e3 e4 e5 e6 e7 e8 e9 eJ eK dS eL
   rw [eh]
   exact ⟨(by show dh N ⟨ey,hl',eB,eA,ed,z',dZ,eb,eD,eE,eo,ek,ee⟩ ⟨⟨0,mw,0,mn⟩,ms,v,w,ws⟩; constructor <;> dsimp only <;> omega),⟨by simp,q2,by simp,q4⟩,rfl,by simp only; omega,rfl,by simp only; omega⟩
 | u0h a =>
  simp only at a; subst a
  simp only [cW,Cn.busy,Cn.zero] at g1 g2 g3 g4 g5 g6 g7 g8 g9 c7 cO cQ cR e1 e2 e3 e4 e5 e6 e7 e8 e9 eJ eK dS eL
  exact ⟨(by show dh N ⟨ey,hl',eB,eA,ed,z',dZ,eb,eD,eE,eo,ek,ee⟩ ⟨⟨0,mw,1,mn⟩,ms,v,w,ws⟩; constructor <;> dsimp only <;> omega),trivial⟩
 | ajp a =>
  cases a
  obtain ⟨⟨o1,o2,o3,o4⟩,t2,t3,t4,t5⟩:=hT
  simp only at t2 t3 t4 t5
  subst t2 t3 t4
  simp only [cW,Cn.busy,Cn.zero] at g1 g2 g3 g4 g5 g6 g7 g8 g9 c7 cO cQ cR e1 e2 e3 e4 e5 e6 e7 e8 e9 eJ eK dS eL
  exact ⟨(by show dh N ⟨ey,hl',eB,eA,ed,z',dZ,eb,eD,eE,eo,ek,ee⟩ ⟨⟨0,1,0,mn - 1⟩,ms,v,w,ws⟩; constructor <;> dsimp only <;> omega),trivial⟩
 | abE a =>
  simp only [cW,Cn.busy,Cn.zero] at g1 g2 g3 g4 g5 g6 g7 g8 g9 c7 cO cQ cR e1 e2 e3 e4 e5 e6 e7 e8 e9 eJ eK dS eL
  exact ⟨(by show dh N ⟨ey,hl',eB,eA,ed,z',dZ,eb,eD,eE,eo,ek,ee⟩ ⟨⟨ml,mw,mz,mn⟩,ms,v,w,ws⟩; constructor <;> dsimp only <;> omega),trivial⟩
 | ux =>
  by_cases hx:mn=0∨ml=1∨mw=1∨mz=1
  ·have eh:hu ⟨ml,mw,mz,mn⟩ = .ue:=by simp only [hu,hx,if_true]
   simp only [eh] at g1 g2 g3 g4 g5 g6 g7 g8 g9 c7 cO cQ cR
   simp only [cW,Cn.busy,Cn.zero] at g1 g2 g3 g4 g5 g6 g7 g8 g9 c7 cO cQ cR e1 e2 e3 e4 e5 e6 e7 e8 e9 eJ eK dS eL
   rw [eh]
   exact ⟨(by show dh N ⟨ey,hl',eB,eA,ed,z',dZ,eb,eD,eE,eo,ek,ee⟩ ⟨⟨ml,mw,mz,mn⟩,ms,v,w,ws⟩; constructor <;> dsimp only <;> omega),trivial⟩
  ·have eh:hu ⟨ml,mw,mz,mn⟩ = .uc ⟨ml,mw,mz,mn⟩:=by simp only [hu,hx,if_false]
   simp only [eh] at g1 g2 g3 g4 g5 g6 g7 g8 g9 c7 cO cQ cR
   simp only [cW,Cn.busy,Cn.zero] at g1 g2 g3 g4 g5 g6 g7 g8 g9 c7 cO cQ cR e1 e2 e3 e4 e5 e6 e7 e8 e9 eJ eK dS eL
   rw [eh]
   exact ⟨(by show dh N ⟨ey,hl',eB,eA,ed,z',dZ,eb,eD,eE,eo,ek,ee⟩ ⟨⟨ml,mw,mz,mn⟩,ms,v,w,ws⟩; constructor <;> dsimp only <;> omega),⟨q1,q2,q3,q4⟩,by simp only; omega,by simp only; omega,by simp only; omega,by simp only; omega⟩
 | us =>
  simp only [cW,Cn.busy,Cn.zero] at g1 g2 g3 g4 g5 g6 g7 g8 g9 c7 cO cQ cR e1 e2 e3 e4 e5 e6 e7 e8 e9 eJ eK dS eL
  exact ⟨(by show dh N ⟨ey,hl',eB,eA,ed,z',dZ,eb,eD,eE,eo,ek,ee⟩ ⟨⟨ml,mw,mz,mn⟩,ms+1,v,w,ws⟩; constructor <;> dsimp only <;> omega),trivial⟩
 | RK =>
  simp only [cW,Cn.busy,Cn.zero] at g1 g2 g3 g4 g5 g6 g7 g8 g9 c7 cO cQ cR e1 e2 e3 e4 e5 e6 e7 e8 e9 eJ eK dS eL
  exact ⟨(by show dh N ⟨ey,hl',eB,eA,ed,z',dZ,eb,eD,eE,eo,ek,ee⟩ ⟨⟨ml,mw,mz,mn⟩,ms,v,w,ws⟩; constructor <;> dsimp only <;> omega),trivial⟩
 | RL =>
  simp only [cW,Cn.busy,Cn.zero] at g1 g2 g3 g4 g5 g6 g7 g8 g9 c7 cO cQ cR e1 e2 e3 e4 e5 e6 e7 e8 e9 eJ eK dS eL
  exact ⟨(by show dh N ⟨ey,hl',eB,eA,ed,z',dZ,eb,eD,eE,eo,ek,ee⟩ ⟨⟨ml,mw,mz,mn⟩,ms,v,w,ws⟩; constructor <;> dsimp only <;> omega),trivial⟩
 | wv =>
  simp only [cW,Cn.busy,Cn.zero] at g1 g2 g3 g4 g5 g6 g7 g8 g9 c7 cO cQ cR e1 e2 e3 e4 e5 e6 e7 e8 e9 eJ eK dS eL
  exact ⟨(by show dh N ⟨ey,hl',eB,eA,ed,z',dZ,eb,eD,eE,eo,ek,ee⟩ ⟨⟨ml,mw,mz,mn⟩,ms,v,w,ws⟩; constructor <;> dsimp only <;> omega),trivial⟩
 | wr =>
  simp only [cW,Cn.busy,Cn.zero] at g1 g2 g3 g4 g5 g6 g7 g8 g9 c7 cO cQ cR e1 e2 e3 e4 e5 e6 e7 e8 e9 eJ eK dS eL
  exact ⟨(by show dh N ⟨ey,hl',eB,eA,ed,z',dZ,eb,eD,eE,eo,ek,ee⟩ ⟨⟨ml,mw,mz,mn⟩,ms,v,w,ws⟩; constructor <;> dsimp only <;> omega),trivial⟩
 | wk =>
  simp only [cW,Cn.busy,Cn.zero] at g1 g2 g3 g4 g5 g6 g7 g8 g9 c7 cO cQ cR e1 e2 e3 e4 e5 e6 e7 e8 e9 eJ eK dS eL
  exact ⟨(by show dh N ⟨ey,hl',eB,eA,ed,z',dZ,eb,eD,eE,eo,ek,ee⟩ ⟨⟨ml,mw,mz,mn⟩,ms,v,w,ws⟩; constructor <;> dsimp only <;> omega),trivial⟩
 | Jg a =>
  simp only [cW,Cn.busy,Cn.zero] at g1 g2 g3 g4 g5 g6 g7 g8 g9 c7 cO cQ cR e1 e2 e3 e4 e5 e6 e7 e8 e9 eJ eK dS eL
  exact ⟨(by show dh N ⟨ey,hl',eB,eA,ed,z',dZ,eb,eD,eE,eo,ek,ee⟩ ⟨⟨ml,mw,mz,mn⟩,ms,v - 1,w,ws⟩; constructor <;> dsimp only <;> omega),trivial⟩
 | UD a b =>
  simp only [cW,Cn.busy,Cn.zero] at g1 g2 g3 g4 g5 g6 g7 g8 g9 c7 cO cQ cR e1 e2 e3 e4 e5 e6 e7 e8 e9 eJ eK dS eL
  exact ⟨(by show dh N ⟨ey,hl',eB,eA,ed,z',dZ,eb,eD,eE,eo,ek,ee⟩ ⟨⟨ml,mw,mz,mn⟩,ms,0,w,ws⟩; constructor <;> dsimp only <;> omega),trivial⟩
 | d2 =>
  simp only [cW,Cn.zero] at g1 g2 g3 g4 g5 g6 g7 g8 g9 c7 cO cQ cR e1 e2 e3 e4 e5 e6 e7 e8 e9 eJ eK dS eL
  exact ⟨(by show dh N ⟨ey,hl',eB,eA,ed,z',dZ,eb,eD,eE,eo,ek,ee⟩ ⟨⟨ml,mw,mz,mn⟩,ms,v,w,ws⟩; constructor <;> dsimp only <;> omega),trivial⟩
 | d3 =>
  simp only [cW,Cn.zero] at g1 g2 g3 g4 g5 g6 g7 g8 g9 c7 cO cQ cR e1 e2 e3 e4 e5 e6 e7 e8 e9 eJ eK dS eL
  exact ⟨(by show dh N ⟨ey,hl',eB,eA,ed,z',dZ,eb,eD,eE,eo,ek,ee⟩ ⟨⟨ml,mw,mz,mn⟩,ms,0,0,ws⟩; constructor <;> dsimp only <;> omega),trivial⟩
 | d4 =>
  simp only [cW,Cn.zero] at g1 g2 g3 g4 g5 g6 g7 g8 g9 c7 cO cQ cR e1 e2 e3 e4 e5 e6 e7 e8 e9 eJ eK dS eL
  exact ⟨(by show dh N ⟨ey,hl',eB,eA,ed,z',dZ,eb,eD,eE,eo,ek,ee⟩ ⟨⟨ml,mw,mz,mn⟩,ms,v,w,ws+1⟩; constructor <;> dsimp only <;> omega),trivial⟩
end
inductive Mp
 | ka (r:Nat) | kc (r:Nat) | kv (r:Nat) | kd (r:Nat) | ke (r:Nat) | go (r:Nat) | wa | w1 | w2 (v:Nat) | wV | wW | w3 | w4 | we | qv | wq | fin
def kO:Nat→Mp
 | 0=>.wa
 | r+1=>.ka r
inductive gO:Mp→Sh→Mp→Sh→Prop
 | ka {s r}:gO (.ka r) s (.kc r) s
 | kc1 {s r}:s.v=0→gO (.kc r) s (.kv r) { s with v:=1 }
 | kv {s r}:gO (.kv r) s (.kd r) s
 | kcn {s r}:s.v≠0→gO (.kc r) s (.ke r) { s with v:=s.v+1 }
 | kd {s r}:gO (.kd r) s (.ke r) s
 | ke {s r}:gO (.ke r) s (.go r) s
 | wa {s}:gO .wa s .w1 s
 | w1z {s}:s.v=0→gO .w1 s .we s
 | w1n {s}:s.v≠0→gO .w1 s (.w2 s.v) s
 | aki {s}:gO (.w2 s.v) s .wV { s with w:=1 }
 | wV {s}:gO .wV s .wW s
 | akh {s v}:s.v≠v→gO (.w2 v) s .w1 s
 | wW {s}:gO .wW s .w3 s
 | w3 {s m}:s.ws=m+1→gO .w3 s .w4 { s with ws:=m }
 | w4 {s}:gO .w4 s .we s
 | we {s}:gO .we s .qv s
 | qv {s}:gO .qv s .wq s
 | wq {s}:gO .wq s .fin s
def rem:Mp→Nat
 | .ka r | .kc r | .kv r | .kd r | .ke r | .go r=>r+1
 | _=>0
def Cn.jP(c:Cn):Nat:=c.wk+c.z+c.pc+c.a1+c.ak
def kY(c:Cn)(s:Sh):Mp→Prop
 | .ka _ | .kc _ | .wa | .w1=>s.v=c.lv∧s.w=0∧s.ws=0∧c.dw=0∧c.d4=0
 | .w2 v=>s.v=c.lv∧s.w=0∧s.ws=0∧c.dw=0∧c.d4=0∧v≠0
 | .kv _ | .kd _ | .ke _ | .go _=>s.v=c.lv+1∧s.w=0∧s.ws=0∧c.dw=0∧c.d4=0
 | .wV | .wW | .w3=>(s.w=1∧s.ws=0∧c.d4=0∧s.v=c.lv∧((s.v=0∧c.dw=1)∨(1≤s.v∧c.dw=0)))∨(s.w=0∧s.v=0∧c.lv=0∧c.dw=0∧c.d4+s.ws=1)
 | _=>s.v=0∧s.w=0∧s.ws=0∧c.lv=0∧c.dw=0∧c.d4=0
structure oU (N:Nat) (T0:Mp) (c:Cn) (s:Sh):Prop where
 wg:kY c s T0
 eq:c.lv+c.dw+c.d4=c.jP
 le:c.jP+rem T0≤N
def okW(N:Nat):Lp→Sh→Prop
 | .d1,s=>1≤s.v∧s.v≤N∧s.w≤1
 | .d2,s=>s.v=0∧s.w=1
 | .d4,s=>s.ws=0
 | _,_=>True
def pv(N:Nat):Mp→Sh→Prop
 | .kc _,s=>s.w=0∧s.v+1≤N
 | .w1,s=>s.w=0∧s.v≤N
 | .w2 v,s=>s.w=0∧s.v≤N∧v≠0
 | .w4,s=>s.v=0∧s.w=0
 | .w3,s=>s.ws≤1
 | _,_=>True
section
variable {N:Nat} {c c':Cn} {s s':Sh} {T T':Lp} {T0 jh:Mp}
theorem Uv(T:Lp):(cW T).lv+(cW T).dw+(cW T).d4=(cW T).jP:=by
 cases T <;> simp [cW,Cn.busy,Cn.zero,Cn.jP]
 case a1 b=>cases b <;> simp
theorem Cn.AD.jP{x y:Cn}(h:c.AD x y c'):c'.jP+x.jP=c.jP+y.jP:=by
 have:=h.wk; have:=h.z; have:=h.pc; have:=h.a1; have:=h.ak
 unfold Cn.jP; omega
theorem oU.okW(h:oU N T0 c s)(hle:(cW T).Le c):okW N T s:=by
 obtain ⟨h1,h2,h3⟩:=h
 have e1:=hle.lv
 have e2:=hle.dw
 have e3:=hle.d4
 cases T <;> simp only [cW,Cn.busy,Cn.zero] at e1 e2 e3 <;> first | trivial | skip
 all_goals
  show _
  cases T0 <;> simp only [kY,rem] at h1 h3 <;> simp only [Go.Lg.okW] <;> omega
theorem oU.pv(h:oU N T0 c s):pv N T0 s:=by
 obtain ⟨h1,h2,h3⟩:=h
 cases T0 <;> simp only [kY,rem] at h1 h3 <;> simp only [Go.Lg.pv] <;> omega
set_option maxHeartbeats 2000000 in
theorem oU.step(h:oU N T0 c s)(hle:(cW T).Le c)(dy:dp T s T' s')(hc:c.AD (cW T) (cW T') c'):oU N T0 c' s':=by
 obtain ⟨h1,h2,h3⟩:=h
 have q1:=Uv T
 have q2:=Uv T'
 have q3:=hc.jP
 have cO:=hc.lv
 have cQ:=hc.dw
 have cR:=hc.d4
 have e1:=hle.lv
 have e2:=hle.dw
 have e3:=hle.d4
 have same:(cW T').lv=(cW T).lv→(cW T').dw=(cW T).dw→(cW T').d4=(cW T).d4→s'.v=s.v→s'.w=s.w→s'.ws=s.ws→oU N T0 c' s':=by
  intro a1 a2 a3 a4 a5 a6
  refine ⟨?_,by omega,by omega⟩
  cases T0 <;> simp only [kY,a4,a5,a6] at h1 ⊢ <;> omega
 cases dy
 case Jg a =>
  refine ⟨?_,by omega,by simp only [cW,Cn.busy,Cn.zero,Cn.jP] at q3; unfold Cn.jP at h3 ⊢; omega⟩
  simp only [cW,Cn.busy,Cn.zero] at cO cQ cR e1 e2 e3
  clear q1 q2 q3 h2 h3 same hc hle
  have wt:kY c s .w3→kY c' { s with v:=s.v - 1 } .w3:=λ h=>by
   simp only [kY] at h ⊢
   rcases h with ⟨a1,a2,a3,a4,a5⟩ | ⟨a1,a2,a3,a4,a5⟩
   ·rcases a5 with ⟨a5,a6⟩ | ⟨a5,a6⟩ <;> first | omega | (refine .inl ⟨a1,a2,by omega,by omega,.inr ⟨by omega,by omega⟩⟩)
   ·first | omega | (omega)
  cases T0 <;> first | exact wt h1 | (simp only [kY] at h1 ⊢; omega)
 case UD a b =>
  refine ⟨?_,by omega,by simp only [cW,Cn.busy,Cn.zero,Cn.jP] at q3; unfold Cn.jP at h3 ⊢; omega⟩
  simp only [cW,Cn.busy,Cn.zero] at cO cQ cR e1 e2 e3
  clear q1 q2 q3 h2 h3 same hc hle
  have wt:kY c s .w3→kY c' { s with v:=0 } .w3:=λ h=>by
   simp only [kY] at h ⊢
   rcases h with ⟨a1,a2,a3,a4,a5⟩ | ⟨a1,a2,a3,a4,a5⟩
   ·rcases a5 with ⟨a5,a6⟩ | ⟨a5,a6⟩ <;> first | omega | (exact .inl ⟨a1,a2,by omega,by omega,.inl ⟨trivial,by omega⟩⟩)
   ·first | omega | (omega)
  cases T0 <;> first | exact wt h1 | (simp only [kY] at h1 ⊢; omega)
 case d3 =>
  refine ⟨?_,by omega,by simp only [cW,Cn.zero,Cn.jP] at q3; unfold Cn.jP at h3 ⊢; omega⟩
  simp only [cW,Cn.zero] at cO cQ cR e1 e2 e3
  clear q1 q2 q3 h2 h3 same hc hle
  have wt:kY c s .w3→kY c' { s with v:=0,w:=0 } .w3:=λ h=>by
   simp only [kY] at h ⊢
   rcases h with ⟨a1,a2,a3,a4,a5⟩ | ⟨a1,a2,a3,a4,a5⟩
   ·rcases a5 with ⟨a5,a6⟩ | ⟨a5,a6⟩ <;> first | omega | (exact .inr ⟨trivial,trivial,by omega,by omega,by omega⟩)
   ·first | omega | (omega)
  cases T0 <;> first | exact wt h1 | (simp only [kY] at h1 ⊢; omega)
 case d4 =>
  refine ⟨?_,by omega,by simp only [cW,Cn.zero,Cn.jP] at q3; unfold Cn.jP at h3 ⊢; omega⟩
  simp only [cW,Cn.zero] at cO cQ cR e1 e2 e3
  clear q1 q2 q3 h2 h3 same hc hle
  have wt:kY c s .w3→kY c' { s with ws:=s.ws+1 } .w3:=λ h=>by
   simp only [kY] at h ⊢
   rcases h with ⟨a1,a2,a3,a4,a5⟩ | ⟨a1,a2,a3,a4,a5⟩
   ·rcases a5 with ⟨a5,a6⟩ | ⟨a5,a6⟩ <;> first | omega | (omega)
   ·first | omega | (exact .inr ⟨a1,a2,by omega,by omega,by omega⟩)
  cases T0 <;> first | exact wt h1 | (simp only [kY] at h1 ⊢; omega)
 case r0=>refine same ?_ ?_ ?_ rfl rfl rfl <;> simp only [td] <;> rfl
 case r1=>refine same ?_ ?_ ?_ rfl rfl rfl <;> simp only [td] <;> rfl
 case r3=>refine same ?_ ?_ ?_ rfl rfl rfl <;> simp only [td] <;> rfl
 case zB=>refine same ?_ ?_ ?_ rfl rfl rfl <;> simp only [td] <;> rfl
 case zM=>refine same ?_ ?_ ?_ rfl rfl rfl <;> simp only [Uw] <;> rfl
 case yA c0 hm hq=>refine same ?_ ?_ ?_ rfl rfl rfl <;> cases c0.ws <;> rfl
 case s1 c0 m hm=>refine same ?_ ?_ ?_ rfl rfl rfl <;> cases c0.sv <;> rfl
 case MH c0 hm=>refine same ?_ ?_ ?_ rfl rfl rfl <;> cases (c0.sv && s.mu.n != 1) <;> rfl
 case a1 b=>refine same ?_ ?_ ?_ rfl rfl rfl <;> cases b <;> rfl
 case zO a b=>refine same ?_ ?_ ?_ rfl rfl rfl <;> simp only [hu] <;> split <;> rfl
 case ux=>refine same ?_ ?_ ?_ rfl rfl rfl <;> simp only [hu] <;> split <;> rfl
 all_goals exact same rfl rfl rfl rfl rfl rfl
theorem oU.main(h:oU N T0 c s)(dy:gO T0 s jh s'):oU N jh c s':=by
 obtain ⟨h1,h2,h3⟩:=h
 cases dy
 case aki =>
  obtain ⟨a1,a2,a3,a4,a5,a6⟩:=h1
  exact ⟨.inl ⟨rfl,a3,a5,a1,.inr ⟨by dsimp only; omega,a4⟩⟩,h2,by simp only [rem] at h3 ⊢; omega⟩
 case wV=>exact ⟨h1,h2,h3⟩
 case wW=>exact ⟨h1,h2,h3⟩
 all_goals refine ⟨?_,h2,?_⟩ <;> simp only [kY,rem] at h1 h3 ⊢ <;> omega
theorem dh.main(h:dh N c s)(dy:gO T0 s jh s'):dh N c s':=by
 obtain ⟨h1,h2,h3,h4,h5,h6,h8,h9,Jw,Jx⟩:=h
 cases dy <;> exact ⟨h1,h2,h3,h4,h5,h6,h8,h9,Jw,Jx⟩
theorem oU.spawn{r:Nat}(h:oU N (.go r) c s)(hc:c.AD Cn.zero (cW .ld) c'):oU N (kO r) c' s:=by
 obtain ⟨h1,h2,h3⟩:=h
 have q1:=Uv .ld
 have q3:=hc.jP
 have cO:=hc.lv
 have cQ:=hc.dw
 have cR:=hc.d4
 cases r <;> refine ⟨?_,?_,?_⟩ <;> simp only [kY,rem,kO,cW,Cn.busy,Cn.zero,Cn.jP] at * <;> omega
theorem dh.spawn{r:Nat}(h:dh N c s)(hg:oU N (.go r) c s)(hc:c.AD Cn.zero (cW .ld) c'):dh N c' s:=by
 have hle:=hg.le
 obtain ⟨h1,h2,h3,h4,h5,h6,h8,h9,Jw,Jx⟩:=h
 obtain ⟨g1,g2,g3,g4,g5,g6,g7,g8,g9,c7,cO,cQ,cR⟩:=hc
 simp only [cW,Cn.busy,Cn.zero,Cn.jP,rem] at *
 constructor <;> omega
end
def iO:Lp→Nat
 | .ld | .l0 | .r0=>9
 | .sq c | .c1 c | .r1 c | .c2 c | .r3 c=>if c.aw then 8 else 9
 | .t1 _ | .s1 _=>6
 | .t2 _ | .r2 _ | .a1 _=>8
 | .le | .lc | .la | .ul _ | .uv _ | .ur _=>5
 | .ud | .u0=>16
 | .uc _ | .ux=>15
 | .us=>14
 | .ue=>10
 | .wv | .wr | .wk | .d1=>8
 | .d2 | .d3=>6
 | .d4=>5
 | .quit=>0
def kz(m:Wd):Lp→Nat
 | .ld=>31
 | .l0=>30
 | .r0=>29
 | .sq c=>(4 - c.it) * 5+(if c.old=m then 0 else 5)+3
 | .c1 c=>(4 - c.it) * 5+(if c.old=m then 0 else 5)+2
 | .r1 c=>(4 - c.it) * 5+1
 | .c2 c=>(4 - c.it) * 5+(if c.old=m then 0 else 5)+1
 | .r3 c=>(4 - c.it) * 5+5
 | .t1 _=>2
 | .s1 _=>1
 | .t2 _=>25
 | .r2 _=>24
 | .le=>5
 | .lc=>4
 | .la=>3
 | .ul _=>2
 | .uv _=>1
 | .ud=>1
 | .uc o=>if o=m then 0 else 3
 | .ux=>2
 | .wv=>3
 | .wr=>2
 | .wk=>1
 | .d2=>1
 | _=>0
def gY:Lp→Bool
 | .ur _=>true
 | _=>false
theorem aIN(m:Wd)(T:Lp):kz m T≤31:=by
 cases T <;> simp only [kz] <;> (try split) <;> omega
theorem RE(c:Lc):iO (hd c)=if c.aw then 8 else 9:=by unfold hd; split <;> rfl
theorem Rt{c:Lc}{m:Wd}(h:c.old=m):kz m (hd c)≤(4 - c.it) * 5+3:=by unfold hd; split <;> simp only [kz,h,if_true] <;> omega
theorem dp.OL{N:Nat}{s s':Sh}{T T':Lp}(hT:ri N T)(dy:dp T s T' s') :
  iO T'+3 * s'.ms+3 * s'.ws < iO T+3 * s.ms+3 * s.ws+(if gY T then 20 else 0) ∨
  (iO T'+3 * s'.ms+3 * s'.ws=iO T+3 * s.ms+3 * s.ws∧gY T=false∧s'.mu=s.mu∧s'.v=s.v∧kz s.mu T' < kz s.mu T):=by
 cases dy
 case r0=>right; have:=Rt (c:=⟨s.mu,false,false,0,false⟩) (m:=s.mu) rfl; rw [RE]; generalize kz s.mu (hd _)=x at this ⊢; exact ⟨rfl,rfl,rfl,rfl,by simp only [kz]; simp only at this; omega⟩
 case RD c=>right; simp [iO,kz,gY]
 case zM c h=>right; unfold jC; split <;> simp [iO,kz,gY]; omega
 case Uh c h=>left; obtain ⟨_,_,_,t4,_⟩:=hT; simp [iO,t4,gY]
 case Ug c h=>right; simp [iO,kz,gY,Ne.symm h]
 case r1 c =>
  right; obtain ⟨_,t2,_⟩:=hT
  have:=Rt (c:={ c with old:=s.mu,it:=c.it+1 }) (m:=s.mu) rfl
  rw [RE]; generalize kz s.mu (hd _)=x at this ⊢; exact ⟨rfl,rfl,rfl,rfl,by simp only [kz]; simp only at this; omega⟩
 case Ul c h _ _=>left; simp only [iO,gY]; split <;> simp
 case yA c h _=>left; simp only [gY]; cases c.ws <;> cases hb:c.aw <;> simp [iO,hb]
 case Um c h=>right; simp [iO,kz,gY,Ne.symm h]
 case r3 c =>
  right
  have:=Rt (c:={ c with old:=s.mu }) (m:=s.mu) rfl
  rw [RE]; generalize kz s.mu (hd _)=x at this ⊢; exact ⟨rfl,rfl,rfl,rfl,by simp only [kz]; simp only at this; omega⟩
 case t1 c b=>right; simp [iO,kz,gY]
 case s1 c m h=>left; cases c.sv <;> simp [iO,gY,h] <;> omega
 case t2 c b=>right; simp [iO,kz,gY]
 case MH c h=>right; simp [iO,kz,gY]
 case zB c h =>
  right
  have:=Rt (c:={ c with old:=s.mu,aw:=true,it:=0 }) (m:=s.mu) rfl
  rw [RE]; generalize kz s.mu (hd _)=x at this ⊢; exact ⟨rfl,rfl,rfl,rfl,by simp only [kz]; simp only at this; omega⟩
 case zO a b=>left; unfold hu; split <;> simp [iO,gY]
 case abE m h=>right; simp [iO,kz,gY,Ne.symm h]
 case ux=>unfold hu; split <;> simp [iO,kz,gY]
 case us=>left; simp [iO,gY]; omega
 case d4=>left; simp [iO,gY]; omega
 case ur=>left; simp [iO,gY]; omega
 all_goals simp [iO,kz,gY]
def stM(J:Nat):Mp→Nat
 | .ka r | .kc r=>(r+1) * (20 * J+20)+15
 | .kv r | .kd r | .ke r | .go r=>(r+1) * (20 * J+20)+14
 | .wa | .w1 | .w2 _=>10
 | .wV | .wW | .w3=>8
 | .w4 | .we | .qv | .wq=>6
 | .fin=>0
def BQ(v:Nat):Mp→Nat
 | .ka _=>1
 | .kv _=>3
 | .kd _=>2
 | .ke _=>1
 | .wa=>6
 | .w1=>4
 | .w2 u=>if u=v then 1 else 5
 | .wV=>2
 | .wW=>1
 | .w4=>3
 | .we=>2
 | .qv=>1
 | _=>0
theorem aIM(v:Nat)(T:Mp):BQ v T≤31:=by
 cases T <;> simp only [BQ] <;> (try split) <;> omega
theorem gO.OL{J:Nat}{s s':Sh}{T T':Mp}(dy:gO T s T' s') :
  stM J T'+3 * s'.ms+3 * s'.ws < stM J T+3 * s.ms+3 * s.ws ∨
  (stM J T'+3 * s'.ms+3 * s'.ws=stM J T+3 * s.ms+3 * s.ws∧s'.mu=s.mu∧s'.v=s.v∧BQ s.v T' < BQ s.v T):=by
 cases dy
 case w1n h=>right; simp [stM,BQ]
 case akh v h=>right; simp [stM,BQ,Ne.symm h]
 case w3 m h=>left; simp [stM,h]; omega
 all_goals simp [stM,BQ]
theorem aJm(J r:Nat):stM J (kO r)+(20 * J+iO .ld) < stM J (.go r):=by
 cases r with
 | zero=>simp [kO,stM,iO]; omega
 | succ r=>simp only [kO,stM,iO,Nat.add_mul]; omega
open Go.Conc Go.ConcN
def Cl(P:Program)(K:Goroutine→Prop):Nat→Goroutine→Prop
 | 0,g=>K g
 | n+1,g=>K g∨(g.status = .running∧∃ g',(∀ w,stepG P false g w = .go g' w #[])∧Cl P K n g')
structure Fx where
 P:Program
 B:Base
 bm:Nat
 bw:Nat
 bo:Nat
 tm:TypeId
 tw:TypeId
 N:Nat
 J:Nat
 cont:(Nat→Nat)→Obj
 ho:bm≠bw∧bm≠bo∧bw≠bo
 hJ:0 < J
 hN:N≤4
 mj:az→ah→Goroutine→Prop
def qo(tm:TypeId)(s:Sh):Obj:=.cells #[.int .i32 s.mu.val,.int .u32 (s.ms:Int)] tm (0,0)
def Ad(s:Sh):Int:=4294967296 * s.v+s.w
def qC(tw:TypeId)(s:Sh):Obj:=.cells #[.int .u64 (Ad s),.int .u32 (s.ws:Int)] tw (0,0)
variable (F:Fx)
structure fD (s:Sh) (w:World):Prop where
 m:w.heap[F.bm]? = some (qo F.tm s)
 g:w.heap[F.bw]? = some (qC F.tw s)
structure cB (s':Sh) (w w':World):Prop where
 size:w'.heap.size=w.heap.size
 same:∀ b,b≠F.bm→b≠F.bw→w'.heap[b]? = w.heap[b]?
 sh:fD F s' w'
 os:F.B.os w.os→F.B.os w'.os
 tape:w'.tape=w.tape
 out:w'.output=w.output
def am:Addr:=⟨F.bm,0,none⟩
def aw:Addr:=⟨F.bw,0,none⟩
def rD:Addr:=⟨F.bw,1,none⟩
def qH(es:Array Event):Prop:=(∀ e∈es,∃ a wr,e=⟨.cell a,wr,true⟩∧(a.block=F.bm∨a.block=F.bw))∨∃ a,(a.block=F.bm∨a.block=F.bw)∧es=semEvents a
def said(m:Mark):Array Event:=#[⟨.mark m,false,true⟩]
def FQ:Lp→Array Event→Prop
 | .ld,es | .ud,es | .wk,es=>es=said .disable
 | .le,es | .ue,es=>es=said .enable
 | .la,es=>es=said (.acquire (am F))
 | .ur _,es=>es=said (.releaseMerge (am F))
 | .wr,es=>es=said (.releaseMerge (aw F))
 | _,es=>qH F es
def CL:Mp→Array Event→Prop
 | .ka _,es | .wa,es=>es=said .disable
 | .ke _,es | .we,es=>es=said .enable
 | .kd _,es=>es=said (.read (rD F))
 | .wW,es=>es=said (.write (rD F))
 | .wq,es=>es=said (.acquire (aw F))
 | _,es=>qH F es
def kq:Lp→Bool
 | .wk | .d1 | .d2 | .d3 | .d4=>true
 | _=>false
def zP(j:Nat):Lp→Lp→Prop
 | .ue,.ld=>j < F.J
 | .ue,.wv=>j=F.J
 | _,_=>True
def yv(K:Nat→Lp→az→ah→Goroutine→Prop)(k j:Nat)(T T':Lp)(R:az)(H:ah)(g':Goroutine):Prop :=
 match T' with
 | .quit=>∃ q,QuitsD F.P q 1 g'
 | .ul _=>∀ js,js k=j→Own F.P F.B false (K j (.ul js)) R ((F.bo,F.cont js)::H) g'
 | .ud=>∃ js H',T = .ur js∧H=(F.bo,F.cont (gG js k (j+1)))::H'∧Own F.P F.B false (K (j+1) .ud) R H' g'
 | T'=>if kq T' then ∃ q,Cl F.P (K j T' R H) q g' else Own F.P F.B false (K j T') R H g'
def KW:Nat→Nat→Nat→Lp→az→ah→Goroutine→Prop
 | 0,_,_,_,_,_,_=>True
 | n+1,k,j,T,R,H,g=>ri F.N T→g.status = .running∧g.offers=none∧((T = .us∨T = .d4)→mayWake F.P g=true) ∧
   ∀ w s,Fits F.B R H w→fD F s w→xS F.N T s→okW F.N T s →
    ((∃ c,T = .s1 c)∧s.ms=0∧stepG F.P false g w = .go { g with status:=.blocked } w #[]) ∨
    ∃ g' w' es T' s',dp T s T' s'∧zP F j T T'∧FQ F T es∧stepG F.P false g w = .go g' w' es∧cB F s' w w' ∧
     yv F (KW n k) k j T T' R H g'
def KM:Nat→Mp→az→ah→Goroutine→Prop
 | 0,_,_,_,_=>True
 | n+1,T,R,H,g=>g.status = .running∧g.offers=none ∧
   ∀ w s,Fits F.B R H w→fD F s w→pv F.N T s →
    match T with
    | .go r=>∃ g' child,stepG F.P true g w = .spawn g' child w #[]∧Own F.P F.B false (KW F n (F.N - (r+1)) 0 .ld) R [] child∧Own F.P F.B true (KM n (kO r)) R H g'
    | .wq=>∃ g' w',stepG F.P true g w = .go g' w' (said (.acquire (aw F)))∧cB F s w w'∧∀ js,(∀ k,k < F.N→js k=F.J)→F.mj R ((F.bo,F.cont js)::H) g'
    | T=>(T = .w3∧s.ws=0∧stepG F.P true g w = .go { g with status:=.blocked } w #[]) ∨
     ∃ g' w' es T' s',gO T s T' s'∧CL F T es∧stepG F.P true g w = .go g' w' es∧cB F s' w w'∧Own F.P F.B true (KM n T') R H g'
inductive Ab
 | no
 | wk (k j:Nat) (T:Lp)
 | mn (T:Mp)
def cA:Ab→Cn
 | .wk _ _ T=>cW T
 | _=>.zero
def cP:Ab→Nat
 | .no=>0
 | .wk _ j T=>20 * (F.J - j)+iO T
 | .mn T=>stM F.J T
def oG(s:Sh):Ab→Nat
 | .no=>0
 | .wk _ _ T=>kz s.mu T
 | .mn T=>BQ s.v T
def oZ:Lp→Nat
 | .ld | .lc | .la | .ul _ | .uv _ | .ur _ | .ud | .wv | .wr | .wk=>0
 | _=>1
def pX:Mp→Nat
 | .ka _ | .go _ | .wa | .qv | .wq | .fin=>0
 | _=>1
def cnt(D:Nat→Ab)(n:Nat):Cn where
 ow:=de n λ i=>(cA (D i)).ow
 hl:=de n λ i=>(cA (D i)).hl
 pu:=de n λ i=>(cA (D i)).pu
 pc:=de n λ i=>(cA (D i)).pc
 al:=de n λ i=>(cA (D i)).al
 z:=de n λ i=>(cA (D i)).z
 a1:=de n λ i=>(cA (D i)).a1
 ak:=de n λ i=>(cA (D i)).ak
 ux:=de n λ i=>(cA (D i)).ux
 wk:=de n λ i=>(cA (D i)).wk
 lv:=de n λ i=>(cA (D i)).lv
 dw:=de n λ i=>(cA (D i)).dw
 d4:=de n λ i=>(cA (D i)).d4
def cF(D:Nat→Ab)(i:Nat)(x:Ab):Nat→Ab:=λ j=>if j=i then x else D j
def mN(D:Nat→Ms)(i:Nat)(x:Ms):Nat→Ms:=λ j=>if j=i then x else D j
def MM(Q:Nat)(D:Nat→Ab)(s:Sh)(n:Nat):Nat:=(de n (λ i=>cP F (D i))+3 * s.ms+3 * s.ws) * Q+de n (λ i=>oG s (D i))
def Ex(j:Nat):Lp→Prop
 | .ud | .u0 | .uc _ | .ux | .us | .ue=>j≤F.J
 | .wv | .wr | .wk | .d1 | .d2 | .d3 | .d4=>j=F.J
 | .quit=>False
 | _=>j < F.J
def BI(js:Nat→Nat):Lp→Prop
 | .ul j | .uv j | .ur j=>j=js
 | _=>True
def gV(s:Sh)(js:Nat→Nat)(hl:Nat):ah:=(F.bm,qo F.tm s)::(F.bw,qC F.tw s)::(if hl=0 then [(F.bo,F.cont js)] else [])
def qV(hl:Nat):Option Nat:=if hl=0 then some F.bo else none
def IK(K:Goroutine→Prop)(z:Prop)(g:Goroutine):Prop:=∃ g0,K g0∧g0.status = .running∧g0.offers=none∧(g=g0∨(g={ g0 with status:=.blocked }∧z))
def qJ(μ:Nat)(s:Sh)(i:Nat)(m:Ms)(x:Option Th)(mu:Bool)(d:Nat)(g:Goroutine):Ab→Prop
 | .no=>x=none∧0 < i∧∃ q,m=some (sx q)∧QuitsD F.P q d g
 | .wk k j T=>0 < i∧d=oZ T∧mu=kq T∧∃ y n,x=some y∧μ≤n ∧
   if kq T then ∃ q,m=some (sx q)∧Cl F.P (KW F n k j T y.R y.H) q g
   else (∃ Tr,m=some Tr∧Ck F.P F.B false (KW F n k j T) Tr y.R y.H g)∨(m=none∧(∃ c,T = .s1 c)∧IK (KW F n k j T y.R y.H) (s.ms=0) g)
 | .mn T=>i=0∧d=pX T∧mu=false∧∃ y n,x=some y∧μ≤n ∧
   ((∃ Tr,m=some Tr∧Ck F.P F.B true (KM F n T) Tr y.R y.H g)∨(m=none∧T = .w3∧IK (KM F n T y.R y.H) (s.ws=0) g))
structure Bk (Q:Nat) (T0:Mp) (D:Nat→Ab) (js:Nat→Nat) (s:Sh) (n:Nat):Prop where
 d0:D 0 = .mn T0
 nf:T0 ≠ .fin
 pos:0 < n
 out:∀ i,n≤i→D i = .no
 main:∀ i T,D i = .mn T→i=0
 s9:dh F.N (cnt D n) s
 aig:oU F.N T0 (cnt D n) s
 ns:∀ i k j T,D i = .wk k j T→ri F.N T∧Ex F j T∧BI js T∧js k=j∧k+rem T0 < F.N
 qm:∀ i i' k j j' T T',D i = .wk k j T→D i' = .wk k j' T'→i=i'
 done:∀ k,k+rem T0 < F.N→js k=F.J∨∃ i j T,D i = .wk k j T
 QR:∀ k,F.N≤k+rem T0→js k=0
 I4:31 * (n+rem T0) < Q
structure MI (Q:Nat) (T0:Mp) (D:Nat→Ab) (m:Nat→Ms) (js:Nat→Nat) (s:Sh) (th:Nat→Option Th) (mu:Nat→Bool) (dd:Nat→Nat) (gs:Array Goroutine) (w:World) (t:Trace):Prop where
 mem:fA F.B th (gV F s js (cnt D gs.size).hl) w
 tr:cY (some (am F)) (some (aw F)) th mu dd [F.bm,F.bw] (qV F (cnt D gs.size).hl) w.heap.size t
 yd:∀ i g,gs[i]? = some g→qJ F (MM F Q D s gs.size) s i (m i) (th i) (mu i) (dd i) g (D i)
 out:∀ i,gs.size≤i→th i=none∧mu i=false∧dd i=0
 bk:Bk F Q T0 D js s gs.size
end Go.Lg
namespace Go.Lg
open Go.Conc Go.ConcN
theorem jQ(D:Nat→Ab)(i:Nat)(x:Ab):cF D i x i=x:=by simp [cF]
theorem fG{D:Nat→Ab}{i j:Nat}{x:Ab}(h:j≠i):cF D i x j=D j:=by simp [cF,h]
theorem MW(D:Nat→Ms)(i:Nat)(x:Ms):mN D i x i=x:=by simp [mN]
theorem HT{D:Nat→Ms}{i j:Nat}{x:Ms}(h:j≠i):mN D i x j=D j:=by simp [mN,h]
theorem EP{th:Nat→Option Th}{i:Nat}{x:Option Th}(h:th i=x):gp th i x=th:=by
 funext j; unfold gp; split
 ·rename_i e; subst e; exact h.symm
 ·rfl
theorem aby{f:Nat→Nat}{i:Nat}:∀ {n:Nat},i < n→f i≤de n f
 | n+1,h=>by
  simp only [de]
  rcases Nat.lt_or_ge i n with bK | u9
  ·have:=aby (f:=f) bK; omega
  ·obtain rfl:i=n:=by omega
   omega
theorem RI{f:Nat→Nat}{b:Nat}(h:∀ i,f i≤b):∀ n,de n f≤b * n
 | 0=>by simp [de]
 | n+1=>by have:=RI h n; have:=h n; simp only [de,Nat.mul_succ]; omega
theorem wT{D:Nat→Ab}{i n:Nat}(hi:i < n)(x:Ab):(cnt D n).AD (cA (D i)) (cA x) (cnt (cF D i x) n):=by
 have key:∀ f:Cn→Nat,de n (λ j=>f (cA (cF D i x j)))+f (cA (D i))=de n (λ j=>f (cA (D j)))+f (cA x):=λ f=>by
  have:=EM (f:=λ j=>f (cA (D j))) (g:=λ j=>f (cA (cF D i x j))) hi (λ k hk=>by simp only [fG hk])
  simpa only [jQ] using this
 exact ⟨key _,key _,key _,key _,key _,key _,key _,key _,key _,key _,key _,key _,key _⟩
theorem FJ{D:Nat→Ab}{i n:Nat}(hi:i < n):(cA (D i)).Le (cnt D n):=by
 have key:∀ f:Cn→Nat,f (cA (D i))≤de n (λ j=>f (cA (D j))):=λ f=>aby (f:=λ j=>f (cA (D j))) hi
 exact ⟨key _,key _,key _,key _,key _,key _,key _,key _,key _,key _,key _,key _,key _⟩
theorem aei{D:Nat→Ab}{n:Nat}(hn:0 < n)(x:Ab)(y:Ab)(hx:cA x = .zero)(h0:cA (D 0) = .zero):(cnt D n).AD .zero (cA y) (cnt (cF (cF D n y) 0 x) (n+1)):=by
 have key:∀ f:Cn→Nat,f .zero=0→de (n+1) (λ j=>f (cA (cF (cF D n y) 0 x j)))+f .zero=de n (λ j=>f (cA (D j)))+f (cA y):=λ f hf=>by
  simp only [de]
  rw [fG (show n≠0 by omega),jQ,hf]
  have:de n (λ j=>f (cA (cF (cF D n y) 0 x j)))=de n (λ j=>f (cA (D j))):=MV λ j hj=>by
   by_cases h:j=0
   ·subst h; rw [jQ,hx,h0]
   ·rw [fG h,fG (by omega)]
  omega
 exact ⟨key _ rfl,key _ rfl,key _ rfl,key _ rfl,key _ rfl,key _ rfl,key _ rfl,key _ rfl,key _ rfl,key _ rfl,key _ rfl,key _ rfl,key _ rfl⟩
section
variable {F:Fx} {D:Nat→Ab} {s s':Sh} {n i Q:Nat} {x:Ab}
theorem aiP(s:Sh)(a:Ab):oG s a≤31:=by
 cases a
 ·exact Nat.zero_le _
 ·exact aIN _ _
 ·exact aIM _ _
theorem NF(hi:i < n)(hQ:31 * n < Q)
  (h:cP F x+3 * s'.ms+3 * s'.ws < cP F (D i)+3 * s.ms+3 * s.ws∨(cP F x+3 * s'.ms+3 * s'.ws=cP F (D i)+3 * s.ms+3 * s.ws∧s'.mu=s.mu∧s'.v=s.v∧oG s x < oG s (D i))) :
  MM F Q (cF D i x) s' n < MM F Q D s n:=by
 have h1:=EM (f:=λ j=>cP F (D j)) (g:=λ j=>cP F (cF D i x j)) hi (λ k hk=>by simp only [fG hk])
 simp only [jQ] at h1
 unfold MM
 rcases h with h | ⟨h,hm,hv,hr⟩
 ·have h2:de n (λ j=>oG s' (cF D i x j))≤31 * n:=RI (λ j=>aiP s' _) n
  generalize de n (λ j=>cP F (cF D i x j))=a' at *
  generalize de n (λ j=>cP F (D j))=a at *
  generalize de n (λ j=>oG s' (cF D i x j))=r' at *
  have h3:a'+3 * s'.ms+3 * s'.ws+1≤a+3 * s.ms+3 * s.ws:=by omega
  have h4:=Nat.mul_le_mul_right Q h3
  rw [Nat.add_mul _ 1 Q,Nat.one_mul] at h4
  omega
 ·have er:∀ a,oG s' a=oG s a:=λ a=>by cases a <;> simp [oG,hm,hv]
  have h2:=EM (f:=λ j=>oG s (D j)) (g:=λ j=>oG s (cF D i x j)) hi (λ k hk=>by simp only [fG hk])
  simp only [jQ] at h2
  have e:(λ j=>oG s' (cF D i x j))=λ j=>oG s (cF D i x j):=by funext j; exact er _
  rw [e]
  have e2:de n (λ j=>cP F (cF D i x j))+3 * s'.ms+3 * s'.ws=de n (λ j=>cP F (D j))+3 * s.ms+3 * s.ws:=by omega
  rw [e2]
  omega
theorem al7{y:Ab}(hn:0 < n)(hQ:31 * (n+1) < Q)(h:cP F x+cP F y < cP F (D 0)):MM F Q (cF (cF D n y) 0 x) s (n+1) < MM F Q D s n:=by
 have h1:=EM (f:=λ k=>cP F (D k)) (g:=λ k=>cP F (cF D 0 x k)) hn (λ k hk=>by simp only [fG hk])
 have h2:de (n+1) (λ k=>cP F (cF (cF D n y) 0 x k))=de n (λ k=>cP F (cF D 0 x k))+cP F y:=by
  simp only [de]
  rw [fG (show n≠0 by omega),jQ]
  congr 1
  exact MV λ k hk=>by
   by_cases h0:k=0
   ·subst h0; rw [jQ,jQ]
   ·rw [fG h0,fG h0,fG (by omega)]
 simp only [jQ] at h1
 have h3:de (n+1) (λ j=>oG s (cF (cF D n y) 0 x j))≤31 * (n+1):=RI (λ j=>aiP s _) _
 unfold MM
 rw [h2]
 generalize de n (λ j=>cP F (cF D 0 x j))=a' at *
 generalize de n (λ j=>cP F (D j))=a at *
 generalize de (n+1) (λ j=>oG s (cF (cF D n y) 0 x j))=r' at *
 have h4:a'+cP F y+3 * s.ms+3 * s.ws+1≤a+3 * s.ms+3 * s.ws:=by omega
 have h5:=Nat.mul_le_mul_right Q h4
 rw [Nat.add_mul _ 1 Q,Nat.one_mul] at h5
 omega
theorem al6(hi:i < n)(hQ:0 < Q)(h:0 < cP F (D i)):0 < MM F Q D s n:=by
 have:=aby (f:=λ j=>cP F (D j)) hi
 unfold MM
 have h2:0 < (de n (λ j=>cP F (D j))+3 * s.ms+3 * s.ws) * Q:=Nat.mul_pos (by omega) hQ
 omega
end
section
variable {F:Fx} {B:Base} {th:Nat→Option Th} {s s':Sh} {js:Nat→Nat} {hl:Nat} {w w':World}
theorem AK(F:Fx)(s:Sh)(js:Nat→Nat)(hl:Nat):(F.bm,qo F.tm s)∈gV F s js hl:=by simp [gV]
theorem AL(F:Fx)(s:Sh)(js:Nat→Nat)(hl:Nat):(F.bw,qC F.tw s)∈gV F s js hl:=by simp [gV]
theorem Ja(F:Fx)(s:Sh)(js:Nat→Nat)(hl:Nat):∀ b,b∈[F.bm,F.bw]→∃ o,(b,o)∈gV F s js hl:=λ b hb=>by
 simp only [fa,List.not_mem_nil,or_false] at hb
 rcases hb with rfl | rfl
 ·exact ⟨_,AK F s js hl⟩
 ·exact ⟨_,AL F s js hl⟩
theorem I9(F:Fx)(s:Sh)(js:Nat→Nat)(hl:Nat):∀ b,qV F hl=some b→(∃ o,(b,o)∈gV F s js hl)∧b ∉ [F.bm,F.bw]:=λ b hb=>by
 unfold qV at hb
 split at hb
 ·cases hb
  rename_i h
  refine ⟨⟨F.cont js,by simp [gV,h]⟩,?_⟩
  have:=F.ho
  simp only [fa,List.not_mem_nil,or_false,not_or]
  exact ⟨λ e=>this.2.1 e.symm,λ e=>this.2.2 e.symm⟩
 ·cases hb
theorem Er{b:Nat}{o:Obj}(h:(b,o)∈gV F s js hl):(b=F.bm∧o=qo F.tm s)∨(b=F.bw∧o=qC F.tw s)∨(b=F.bo∧o=F.cont js∧hl=0):=by
 unfold gV at h
 simp only [fa,Prod.mk.injEq] at h
 rcases h with h | h | h
 ·exact .inl h
 ·exact .inr (.inl h)
 ·split at h
  ·simp only [fa,Prod.mk.injEq,List.not_mem_nil,or_false] at h
   exact .inr (.inr ⟨h.1,h.2,‹_›⟩)
  ·cases h
theorem Tp(h:fA B th (gV F s js hl) w):fD F s w:=⟨h.om _ _ (AK F s js hl),h.om _ _ (AL F s js hl)⟩
theorem fA.put(h:fA F.B th (gV F s js hl) w)(hp:cB F s' w w'):fA F.B th (gV F s' js hl) w':=by
 have ne:∀ b,(∃ j x,th j=some x∧((∃ o,x.R b=some o)∨∃ o,(b,o)∈x.H))→w'.heap[b]? = w.heap[b]? := by
  rintro b ⟨j,x,hx,hb⟩
  have h1:=h.mr _ _ (AK F s js hl) j x hx
  have h2:=h.mr _ _ (AL F s js hl) j x hx
  refine hp.same b (λ e=>?_) (λ e=>?_) <;> subst e
  ·rcases hb with ⟨o,ho⟩ | ⟨o,ho⟩
   ·exact nn h1.1 ho
   ·exact h1.2 o ho
  ·rcases hb with ⟨o,ho⟩ | ⟨o,ho⟩
   ·exact nn h2.1 ho
   ·exact h2.2 o ho
 refine ⟨λ j x hx=>?_,h.apart,λ b o hb=>?_,λ b o hb j x hx=>?_⟩
 ·have hf:=h.fits j x hx
  exact ⟨λ b o hb=>by rw [ne b ⟨j,x,hx,.inl ⟨o,hb⟩⟩]; exact hf.r b o hb,λ b o hb=>by rw [ne b ⟨j,x,hx,.inr ⟨o,hb⟩⟩]; exact hf.h b o hb,hf.nd,hf.dj,hp.os hf.os,hp.tape.trans hf.tape,hp.out.trans hf.out⟩
 ·rcases Er hb with ⟨rfl,rfl⟩ | ⟨rfl,rfl⟩ | ⟨rfl,rfl,hz⟩
  ·exact hp.sh.m
  ·exact hp.sh.g
  ·rw [hp.same _ (λ e=>F.ho.2.1 e.symm) (λ e=>F.ho.2.2 e.symm)]
   exact h.om _ _ (by simp [gV,hz])
 ·rcases Er hb with ⟨rfl,rfl⟩ | ⟨rfl,rfl⟩ | ⟨rfl,rfl,hz⟩
  ·exact h.mr _ _ (AK F s js hl) j x hx
  ·exact h.mr _ _ (AL F s js hl) j x hx
  ·exact h.mr F.bo (F.cont js) (by simp [gV,hz]) j x hx
theorem fA.take{i hl':Nat}{R:az}{H:ah}(h:fA B th (gV F s js 0) w)(hi:th i=some ⟨R,H⟩)(hz:hl'≠0):fA B (gp th i (some ⟨R,(F.bo,F.cont js)::H⟩)) (gV F s js hl') w:=by
 have C6:(F.bo,F.cont js)∈gV F s js 0:=by simp [gV]
 have hf:=h.fits i _ hi
 have lh:=h.mr _ _ C6
 have sub:∀ {b o},(b,o)∈gV F s js hl'→(b,o)∈gV F s js 0∧b≠F.bo:=λ {b o} hb=>by
  rcases Er hb with ⟨rfl,rfl⟩ | ⟨rfl,rfl⟩ | ⟨rfl,rfl,hx⟩
  ·exact ⟨AK F s js 0,F.ho.2.1⟩
  ·exact ⟨AL F s js 0,F.ho.2.2⟩
  ·exact absurd hx hz
 refine ⟨λ j x hx=>?_,λ j k x y nW hx hy b o hb=>?_,λ b o hb=>h.om b o (sub hb).1,λ b o hb j x hx=>?_⟩
 ·by_cases hj:j=i
  ·subst hj; rw [fv] at hx; cases hx
   refine ⟨hf.r,λ b o hb=>?_,?_,λ b o hb=>?_,hf.os,hf.tape,hf.out⟩
   ·rcases fa.1 hb with e | hb
    ·cases e; exact h.om _ _ C6
    ·exact hf.h b o hb
   ·rw [List.map_cons,List.nodup_cons]
    refine ⟨λ hm=>?_,hf.nd⟩
    obtain ⟨p,hp,he⟩:=List.mem_map.1 hm
    obtain ⟨b,o⟩:=p
    simp only at he
    subst he
    exact (lh j _ hi).2 o hp
   ·rcases fa.1 hb with e | hb
    ·cases e; exact (lh j _ hi).1
    ·exact hf.dj b o hb
  ·rw [eC hj] at hx; exact h.fits j x hx
 ·by_cases hj:j=i
  ·subst hj; rw [fv] at hx; cases hx
   rw [eC (Ne.symm nW)] at hy
   rcases fa.1 hb with e | hb
   ·cases e; exact lh k y hy
   ·exact h.apart j k _ _ nW hi hy b o hb
  ·rw [eC hj] at hx
   by_cases hk:k=i
   ·subst hk; rw [fv] at hy; cases hy
    have:=h.apart j k _ _ nW hx hi b o hb
    refine ⟨this.1,λ o' eX=>?_⟩
    rcases fa.1 eX with e | eX
    ·cases e; exact (lh j x hx).2 o hb
    ·exact this.2 o' eX
   ·rw [eC hk] at hy; exact h.apart j k x y nW hx hy b o hb
 ·by_cases hj:j=i
  ·subst hj; rw [fv] at hx; cases hx
   have:=h.mr b o (sub hb).1 j _ hi
   refine ⟨this.1,λ o' eX=>?_⟩
   rcases fa.1 eX with e | eX
   ·cases e; exact (sub hb).2 rfl
   ·exact this.2 o' eX
  ·rw [eC hj] at hx; exact h.mr b o (sub hb).1 j x hx
theorem fA.asd{i:Nat}{R:az}{H:ah}{iX:Nat→Nat}(h:fA B th (gV F s js hl) w)(_:hl≠0)(hi:th i=some ⟨R,(F.bo,F.cont iX)::H⟩):fA B (gp th i (some ⟨R,H⟩)) (gV F s iX 0) w:=by
 have hf:=h.fits i _ hi
 have di:=hf.nd
 rw [List.map_cons,List.nodup_cons] at di
 have Db:∀ o,(F.bo,o) ∉ H:=λ o ho=>di.1 (List.mem_map.2 ⟨_,ho,rfl⟩)
 have key:∀ j x,gp th i (some ⟨R,H⟩) j=some x→∃ y,th j=some y∧x.R=y.R∧(∀ p,p∈x.H→p∈y.H):=λ j x hx=>by
  by_cases hj:j=i
  ·subst hj; rw [fv] at hx; cases hx
   exact ⟨_,hi,rfl,λ p hp=>List.mem_cons_of_mem _ hp⟩
  ·rw [eC hj] at hx; exact ⟨x,hx,rfl,λ p hp=>hp⟩
 refine ⟨λ j x hx=>?_,λ j k x y nW hx hy b o hb=>?_,λ b o hb=>?_,λ b o hb j x hx=>?_⟩
 ·by_cases hj:j=i
  ·subst hj; rw [fv] at hx; cases hx
   exact ⟨hf.r,λ b o hb=>hf.h b o (List.mem_cons_of_mem _ hb),di.2,λ b o hb=>hf.dj b o (List.mem_cons_of_mem _ hb),hf.os,hf.tape,hf.out⟩
  ·rw [eC hj] at hx; exact h.fits j x hx
 ·obtain ⟨x',Bo,e1,e2⟩:=key j x hx
  obtain ⟨y',tB,e3,e4⟩:=key k y hy
  have:=h.apart j k x' y' nW Bo tB b o (e2 _ hb)
  exact ⟨by rw [e3]; exact this.1,λ o' eX=>this.2 o' (e4 _ eX)⟩
 ·rcases Er hb with ⟨rfl,rfl⟩ | ⟨rfl,rfl⟩ | ⟨rfl,rfl,_⟩
  ·exact h.om _ _ (AK F s js hl)
  ·exact h.om _ _ (AL F s js hl)
  ·exact hf.h _ _ (by simp)
 ·obtain ⟨x',Bo,e1,e2⟩:=key j x hx
  rcases Er hb with ⟨rfl,rfl⟩ | ⟨rfl,rfl⟩ | ⟨rfl,rfl,_⟩
  ·have:=h.mr _ _ (AK F s js hl) j x' Bo
   exact ⟨by rw [e1]; exact this.1,λ o' eX=>this.2 o' (e2 _ eX)⟩
  ·have:=h.mr _ _ (AL F s js hl) j x' Bo
   exact ⟨by rw [e1]; exact this.1,λ o' eX=>this.2 o' (e2 _ eX)⟩
  ·by_cases hj:j=i
   ·subst hj; rw [fv] at hx; cases hx
    exact ⟨hf.dj F.bo (F.cont iX) (by simp),Db⟩
   ·rw [eC hj] at hx
    have:=h.apart i j _ _ (Ne.symm hj) hi hx F.bo (F.cont iX) (by simp)
    exact this
end
theorem QW{F:Fx}{j:Nat}(c:Lc):Ex F j (hd c)↔j < F.J:=by unfold hd; split <;> exact Iff.rfl
theorem aG7{F:Fx}{j:Nat}(c:Lc):Ex F j (jC c)↔j < F.J:=by unfold jC; split <;> exact Iff.rfl
theorem ah6{F:Fx}{j:Nat}(m:Wd):Ex F j (hu m)↔j≤F.J:=by unfold hu; split <;> exact Iff.rfl
section
variable {F:Fx} {Q:Nat} {T0 jh:Mp} {D:Nat→Ab} {js:Nat→Nat} {s s':Sh} {n i k j:Nat} {T T':Lp}
theorem aG8(h:Ex F j T)(dy:dp T s T' s')(Bn:zP F j T T')(hu:gY T=false)(hq:T' ≠ .quit):Ex F j T':=by
 cases dy
 case ur=>cases hu
 case r0=>exact (QW _).2 h
 case r1=>exact (QW _).2 h
 case r3=>exact (QW _).2 h
 case zB=>exact (QW _).2 h
 case zM=>exact (aG7 _).2 h
 case yA c _ _=>cases c.ws <;> exact h
 case s1 c _ _=>cases c.sv <;> exact h
 case zO=>exact (ah6 _).2 h
 case ux=>exact (ah6 _).2 h
 case RK=>exact Bn
 case RL=>exact Bn
 case Jg=>exact absurd rfl hq
 case d4=>exact absurd rfl hq
 all_goals exact h
theorem QV{js:Nat→Nat}(c:Lc):BI js (hd c):=by unfold hd; split <;> trivial
theorem aG6{js:Nat→Nat}(c:Lc):BI js (jC c):=by unfold jC; split <;> trivial
theorem ah5{js:Nat→Nat}(m:Wd):BI js (hu m):=by unfold hu; split <;> trivial
theorem Bk.MG(h:Bk F Q T0 D js s n):31 * n < Q:=by have:=h.I4; omega
theorem aJC{J:Nat}{T:Mp}(h:T ≠ .fin):0 < stM J T:=by cases T <;> simp only [stM] <;> first | omega | exact absurd rfl h
theorem Bk.tM(h:Bk F Q T0 D js s n):0 < MM F Q D s n:=al6 h.pos (by have:=h.MG; omega) (by rw [h.d0]; exact aJC h.nf)
theorem Bk.uh(h:Bk F Q T0 D js s n)(hd:D i = .wk k j T)(hi:i < n)(dy:dp T s T' s'){x:Ab}{iX:Nat→Nat}(hx:cA x=cW T')(hxm:∀ T,x ≠ .mn T)(hxw:∀ k' j' T1,x = .wk k' j' T1→k'=k∧T1=T'∧iX k=j'∧Ex F j' T1)
  (iH:∀ k',k'≠k→iX k'=js k') (gQ:∀ i' k' j' T1,i'≠i→D i' = .wk k' j' T1→BI iX T1) (awv:BI iX T') (auo:iX k=F.J∨∃ j',x = .wk k j' T'):Bk F Q T0 (cF D i x) iX s' n:=by
 have h0:i≠0:=λ e=>by subst e; rw [h.d0] at hd; cases hd
 obtain ⟨ot,oj,oh,ok,on⟩:=h.ns i k j T hd
 have hle:=FJ (D:=D) hi
 have xk:=wT (D:=D) hi x
 rw [hd] at hle xk
 rw [hx] at xk
 obtain ⟨ha,hT'⟩:=h.s9.step ot hle dy xk
 have hg:=h.aig.step hle dy xk
 refine ⟨by rw [fG (Ne.symm h0)]; exact h.d0,h.nf,h.pos,λ i' qb=>by rw [fG (by omega)]; exact h.out i' qb,λ i' T hT=>?_,ha,hg,λ i' k' j' T1 hT=>?_,λ i1 i2 k' j1 j2 T1 T2 h1 h2=>?_,λ k' dI=>?_,λ k' dI=>?_,h.I4⟩
 ·by_cases e:i'=i
  ·subst e; rw [jQ] at hT; exact absurd hT (hxm T)
  ·rw [fG e] at hT; exact h.main i' T hT
 ·by_cases e:i'=i
  ·subst e; rw [jQ] at hT
   obtain ⟨rfl,rfl,h3,h4⟩:=hxw k' j' T1 hT
   exact ⟨hT',h4,awv,h3,on⟩
  ·rw [fG e] at hT
   obtain ⟨a1,a2,a3,a4,a5⟩:=h.ns i' k' j' T1 hT
   have hkk:k'≠k:=λ e'=>by subst e'; exact e (h.qm i' i k' j' j T1 T hT hd)
   exact ⟨a1,a2,gQ i' k' j' T1 e hT,by rw [iH k' hkk]; exact a4,a5⟩
 ·have key:∀ i1 j1 T1,cF D i x i1 = .wk k' j1 T1→∃ j' T',D i1 = .wk k' j' T':=λ i1 j1 T1 h1=>by
   by_cases e:i1=i
   ·subst e; rw [jQ] at h1
    obtain ⟨rfl,_⟩:=hxw k' j1 T1 h1
    exact ⟨_,_,hd⟩
   ·rw [fG e] at h1; exact ⟨_,_,h1⟩
  obtain ⟨_,_,e1⟩:=key i1 j1 T1 h1
  obtain ⟨_,_,e2⟩:=key i2 j2 T2 h2
  exact h.qm _ _ _ _ _ _ _ e1 e2
 ·by_cases e:k'=k
  ·subst e
   rcases auo with hz | ⟨j',hz⟩
   ·exact .inl hz
   ·exact .inr ⟨i,j',T',by rw [jQ]; exact hz⟩
  ·rcases h.done k' dI with hz | ⟨i',j',T1,hz⟩
   ·exact .inl (by rw [iH k' e]; exact hz)
   ·refine .inr ⟨i',j',T1,?_⟩
    rw [fG (λ e'=>by subst e'; rw [hd] at hz; cases hz; exact e rfl)]; exact hz
 ·have e:k'≠k:=λ e=>by subst e; omega
  rw [iH k' e]; exact h.QR k' dI
theorem Bk.work(h:Bk F Q T0 D js s n)(hd:D i = .wk k j T)(hi:i < n)(dy:dp T s T' s')(Bn:zP F j T T')(YJ:BI js T')(hu:gY T=false)(hq:T' ≠ .quit) :
  Bk F Q T0 (cF D i (.wk k j T')) js s' n∧MM F Q (cF D i (.wk k j T')) s' n < MM F Q D s n:=by
 obtain ⟨ot,oj,oh,ok,on⟩:=h.ns i k j T hd
 refine ⟨h.uh hd hi dy rfl (λ T=>by simp) (λ k' j' T1 e=>?_) (λ _ _=>rfl) (λ i' k' j' T1 _ e=>(h.ns i' k' j' T1 e).2.2.1) YJ (.inr ⟨j,rfl⟩),NF hi h.MG ?_⟩
 ·cases e; exact ⟨rfl,rfl,ok,aG8 oj dy Bn hu hq⟩
 ·rw [hd]
  have:=dy.OL ot
  simp only [hu,nF,if_false] at this
  simp only [cP,oG]
  rcases this with z | ⟨z1,_,z2,z3,z4⟩
  ·left; omega
  ·right; exact ⟨by omega,z2,z3,z4⟩
theorem Bk.ur(h:Bk F Q T0 D js s n)(hd:D i = .wk k j (.ur js))(hi:i < n) :
  Bk F Q T0 (cF D i (.wk k (j+1) .ud)) (gG js k (j+1)) s n∧MM F Q (cF D i (.wk k (j+1) .ud)) s n < MM F Q D s n:=by
 obtain ⟨ot,oj,oh,ok,on⟩:=h.ns i k j _ hd
 have oj':j < F.J:=oj
 refine ⟨h.uh hd hi .ur rfl (λ T=>by simp) (λ k' j' T1 e=>?_) (λ k' dI=>ui dI) (λ i' k' j' T1 eP e=>?_) trivial (.inr ⟨_,rfl⟩),NF hi h.MG ?_⟩
 ·cases e; exact ⟨rfl,rfl,uj _ _ _,oj'⟩
 ·
  have hb:=h.s9
  have h1:=hb.ow
  have h2:=hb.l1
  have a1:(cA (D i)).hl=1:=by rw [hd]; rfl
  cases T1 with
  | ul z =>
   have a2:(cA (D i')).hl=1:=by rw [e]; rfl
   have:2≤(cnt D n).hl:=by
    have qb:i' < n:=by
     apply Classical.byContradiction
     intro hn
     rw [h.out i' (by omega)] at e; cases e
    have t1:=(wT (D:=D) hi .no).hl
    have t2:=(FJ (D:=cF D i .no) qb).hl
    rw [fG eP,a2] at t2
    rw [a1] at t1
    simp only [cA,Cn.zero] at t1
    omega
   omega
  | uv z =>
   have a2:(cA (D i')).hl=1:=by rw [e]; rfl
   have:2≤(cnt D n).hl:=by
    have qb:i' < n:=by
     apply Classical.byContradiction
     intro hn
     rw [h.out i' (by omega)] at e; cases e
    have t1:=(wT (D:=D) hi .no).hl
    have t2:=(FJ (D:=cF D i .no) qb).hl
    rw [fG eP,a2] at t2
    rw [a1] at t1
    simp only [cA,Cn.zero] at t1
    omega
   omega
  | ur z =>
   have a2:(cA (D i')).hl=1:=by rw [e]; rfl
   have:2≤(cnt D n).hl:=by
    have qb:i' < n:=by
     apply Classical.byContradiction
     intro hn
     rw [h.out i' (by omega)] at e; cases e
    have t1:=(wT (D:=D) hi .no).hl
    have t2:=(FJ (D:=cF D i .no) qb).hl
    rw [fG eP,a2] at t2
    rw [a1] at t1
    simp only [cA,Cn.zero] at t1
    omega
   omega
  | _=>trivial
 ·rw [hd]
  left
  simp only [cP,iO]
  have:F.J - j=(F.J - (j+1))+1:=by omega
  omega
theorem Bk.quit(h:Bk F Q T0 D js s n)(hd:D i = .wk k j T)(hi:i < n)(dy:dp T s .quit s')(hj:j=F.J)(hu:gY T=false) :
  Bk F Q T0 (cF D i .no) js s' n∧MM F Q (cF D i .no) s' n < MM F Q D s n:=by
 obtain ⟨ot,oj,oh,ok,on⟩:=h.ns i k j T hd
 refine ⟨h.uh hd hi dy rfl (λ T=>by simp) (λ k' j' T1 e=>by cases e) (λ _ _=>rfl) (λ i' k' j' T1 _ e=>(h.ns i' k' j' T1 e).2.2.1) trivial (.inl (ok.trans hj)),NF hi h.MG ?_⟩
 rw [hd]
 have:=dy.OL ot
 simp only [hu,nF,if_false] at this
 simp only [cP,oG]
 rcases this with z | ⟨z1,_,z2,z3,z4⟩
 ·left; omega
 ·right; have z5:iO Lp.quit=0:=rfl; subst hj; exact ⟨by omega,z2,z3,z4⟩
theorem aIw(dy:gO T0 s jh s')(h:jh ≠ .fin):rem jh=rem T0:=by cases dy <;> rfl
theorem Bk.aGG(h:Bk F Q T0 D js s n)(dy:gO T0 s jh s')(hf:jh ≠ .fin):Bk F Q jh (cF D 0 (.mn jh)) js s' n∧MM F Q (cF D 0 (.mn jh)) s' n < MM F Q D s n:=by
 have hr:=aIw dy hf
 have xk:=wT (D:=D) h.pos (.mn jh)
 rw [h.d0] at xk
 have ec:cnt (cF D 0 (.mn jh)) n=cnt D n:=by
  obtain ⟨g1,g2,g3,g4,g5,g6,g7,g8,g9,c7,cO,cQ,cR⟩:=xk
  simp only [cA,Cn.zero,Nat.add_zero] at *
  generalize cnt (cF D 0 (.mn jh)) n=c' at *
  generalize cnt D n=c at *
  cases c; cases c'; simp only [Cn.mk.injEq] at *
  exact ⟨g1,g2,g3,g4,g5,g6,g7,g8,g9,c7,cO,cQ,cR⟩
 have key:∀ i' k' j' T1,cF D 0 (.mn jh) i' = .wk k' j' T1→D i' = .wk k' j' T1:=λ i' k' j' T1 e=>by
  by_cases e0:i'=0
  ·subst e0; rw [jQ] at e; cases e
  ·rwa [fG e0] at e
 refine ⟨⟨jQ _ _ _,hf,h.pos,λ i' qb=>by rw [fG (by have:=h.pos; omega)]; exact h.out i' qb,λ i' T hT=>?_,by rw [ec]; exact h.s9.main dy,by rw [ec]; exact h.aig.main dy,λ i' k' j' T1 e=>by rw [hr]; exact h.ns i' k' j' T1 (key _ _ _ _ e),
  λ i1 i2 k' j1 j2 T1 T2 h1 h2=>h.qm _ _ _ _ _ _ _ (key _ _ _ _ h1) (key _ _ _ _ h2),λ k' dI=>?_,λ k' dI=>h.QR k' (by rw [← hr]; exact dI),by rw [hr]; exact h.I4⟩,NF h.pos h.MG ?_⟩
 ·by_cases e0:i'=0
  ·exact e0
  ·rw [fG e0] at hT; exact h.main i' T hT
 ·rcases h.done k' (by rw [← hr]; exact dI) with z | ⟨i',j',T1,z⟩
  ·exact .inl z
  ·exact .inr ⟨i',j',T1,by rw [fG (λ e=>by subst e; rw [h.d0] at z; cases z)]; exact z⟩
 ·rw [h.d0]; exact dy.OL
theorem Rr(r:Nat):rem (kO r)=r:=by cases r <;> rfl
theorem aG3(r:Nat):kO r ≠ .fin:=by cases r <;> simp [kO]
theorem Bk.spawn{r:Nat}(h:Bk F Q (.go r) D js s n):Bk F Q (kO r) (cF (cF D n (.wk (F.N - (r+1)) 0 .ld)) 0 (.mn (kO r))) js s (n+1)∧MM F Q (cF (cF D n (.wk (F.N - (r+1)) 0 .ld)) 0 (.mn (kO r))) s (n+1) < MM F Q D s n:=by
 have xk:=aei (D:=D) h.pos (.mn (kO r)) (.wk (F.N - (r+1)) 0 .ld) rfl (by rw [h.d0]; rfl)
 have jv:=h.pos
 have hle:=h.aig.le
 simp only [rem] at hle
 have hrN:r+1≤F.N:=by omega
 have key:∀ i' k' j' T1,cF (cF D n (.wk (F.N - (r+1)) 0 .ld)) 0 (.mn (kO r)) i' = .wk k' j' T1→(i'=n∧k'=F.N - (r+1)∧j'=0∧T1 = .ld)∨D i' = .wk k' j' T1:=λ i' k' j' T1 e=>by
  by_cases e0:i'=0
  ·subst e0; rw [jQ] at e; cases e
  ·rw [fG e0] at e
   by_cases en:i'=n
   ·subst en; rw [jQ] at e; cases e; exact .inl ⟨rfl,rfl,rfl,rfl⟩
   ·rw [fG en] at e; exact .inr e
 refine ⟨⟨jQ _ _ _,aG3 r,by omega,λ i' qb=>by rw [fG (by omega),fG (by omega)]; exact h.out i' (by omega),λ i' T hT=>?_,h.s9.spawn h.aig xk,h.aig.spawn xk,λ i' k' j' T1 e=>?_,λ i1 i2 k' j1 j2 T1 T2 h1 h2=>?_,λ k' dI=>?_,λ k' dI=>?_,?_⟩,al7 jv ?_ ?_⟩
 ·by_cases e0:i'=0
  ·exact e0
  ·rw [fG e0] at hT
   by_cases en:i'=n
   ·subst en; rw [jQ] at hT; cases hT
   ·rw [fG en] at hT; exact h.main i' T hT
 ·rw [Rr]
  rcases key i' k' j' T1 e with ⟨rfl,rfl,rfl,rfl⟩ | z
  ·exact ⟨trivial,F.hJ,trivial,h.QR _ (by simp only [rem]; omega),by omega⟩
  ·obtain ⟨a1,a2,a3,a4,a5⟩:=h.ns i' k' j' T1 z
   simp only [rem] at a5
   exact ⟨a1,a2,a3,a4,by omega⟩
 ·rcases key i1 k' j1 T1 h1 with ⟨q1,e1,_,_⟩ | z1 <;> rcases key i2 k' j2 T2 h2 with ⟨q2,e2,_,_⟩ | z2
  ·exact q1.trans q2.symm
  ·have:=(h.ns i2 _ j2 T2 z2).2.2.2.2; simp only [rem] at this; omega
  ·have:=(h.ns i1 _ j1 T1 z1).2.2.2.2; simp only [rem] at this; omega
  ·exact h.qm _ _ _ _ _ _ _ z1 z2
 ·rw [Rr] at dI
  by_cases e:k'+(r+1) < F.N
  ·rcases h.done k' e with z | ⟨i',j',T1,z⟩
   ·exact .inl z
   ·refine .inr ⟨i',j',T1,?_⟩
    rw [fG (λ e=>by rw [e,h.d0] at z; cases z),fG (λ e=>by rw [e,h.out n (eR _)] at z; cases z)]; exact z
  ·exact .inr ⟨n,0,.ld,by rw [fG (by omega),jQ]; congr 1; omega⟩
 ·rw [Rr] at dI; exact h.QR k' (by simp only [rem]; omega)
 ·rw [Rr]; have:=h.I4; simp only [rem] at this; omega
 ·have:=h.I4; simp only [rem] at this; omega
 ·rw [h.d0]
  have:=aJm F.J r
  simp only [cP]
  omega
end
theorem Ck.EO{P:Program}{B:Base}{main:Bool}{K:az→ah→Goroutine→Prop}{T:Tree}{R:az}{H:ah}{g:Goroutine}(h:Ck P B main K T R H g)(hs:∀ R H g,K R H g→g.status = .running):g.status = .running:=by
 induction T generalizing R H g with
 | node ι f ih =>
  rcases h with h | ⟨h,_⟩ | ⟨R',H',i,_,h⟩
  ·exact hs _ _ _ h
  ·exact h
  ·exact ih i h
theorem DZ{gs:Array Goroutine}{i:Nat}{g:Goroutine}(h:gs[i]? = some g):i < gs.size:=(Array.getElem?_eq_some_iff.1 h).1
theorem IK.woken{P:Program}{K:Goroutine→Prop}{z z':Prop}{a a' x:Goroutine}{w:World}(h:IK K z x)(hz:(mayWake P a=true∧a'.status ≠ .blocked∧a'.status ≠ .waiting)∨(z→z')):IK K z' (woken P a a' w x):=by
 obtain ⟨g0,hK,hr,ho,hg⟩:=h
 refine ⟨g0,hK,hr,ho,?_⟩
 rcases hg with rfl | ⟨rfl,ZX⟩
 ·left
  unfold Conc.woken
  split
  ·exact again_running _ (.inl hr)
  ·rfl
 ·rcases hz with ⟨h1,h2,h3⟩ | hz
  ·left
   unfold Conc.woken
   rw [if_pos (by simp [h1,h2,h3])]
   obtain ⟨f,c,st,d,o⟩:=g0
   simp only at hr ho
   subst hr ho
   rfl
  ·unfold Conc.woken
   split
   ·left
    obtain ⟨f,c,st,d,o⟩:=g0
    simp only at hr ho
    subst hr ho
    rfl
   ·right; exact ⟨rfl,hz ZX⟩
theorem Cl.run{P:Program}{K:Goroutine→Prop}(hK:∀ g,K g→g.status = .running):∀ {q:Nat} {g:Goroutine},Cl P K q g→g.status = .running
 | 0,_,h=>hK _ h
 | _+1,_,h=>h.elim (hK _) (·.1)
section
variable {F:Fx} {Q:Nat} {T0:Mp} {D:Nat→Ab} {m:Nat→Ms} {js:Nat→Nat} {s s':Sh} {th:Nat→Option Th} {mu:Nat→Bool} {dd:Nat→Nat} {gs:Array Goroutine} {w:World} {t:Trace} {sl:Option (Nat × Nat)} {i:Nat} {g:Goroutine}
theorem KW.run{n k j:Nat}{T:Lp}{R:az}{H:ah}(h:KW F n k j T R H g)(hn:0 < n)(ho:ri F.N T):g.status = .running∧g.offers=none:=by
 cases n with
 | zero=>omega
 | succ n=>have:=h ho; exact ⟨this.1,this.2.1⟩
theorem KM.run{n:Nat}{T:Mp}{R:az}{H:ah}(h:KM F n T R H g)(hn:0 < n):g.status = .running∧g.offers=none:=by
 cases n with
 | zero=>omega
 | succ n=>exact ⟨h.1,h.2.1⟩
theorem qJ.look{μ:Nat}{mm:Ms}{x:Option Th}{b:Bool}{d:Nat}{A:Ab}(h:qJ F μ s i mm x b d g A)(ZY:0 < μ)(hT:∀ k j T,A = .wk k j T→ri F.N T) :
  (g.status = .running)∨(g.status = .finished∧A = .no)∨(g.status = .blocked∧mm=none∧((∃ k j c,A = .wk k j (.s1 c)∧s.ms=0)∨(A = .mn .w3∧s.ws=0))):=by
 cases A with
 | no =>
  obtain ⟨_,_,q,_,hq⟩:=h
  rcases hq.status with x | x
  ·exact .inl x
  ·exact .inr (.inl ⟨x,rfl⟩)
 | wk k j T =>
  obtain ⟨_,_,_,y,n,_,hn,h⟩:=h
  have ho:=hT k j T rfl
  split at h
  ·obtain ⟨q,_,hq⟩:=h
   exact .inl (hq.run λ g hg=>(hg.run (by omega) ho).1)
  ·rcases h with ⟨Tr,_,h⟩ | ⟨rfl,⟨c,rfl⟩,g0,hK,hr,_,hg⟩
   ·exact .inl (h.EO λ R H g hg=>(KW.run hg (by omega) ho).1)
   ·rcases hg with rfl | ⟨rfl,hz⟩
    ·exact .inl hr
    ·exact .inr (.inr ⟨rfl,rfl,.inl ⟨k,j,c,rfl,hz⟩⟩)
 | mn T =>
  obtain ⟨_,_,_,y,n,_,hn,h⟩:=h
  rcases h with ⟨Tr,_,h⟩ | ⟨rfl,rfl,g0,hK,hr,_,hg⟩
  ·exact .inl (h.EO λ R H g hg=>(KM.run hg (by omega)).1)
  ·rcases hg with rfl | ⟨rfl,hz⟩
   ·exact .inl hr
   ·exact .inr (.inr ⟨rfl,rfl,.inr ⟨rfl,hz⟩⟩)
theorem qJ.woken{μ Np:Nat}{mm:Ms}{x:Option Th}{b:Bool}{d:Nat}{A:Ab}{a a':Goroutine}{w':World}(h:qJ F μ s i mm x b d g A)(ZY:0 < μ)(hT:∀ k j T,A = .wk k j T→ri F.N T)(hle:Np≤μ)
  (hz:(mayWake F.P a=true∧a'.status ≠ .blocked∧a'.status ≠ .waiting)∨(s'.ms≤s.ms∧s'.ws≤s.ws)):qJ F Np s' i mm x b d (Conc.woken F.P a a' w' g) A:=by
 have run:g.status = .running→Conc.woken F.P a a' w' g=g:=λ hr=>by
  unfold Conc.woken
  split
  ·exact again_running _ (.inl hr)
  ·rfl
 cases A with
 | no =>
  obtain ⟨h1,h2,q,h3,hq⟩:=h
  exact ⟨h1,h2,q,h3,by rw [woken_quitsD hq]; exact hq⟩
 | wk k j T =>
  obtain ⟨h1,h2,h3,y,n,h4,hn,h⟩:=h
  have ho:=hT k j T rfl
  refine ⟨h1,h2,h3,y,n,h4,by omega,?_⟩
  split
  ·rename_i hm
   rw [if_pos hm] at h
   obtain ⟨q,h5,hq⟩:=h
   exact ⟨q,h5,by rw [run (hq.run λ g hg=>(hg.run (by omega) ho).1)]; exact hq⟩
  ·rename_i hm
   rw [if_neg hm] at h
   rcases h with ⟨Tr,h5,h⟩ | ⟨h5,h6,hS⟩
   ·exact .inl ⟨Tr,h5,by rw [run (h.EO λ R H g hg=>(KW.run hg (by omega) ho).1)]; exact h⟩
   ·exact .inr ⟨h5,h6,hS.woken (hz.imp id λ z h0=>by omega)⟩
 | mn T =>
  obtain ⟨h1,h2,h3,y,n,h4,hn,h⟩:=h
  refine ⟨h1,h2,h3,y,n,h4,by omega,?_⟩
  rcases h with ⟨Tr,h5,h⟩ | ⟨h5,h6,hS⟩
  ·exact .inl ⟨Tr,h5,by rw [run (h.EO λ R H g hg=>(KM.run hg (by omega)).1)]; exact h⟩
  ·exact .inr ⟨h5,h6,hS.woken (hz.imp id λ z h0=>by omega)⟩
theorem MI.at(h:MI F Q T0 D m js s th mu dd gs w t)(d:Nat):MI F Q T0 D m js s th mu dd gs (w.at d) t:=⟨h.mem.at d,h.tr,h.yd,h.out,h.bk⟩
theorem MI.ns(h:MI F Q T0 D m js s th mu dd gs w t)(i:Nat):∀ k j T,D i = .wk k j T→ri F.N T:=λ k j T hd=>(h.bk.ns i k j T hd).1
theorem MI.uh(h:MI F Q T0 D m js s th mu dd gs w t)(hi:gs[i]? = some g){x:Ab}{m':Ms}{jh:Mp}{iX:Nat→Nat}{jO:Nat→Option Th}{mu':Nat→Bool}{dd':Nat→Nat}{g':Goroutine}{w':World}{t':Trace}
  (hz:(mayWake F.P g=true∧g'.status ≠ .blocked∧g'.status ≠ .waiting)∨(s'.ms≤s.ms∧s'.ws≤s.ws))
  (hM:MM F Q (cF D i x) s' gs.size≤MM F Q D s gs.size) (hm:fA F.B jO (gV F s' iX (cnt (cF D i x) gs.size).hl) w') (ht:cY (some (am F)) (some (aw F)) jO mu' dd' [F.bm,F.bw] (qV F (cnt (cF D i x) gs.size).hl) w'.heap.size t')
  (hs:qJ F (MM F Q (cF D i x) s' gs.size) s' i m' (jO i) (mu' i) (dd' i) g' x) (ho:∀ j,j≠i→jO j=th j∧mu' j=mu j∧dd' j=dd j) (hb:Bk F Q jh (cF D i x) iX s' gs.size) :
  MI F Q jh (cF D i x) (mN m i m') iX s' jO mu' dd' ((gs.map (Conc.woken F.P g g' w')).setIfInBounds i g') w' t':=by
 have bK:=DZ hi
 have fX:((gs.map (Conc.woken F.P g g' w')).setIfInBounds i g').size=gs.size:=by simp
 refine ⟨by rw [fX]; exact hm,by rw [fX]; exact ht,λ j y hj=>?_,λ j hj=>?_,by rw [fX]; exact hb⟩
 ·rw [fX]
  by_cases gw:j=i
  ·subst gw
   rw [uE (by simpa using bK)] at hj; cases hj
   rw [jQ,MW]; exact hs
  ·rw [mW (Ne.symm gw),Array.getElem?_map] at hj
   obtain ⟨z,ZX,rfl⟩:=Option.map_eq_some_iff.1 hj
   obtain ⟨e1,e2,e3⟩:=ho j gw
   rw [fG gw,HT gw,e1,e2,e3]
   exact (h.yd j z ZX).woken h.bk.tM (h.ns j) hM hz
 ·rw [fX] at hj
  obtain ⟨e1,e2,e3⟩:=ho j (by omega)
  rw [e1,e2,e3]; exact h.out j hj
theorem aJZ{D:Nat→Ab}{i:Nat}{x:Ab}(h:D i=x):cF D i x=D:=by
 funext j; unfold cF; split
 ·rename_i e; subst e; exact h.symm
 ·rfl
theorem MI.still(h:MI F Q T0 D m js s th mu dd gs w t)(hi:gs[i]? = some g){m':Ms}{jO:Nat→Option Th}{dd':Nat→Nat}{g':Goroutine}{w':World}{t':Trace}(hm:fA F.B jO (gV F s js (cnt D gs.size).hl) w')(ht:cY (some (am F)) (some (aw F)) jO mu dd' [F.bm,F.bw] (qV F (cnt D gs.size).hl) w'.heap.size t')
  (hs:qJ F (MM F Q D s gs.size) s i m' (jO i) (mu i) (dd' i) g' (D i)) (ho:∀ j,j≠i→jO j=th j∧dd' j=dd j) :
  MI F Q T0 D (mN m i m') js s jO mu dd' ((gs.map (Conc.woken F.P g g' w')).setIfInBounds i g') w' t':=by
 have e:=aJZ (D:=D) (i:=i) rfl
 have:=h.uh (x:=D i) (m':=m') (jh:=T0) (iX:=js) (s':=s) (jO:=jO) (mu':=mu) (dd':=dd') (g':=g') (w':=w') (t':=t') hi (.inr ⟨eR _,eR _⟩) (by rw [e]; exact eR _) (by rw [e]; exact hm) (by rw [e]; exact ht) (by rw [e]; exact hs) (λ j hj=>⟨(ho j hj).1,rfl,(ho j hj).2⟩) (by rw [e]; exact h.bk)
 rwa [e] at this
end
theorem aen{t u:Trace}{g:Nat}:∀ {r:Nat},r≤u.size→(t++u).deaf g (t.size+r)=(u.toList.take r).foldl (deafStep g) (Deaf t g)
 | 0,_=>by simp only [Nat.add_zero,List.take_zero,List.foldl_nil]; exact deaf_old (eR _)
 | r+1,h=>by
  have ih:=aen (t:=t) (u:=u) (g:=g) (r:=r) (by omega)
  have hr:r < u.size:=by omega
  have hu:(t++u)[t.size+r]? = some u[r]:=by
   rw [Array.getElem?_append_right (by omega),Nat.add_sub_cancel_left,qG hr]
  rw [← Nat.add_assoc,deaf_succ hu,ih]
  have:u.toList.take (r+1)=u.toList.take r++[u[r]]:=by
   rw [List.take_add_one]
   simp [hr]
  rw [this,List.foldl_append]
  rfl
theorem aeo{g:Nat}:∀ {l:List MemOp} {d:Nat},(∀ op∈l,op.act ≠ .mark .enable)→d≤l.foldl (deafStep g) d
 | [],_,_=>eR _
 | y::l,d,h=>by
  have h1:d≤deafStep g d y:=by
   unfold deafStep
   split
   ·split <;> omega
   ·rename_i e; exact absurd e (h y (by simp))
   ·exact eR _
  exact Nat.le_trans h1 (aeo λ op au=>h op (List.mem_cons_of_mem _ au))
section
variable {F:Fx} {th:Nat→Option Th} {mu:Nat→Bool} {dd:Nat→Nat} {s:Sh} {js:Nat→Nat} {hl i:Nat} {w:World} {t:Trace} {fn:FuncId} {pos:String} {es:Array Event} {R:az} {H:ah}
theorem ahf(h:fA F.B th (gV F s js hl) w):F.bm < w.heap.size:=lP (h.om _ _ (AK F s js hl))
theorem Qq(h:fA F.B th (gV F s js hl) w):F.bw < w.heap.size:=lP (h.om _ _ (AL F s js hl))
theorem anw(_:fA F.B th (gV F s js hl) w)(he:qH F es):∀ op∈MemOp.ofEvents i fn pos es,op.g=i∧(op.act = .mark .disable∨op.act = .mark .enable∨∃ a wr,op.act = .access ⟨.cell a,wr,true⟩∧(a.block=F.bm∨a.block=F.bw)):=by
 intro op au
 obtain ⟨e,ox,rfl⟩:=BF au
 refine ⟨rfl,?_⟩
 rcases he with he | ⟨a,ha,rfl⟩
 ·obtain ⟨a,wr,rfl,ha⟩:=he e ox
  exact .inr (.inr ⟨a,wr,by cases wr <;> rfl,ha⟩)
 ·simp only [semEvents,List.mem_toArray,fa,List.not_mem_nil,or_false] at ox
  rcases ox with rfl | rfl | rfl | rfl
  ·exact .inl rfl
  ·exact .inr (.inr ⟨a,false,rfl,ha⟩)
  ·exact .inr (.inr ⟨a,true,rfl,ha⟩)
  ·exact .inr (.inl rfl)
theorem anv(he:qH F es)(d:Nat):deafBehind d es=d:=by
 rcases he with he | ⟨a,_,rfl⟩
 ·obtain ⟨l⟩:=es
  unfold deafBehind
  simp only [List.foldl_toArray']
  induction l with
  | nil=>rfl
  | cons e l ih =>
   obtain ⟨a,wr,rfl,_⟩:=he e (by simp)
   exact ih λ e' Pd=>he e' (by simp at Pd ⊢; exact .inr Pd)
 ·simp [deafBehind,semEvents]
theorem cY.TX(hM:fA F.B th (gV F s js hl) w)(h:cY (some (am F)) (some (aw F)) th mu dd [F.bm,F.bw] (qV F hl) w.heap.size t)(hi:th i=some ⟨R,H⟩)(he:qH F es)(hc:mu i=false∨1≤dd i) :
  cY (some (am F)) (some (aw F)) th mu dd [F.bm,F.bw] (qV F hl) w.heap.size (t++MemOp.ofEvents i fn pos es):=by
 have F9:=anw (i:=i) (fn:=fn) (pos:=pos) hM he
 have:=cY.app (u:=MemOp.ofEvents i fn pos es) (n':=w.heap.size) (R':=R) (H':=H) (d':=dd i) hM rfl (Ja F s js hl) (I9 F s js hl) h hi (λ op au=>(F9 op au).1) (λ op au a ha=>?_) (λ op au=>?_) (λ op au a=>?_) (by rw [Deaf_own,h.deaf i,anv he]) ?_ (eR _) (λ _ _ x=>.inl x) (λ _ o x=>.inl ⟨o,x⟩)
 ·rwa [EP hi,mO] at this
 ·rcases (F9 op au).2 with e | e | ⟨a',wr,e,hb⟩ <;> rw [e] at ha
  ·cases ha
  ·cases ha
  ·simp only [MemAct.touch?,iS] at ha
   subst ha
   exact .inr ⟨a'.block,rfl,by rcases hb with hb | hb <;> simp [hb],.inl rfl⟩
 ·rcases (F9 op au).2 with e | e | ⟨a',wr,e,hb⟩ <;> rw [e]
  ·trivial
  ·trivial
  ·show a'.block < _
   rcases hb with hb | hb <;> rw [hb]
   ·exact ahf hM
   ·exact Qq hM
 ·rcases (F9 op au).2 with e | e | ⟨a',wr,e,hb⟩ <;> rw [e] <;> intro x <;> cases x
 ·refine hc.imp id λ hd k a hk Kg fg=>?_
  rcases fg with fg | ⟨g,hg,hz⟩
  ·obtain ⟨op,h1,h2⟩:=touch_of Kg
   rcases getElem?_append_cases h1 with ⟨bK,_⟩ | ⟨_,h3⟩
   ·omega
   ·rcases (F9 op h3).2 with e | e | ⟨a',wr,e,hb⟩ <;> rw [e] at h2
    ·cases h2
    ·cases h2
    ·simp only [MemAct.touch?,iS] at h2
     subst h2; exact fg rfl
  ·obtain ⟨op,h1,h2⟩:=touch_of Kg
   have bK:=lt_size_of_getElem? h1
   rw [Array.size_append] at bK
   have WA:g=i:=by
    rcases getElem?_append_cases h1 with ⟨bK,_⟩ | ⟨_,h3⟩
    ·omega
    ·rw [Trace.g?,h1] at hg
     simp only [Option.map_some,iS] at hg
     rw [← hg]; exact (F9 op h3).1
   subst WA
   obtain ⟨r,rfl⟩:∃ r,k=t.size+r:=⟨k - t.size,by omega⟩
   rw [aen (by omega),h.deaf g] at hz
   have hup:dd g≤((MemOp.ofEvents g fn pos es).toList.take r).foldl (deafStep g) (dd g):=by
    refine aeo λ op' Xc=>?_
    rcases he with he | ⟨a',ha',rfl⟩
    ·have hm:op'∈MemOp.ofEvents g fn pos es:=by simpa using List.mem_of_mem_take Xc
     obtain ⟨e,ox,rfl⟩:=BF hm
     obtain ⟨a',wr,rfl,_⟩:=he e ox
     cases wr <;> (intro x; cases x)
    ·have hr:r≤3:=by simp [MemOp.ofEvents,semEvents] at bK; omega
     have e4:(MemOp.ofEvents g fn pos (semEvents a')).toList=[⟨g,fn,pos,.mark .disable⟩,⟨g,fn,pos,.access ⟨.cell a',false,true⟩⟩,⟨g,fn,pos,.access ⟨.cell a',true,true⟩⟩,⟨g,fn,pos,.mark .enable⟩]:=by simp [MemOp.ofEvents,semEvents,MemAct.ofEvent]
     rw [e4] at Xc
     have h3:op'∈[(⟨g,fn,pos,.mark .disable⟩:MemOp),⟨g,fn,pos,.access ⟨.cell a',false,true⟩⟩,⟨g,fn,pos,.access ⟨.cell a',true,true⟩⟩]:=by
      have:([(⟨g,fn,pos,.mark .disable⟩:MemOp),⟨g,fn,pos,.access ⟨.cell a',false,true⟩⟩,⟨g,fn,pos,.access ⟨.cell a',true,true⟩⟩,⟨g,fn,pos,.mark .enable⟩]).take r <+: ([(⟨g,fn,pos,.mark .disable⟩:MemOp),⟨g,fn,pos,.access ⟨.cell a',false,true⟩⟩,⟨g,fn,pos,.access ⟨.cell a',true,true⟩⟩,⟨g,fn,pos,.mark .enable⟩]).take 3:=List.take_prefix_take_left hr
      exact this.subset Xc
     simp only [fa,List.not_mem_nil,or_false] at h3
     rcases h3 with rfl | rfl | rfl <;> (intro x; cases x)
   omega
theorem cY.word{m:Mark}{am' aw':Option Addr}{sh:List Nat}{fr:Option Nat}{n:Nat}(h:cY am' aw' th mu dd sh fr n t)(hm:m = .disable∨m = .enable) :
  cY am' aw' th mu (gG dd i (deafBehind (dd i) (said m))) sh fr n (t++MemOp.ofEvents i fn pos (said m)):=by
 refine h.leaves λ e he=>?_
 simp only [said,List.mem_toArray,fa,List.not_mem_nil,or_false] at he
 subst he
 rcases hm with rfl | rfl <;> rfl
end
theorem Oj(c:Lc):oZ (hd c)=1:=by unfold hd; split <;> rfl
theorem aoC(c:Lc):oZ (jC c)=1:=by unfold jC; split <;> rfl
theorem aes(m:Wd):oZ (hu m)=1:=by unfold hu; split <;> rfl
theorem QM(c:Lc):kq (hd c)=false:=by unfold hd; split <;> rfl
theorem aGT(c:Lc):kq (jC c)=false:=by unfold jC; split <;> rfl
theorem ahX(m:Wd):kq (hu m)=false:=by unfold hu; split <;> rfl
inductive Nq (F:Fx):Lp→Lp→Array Event→Prop
 | at {T T' es}:qH F es→oZ T'=oZ T→kq T'=kq T→Nq F T T' es
 | AO {T T'}:oZ T=0→oZ T'=1→kq T'=kq T→Nq F T T' (said .disable)
 | en {T T'}:oZ T=1→oZ T'=0→kq T'=kq T→Nq F T T' (said .enable)
theorem Wq{c:Lc}{T:Lp}(h1:∀ c,T ≠ .sq c)(h2:∀ c,T ≠ .c2 c):hd c≠T:=by unfold hd; split <;> exact λ e=>by subst e; first | exact h1 _ rfl | exact h2 _ rfl
theorem abo{c:Lc}{T:Lp}(h1:∀ c,T ≠ .c1 c)(h2:∀ c,T ≠ .r1 c):jC c≠T:=by unfold jC; split <;> exact λ e=>by subst e; first | exact h1 _ rfl | exact h2 _ rfl
theorem YI{m:Wd}{T:Lp}(h1:T ≠ .ue)(h2:∀ c,T ≠ .uc c):hu m≠T:=by unfold hu; split <;> exact λ e=>by subst e; first | exact h1 rfl | exact h2 _ rfl
theorem dp.inv{s s':Sh}{T T':Lp}(h:dp T s T' s'):(∀ js,T' = .ul js→T = .la)∧(T' = .ud→gY T=true)∧(T' = .quit→T = .d1∨T = .d4):=by
 have k1:∀ c,(∀ js,hd c = .ul js→T = .la)∧(hd c = .ud→gY T=true)∧(hd c = .quit→T = .d1∨T = .d4):=λ c=>⟨λ js e=>absurd e (Wq (by simp) (by simp)),λ e=>absurd e (Wq (by simp) (by simp)),λ e=>absurd e (Wq (by simp) (by simp))⟩
 have k2:∀ c,(∀ js,jC c = .ul js→T = .la)∧(jC c = .ud→gY T=true)∧(jC c = .quit→T = .d1∨T = .d4):=λ c=>⟨λ js e=>absurd e (abo (by simp) (by simp)),λ e=>absurd e (abo (by simp) (by simp)),λ e=>absurd e (abo (by simp) (by simp))⟩
 have k3:∀ c,(∀ js,hu c = .ul js→T = .la)∧(hu c = .ud→gY T=true)∧(hu c = .quit→T = .d1∨T = .d4):=λ c=>⟨λ js e=>absurd e (YI (by simp) (by simp)),λ e=>absurd e (YI (by simp) (by simp)),λ e=>absurd e (YI (by simp) (by simp))⟩
 cases h
 case r0=>exact k1 _
 case r1=>exact k1 _
 case r3=>exact k1 _
 case zB=>exact k1 _
 case zM=>exact k2 _
 case zO=>exact k3 _
 case ux=>exact k3 _
 case yA c _ _=>cases c.ws <;> simp
 case s1 c _ _=>cases c.sv <;> simp
 all_goals simp [gY]
theorem Mw(i:Nat)(fn:FuncId)(pos:String)(m:Mark):MemOp.ofEvents i fn pos (said m)=#[⟨i,fn,pos,.mark m⟩]:=by simp [MemOp.ofEvents,said,MemAct.ofEvent]
section
variable {F:Fx} {Q:Nat} {T0:Mp} {D:Nat→Ab} {m:Nat→Ms} {js:Nat→Nat} {s s':Sh} {th:Nat→Option Th} {mu:Nat→Bool} {dd:Nat→Nat} {gs:Array Goroutine} {w w':World} {t:Trace} {sl:Option (Nat × Nat)} {i k j:Nat} {g g':Goroutine} {T T':Lp}
theorem dp.ab0(h:dp T s T' s'):(T = .us∨T = .d4)∨(s'.ms≤s.ms∧s'.ws≤s.ws):=by
 cases h
 case us=>exact .inl (.inl rfl)
 case d4=>exact .inl (.inr rfl)
 case s1 c m h=>exact .inr ⟨by simp only; omega,eR _⟩
 all_goals exact .inr ⟨eR _,eR _⟩
theorem gO.ab0{T T':Mp}(h:gO T s T' s'):s'.ms≤s.ms∧s'.ws≤s.ws:=by
 cases h
 case w3 m h=>exact ⟨eR _,by simp only; omega⟩
 all_goals exact ⟨eR _,eR _⟩
theorem evK(dy:dp T s T' s'){es:Array Event}(he:FQ F T es)(h1:T ≠ .la)(h2:gY T=false)(h3:T ≠ .wr)(hq:T' ≠ .quit):Nq F T T' es:=by
 cases dy
 case ld=>rw [show es=said .disable from he]; exact .AO rfl rfl rfl
 case ud=>rw [show es=said .disable from he]; exact .AO rfl rfl rfl
 case le=>rw [show es=said .enable from he]; exact .en rfl rfl rfl
 case RK=>rw [show es=said .enable from he]; exact .en rfl rfl rfl
 case RL=>rw [show es=said .enable from he]; exact .en rfl rfl rfl
 case wk=>rw [show es=said .disable from he]; exact .AO rfl rfl rfl
 case la=>exact absurd rfl h1
 case ur=>cases h2
 case wr=>exact absurd rfl h3
 case Jg=>exact absurd rfl hq
 case d4=>exact absurd rfl hq
 case r0=>exact .at he (Oj _) (QM _)
 case r1=>exact .at he (Oj _) (QM _)
 case r3=>exact .at he (Oj _) (QM _)
 case zB=>exact .at he (Oj _) (QM _)
 case zM=>exact .at he (aoC _) (aGT _)
 case yA c _ _=>exact .at he (by cases c.ws <;> rfl) (by cases c.ws <;> rfl)
 case s1 c _ _=>exact .at he (by cases c.sv <;> rfl) (by cases c.sv <;> rfl)
 case zO=>exact .at he (aes _) (ahX _)
 case ux=>exact .at he (aes _) (ahX _)
 all_goals exact .at he rfl rfl
theorem aGX{K:Nat→Lp→az→ah→Goroutine→Prop}{R:az}{H:ah}(dy:dp T s T' s')(h1:T ≠ .la)(h2:gY T=false)(hq:T' ≠ .quit)(h:yv F K k j T T' R H g') :
  if kq T' then ∃ q,Cl F.P (K j T' R H) q g' else Own F.P F.B false (K j T') R H g':=by
 cases hT:T' with
 | quit=>exact absurd hT hq
 | ul js=>exact absurd (dy.inv.1 js hT) h1
 | ud=>rw [dy.inv.2.1 hT] at h2; cases h2
 | _=>subst hT; exact h
theorem aoy(h:MI F Q T0 D m js s th mu dd gs w t)(hi:gs[i]? = some g)(hd:D i = .wk k j T):0 < i∧dd i=oZ T∧mu i=kq T:=by
 have:=h.yd i g hi
 rw [hd] at this
 exact ⟨this.1,this.2.1,this.2.2.1⟩
theorem MI.work(h:MI F Q T0 D m js s th mu dd gs w t)(hi:gs[i]? = some g)(hd:D i = .wk k j T){y:Th}(hy:th i=some y){n:Nat}(hn:MM F Q D s gs.size≤n)(hK:KW F n k j T y.R y.H g) :
  ((∃ c,T = .s1 c)∧s.ms=0∧stepG F.P false g w = .go { g with status:=.blocked } w #[]) ∨
  ∃ iU w' ops D' m' iX s' jO mu' dd',(∀ sl,runT F.P (crowd gs w sl) i=(.next (crowd iU w' sl),ops))∧iU.size=gs.size∧MI F Q T0 D' m' iX s' jO mu' dd' iU w' (t++ops)∧MM F Q D' s' iU.size < MM F Q D s gs.size:=by
 have bK:=DZ hi
 obtain ⟨jv,j6,dq⟩:=aoy h hi hd
 have yO:(i == 0)=false:=by simp; omega
 obtain ⟨ot,oj,oh,ok,on⟩:=h.bk.ns i k j T hd
 have hle:=FJ (D:=D) bK
 rw [hd] at hle
 have hMp:=h.bk.tM
 obtain ⟨n',rfl⟩:∃ n',n=n'+1:=⟨n - 1,by omega⟩
 obtain ⟨kJ,aSD,awc,cU⟩:=hK ot
 obtain ⟨R,H⟩:=y
 rcases cU w s (h.mem.fits i _ hy) (Tp h.mem) (h.bk.s9.xS hle) (h.bk.aig.okW hle) with hb | ⟨g',w',es,T',s',dy,Bn,j7,cU,nc,Po⟩
 ·exact .inl hb
 right
 have hr:∀ sl,runT F.P (crowd gs w sl) i=(.next (crowd ((gs.map (Conc.woken F.P g g' w')).setIfInBounds i g') w' sl),MemOp.ofEvents i g.frame.fn g.frame.place es):=λ sl=>runT_crowd_go hi (by rw [yO]; exact cU)
 have fX:((gs.map (Conc.woken F.P g g' w')).setIfInBounds i g').size=gs.size:=by simp
 have JV:=ahf h.mem
 have hbw:=Qq h.mem
 have wk:(g'.status = .running∨g'.status = .finished)→(mayWake F.P g=true∧g'.status ≠ .blocked∧g'.status ≠ .waiting)∨(s'.ms≤s.ms∧s'.ws≤s.ws):=λ hs=>by
  rcases dy.ab0 with hx | hx
  ·exact .inl ⟨awc hx,by rcases hs with e | e <;> rw [e] <;> simp,by rcases hs with e | e <;> rw [e] <;> simp⟩
  ·exact .inr hx
 have other:∀ (x1:Option Th) (x2:Bool) (x3:Nat),∀ j,j≠i→gp th i x1 j=th j∧oM mu i x2 j=mu j∧gG dd i x3 j=dd j:=λ x1 x2 x3 j hj=>⟨eC hj,abH hj,ui hj⟩
 have QN:oM mu i (mu i)=mu:=by funext j; unfold oM; split <;> simp [*]
 by_cases hq:T' = .quit
 ·
  subst hq
  obtain ⟨q,hq⟩:=Po
  have Bc:(T = .d1∨T = .d4):=dy.inv.2.2 rfl
  have hjJ:j=F.J:=by rcases Bc with rfl | rfl <;> exact oj
  have awd:mu i=true:=by rw [dq]; rcases Bc with rfl | rfl <;> rfl
  have hd1:dd i=1:=by rw [j6]; rcases Bc with rfl | rfl <;> rfl
  have j4:qH F es:=by rcases Bc with rfl | rfl <;> exact j7
  obtain ⟨mA,oo⟩:=h.bk.quit hd bK dy hjJ (by rcases Bc with rfl | rfl <;> rfl)
  have fg:(cnt (cF D i .no) gs.size).hl=(cnt D gs.size).hl:=by
   have:=(wT (D:=D) bK .no).hl
   rw [hd] at this
   rcases Bc with rfl | rfl <;> simpa [cA,cW,Cn.busy,Cn.zero] using this
  have ng:=(cY.TX (fn:=g.frame.fn) (pos:=g.frame.place) h.mem h.tr hy j4 (.inr (by omega))).die awd
  rw [← nc.size] at ng
  refine ⟨_,_,_,_,mN m i (some (sx q)),js,s',gp th i none,oM mu i (mu i),gG dd i (dd i),hr,fX,h.uh hi (wk hq.status) (Nat.le_of_lt oo) (by rw [fg]; exact fA.drop (h.mem.put nc)) (by rw [fg,QN,mO]; exact ng) ?_ (other _ _ _) mA,by rw [fX]; exact oo⟩
  rw [fv,uj,hd1]
  exact ⟨rfl,jv,q,rfl,hq⟩
 by_cases Ki:T = .la
 ·
  subst Ki
  cases dy
  obtain ⟨T2,u6⟩:=Po js ok
  obtain ⟨mA,oo⟩:=h.bk.work (T':=.ul js) hd bK .la trivial rfl rfl (by simp)
  have Pn:=mA.tM
  have yQ:MM F Q (cF D i (.wk k j (.ul js))) s gs.size≤n':=by omega
  have Pm:(cnt D gs.size).hl=0:=by
   have:=h.bk.s9.ow; have:=h.bk.s9.l1
   have:=hle.ow
   simp only [cA,cW,Cn.busy,Cn.zero] at this
   omega
  have vd:(cnt (cF D i (.wk k j (.ul js))) gs.size).hl=1:=by
   have:=(wT (D:=D) bK (.wk k j (.ul js))).hl
   rw [hd] at this
   simp only [cA,cW,Cn.busy,Cn.zero] at this
   omega
  have e1:es=said (.acquire (am F)):=j7
  subst e1
  have hm:=h.mem
  have ht:=h.tr
  rw [Pm] at hm ht
  have q6:dd i=0:=by rw [j6]; rfl
  have ng:=cY.acquire (b:=F.bo) (o:=F.cont js) (y:=⟨i,g.frame.fn,g.frame.place,.mark (.acquire (am F))⟩) ht hy rfl rfl q6 JV
  rw [← nc.size,← Mw] at ng
  refine ⟨_,_,_,_,mN m i (some T2),js,s,gp th i (some ⟨R,(F.bo,F.cont js)::H⟩),oM mu i (mu i),gG dd i 0,hr,fX,h.uh hi (wk (.inl (u6.EO λ R H g hg=>(KW.run hg (by omega) trivial).1))) (Nat.le_of_lt oo) (by rw [vd]; exact fA.take (hm.put nc) hy (by omega)) (by rw [vd,QN,show gG dd i 0=dd by rw [← q6]; exact mO _ _]; exact ng) ?_ (other _ _ _) mA,by rw [fX]; exact oo⟩
  rw [fv,uj,RN,dq]
  exact ⟨jv,rfl,rfl,_,n',rfl,yQ,.inl ⟨T2,rfl,u6⟩⟩
 by_cases hur:gY T=true
 ·
  cases T with
  | ur js0 =>
   have hjj:js0=js:=oh
   subst hjj
   cases dy
   obtain ⟨js1,H',e1,e2,T2,u6⟩:=Po
   cases e1
   subst e2
   obtain ⟨mA,oo⟩:=h.bk.ur hd bK
   have Pn:=mA.tM
   have yQ:MM F Q (cF D i (.wk k (j+1) .ud)) s gs.size≤n':=by omega
   have vd:(cnt D gs.size).hl≠0:=by
    have:=hle.hl
    simp only [cA,cW,Cn.busy,Cn.zero] at this
    omega
   have Pm:(cnt (cF D i (.wk k (j+1) .ud)) gs.size).hl=0:=by
    have:=(wT (D:=D) bK (.wk k (j+1) .ud)).hl
    rw [hd] at this
    simp only [cA,cW,Cn.busy,Cn.zero] at this
    have:=h.bk.s9.ow; have:=h.bk.s9.l1
    omega
   have e1:es=said (.releaseMerge (am F)):=j7
   subst e1
   have q6:dd i=0:=by rw [j6]; rfl
   have ht:=h.tr
   rw [show qV F (cnt D gs.size).hl=none by simp [qV,vd]] at ht
   have ng:=cY.release (H':=H') (y:=⟨i,g.frame.fn,g.frame.place,.mark (.releaseMerge (am F))⟩) ht hy (List.mem_cons_self) (λ x hx=>List.mem_cons_of_mem _ hx) rfl rfl q6 JV
   rw [← nc.size,← Mw] at ng
   refine ⟨_,_,_,_,mN m i (some T2),gG js0 k (j+1),s,gp th i (some ⟨R,H'⟩),oM mu i (mu i),gG dd i 0,hr,fX,h.uh hi (wk (.inl (u6.EO λ R H g hg=>(KW.run hg (by omega) trivial).1))) (Nat.le_of_lt oo) (by rw [Pm]; exact fA.asd (h.mem.put nc) vd hy) (by rw [Pm,QN,show gG dd i 0=dd by rw [← q6]; exact mO _ _]; exact ng) ?_ (other _ _ _) mA,by rw [fX]; exact oo⟩
   rw [fv,uj,RN,dq]
   exact ⟨jv,rfl,rfl,_,n',rfl,yQ,.inl ⟨T2,rfl,u6⟩⟩
  | _=>cases hur
 have PV:gY T=false:=by simpa using hur
 have YJ:BI js T':=by
  cases dy
  case la=>exact absurd rfl Ki
  case ul=>exact oh
  case r0=>exact QV _
  case r1=>exact QV _
  case r3=>exact QV _
  case zB=>exact QV _
  case zM=>exact aG6 _
  case yA c _ _=>cases c.ws <;> trivial
  case s1 c _ _=>cases c.sv <;> trivial
  case zO=>exact ah5 _
  case ux=>exact ah5 _
  all_goals trivial
 obtain ⟨mA,oo⟩:=h.bk.work hd bK dy Bn YJ PV hq
 have Pn:=mA.tM
 have yQ:MM F Q (cF D i (.wk k j T')) s' gs.size≤n':=by omega
 have Bj:=aGX dy Ki PV hq Po
 have oT':ri F.N T':=by
  have:=mA.ns i k j T' (jQ _ _ _)
  exact this.1
 have fg:(cnt (cF D i (.wk k j T')) gs.size).hl=(cnt D gs.size).hl:=by
  have:=(wT (D:=D) bK (.wk k j T')).hl
  rw [hd] at this
  have e:(cW T').hl=(cW T).hl:=by
   cases dy
   case la=>exact absurd rfl Ki
   case ur=>cases PV
   case r0=>rw [td]; rfl
   case r1=>rw [td]; rfl
   case r3=>rw [td]; rfl
   case zB=>rw [td]; rfl
   case zM=>rw [Uw]; rfl
   case yA c _ _=>cases c.ws <;> rfl
   case s1 c _ _=>cases c.sv <;> rfl
   case MH c _=>generalize (c.sv && _)=b; cases b <;> rfl
   case a1 b=>cases b <;> rfl
   case zO=>unfold hu; split <;> rfl
   case ux=>unfold hu; split <;> rfl
   all_goals rfl
  simp only [cA] at this
  omega
 have Wy:g'.status = .running:=by
  cases hm:kq T' with
  | true =>
   simp only [hm,if_true] at Bj
   obtain ⟨q,hq⟩:=Bj
   exact hq.run λ g hg=>(hg.run (by omega) oT').1
  | false =>
   simp only [hm,nF,if_false] at Bj
   obtain ⟨T2,u6⟩:=Bj
   exact u6.EO λ R H g hg=>(KW.run hg (by omega) oT').1
 obtain ⟨m',Xq⟩:∃ m',qJ F (MM F Q (cF D i (.wk k j T')) s' gs.size) s' i m' (some ⟨R,H⟩) (kq T') (oZ T') g' (.wk k j T'):=by
  cases hm:kq T' with
  | true =>
   simp only [hm,if_true] at Bj
   obtain ⟨q,hq⟩:=Bj
   exact ⟨some (sx q),jv,rfl,hm.symm,_,n',rfl,yQ,by rw [if_pos hm]; exact ⟨q,rfl,hq⟩⟩
  | false =>
   simp only [hm,nF,if_false] at Bj
   obtain ⟨T2,u6⟩:=Bj
   exact ⟨some T2,jv,rfl,hm.symm,_,n',rfl,yQ,by rw [if_neg (by simp [hm])]; exact .inl ⟨T2,rfl,u6⟩⟩
 have ng:cY (some (am F)) (some (aw F)) th (oM mu i (kq T')) (gG dd i (oZ T')) [F.bm,F.bw] (qV F (cnt D gs.size).hl) w.heap.size (t++MemOp.ofEvents i g.frame.fn g.frame.place es):=by
  by_cases xl:T = .wr
  ·subst xl
   cases dy
   have e1:es=said (.releaseMerge (aw F)):=j7
   subst e1
   have q6:dd i=0:=by rw [j6]; rfl
   have:=cY.aK8 (y:=⟨i,g.frame.fn,g.frame.place,.mark (.releaseMerge (aw F))⟩) (i:=i) h.tr rfl rfl q6 hbw
   rw [show gG dd i (oZ .wk)=dd by rw [show oZ .wk=dd i from q6.symm]; exact mO _ _,Mw]
   exact this
  ·have muE:kq T'=kq T→oM mu i (kq T')=mu:=λ e=>by rw [e,← dq]; exact QN
   cases evK dy j7 Ki PV xl hq with
   | «at» ha e1 e2 =>
    rw [muE e2,e1,← j6,mO]
    refine cY.TX h.mem h.tr hy ha ?_
    rw [dq,j6]
    cases dy <;> first | exact .inl rfl | exact .inr (eR _) | (cases e1)
   | AO e1 e2 e3 =>
    have:=cY.word (i:=i) (fn:=g.frame.fn) (pos:=g.frame.place) h.tr (m:=.disable) (.inl rfl)
    rw [muE e3,e2]
    rwa [show deafBehind (dd i) (said .disable)=1 by rw [j6,e1]; rfl] at this
   | en e1 e2 e3 =>
    have:=cY.word (i:=i) (fn:=g.frame.fn) (pos:=g.frame.place) h.tr (m:=.enable) (.inr rfl)
    rw [muE e3,e2]
    rwa [show deafBehind (dd i) (said .enable)=0 by rw [j6,e1]; rfl] at this
 rw [← nc.size] at ng
 refine ⟨_,_,_,_,mN m i m',js,s',gp th i (some ⟨R,H⟩),oM mu i (kq T'),gG dd i (oZ T'),hr,fX,h.uh hi (wk (.inl Wy)) (Nat.le_of_lt oo) (by rw [fg,EP hy]; exact h.mem.put nc) (by rw [fg,EP hy]; exact ng) (by rw [fv,RN,uj]; exact Xq) (other _ _ _) mA,by rw [fX]; exact oo⟩
end
section
variable {F:Fx} {Q:Nat} {T0:Mp} {D:Nat→Ab} {m:Nat→Ms} {js:Nat→Nat} {s s':Sh} {th:Nat→Option Th} {mu:Nat→Bool} {dd:Nat→Nat} {gs:Array Goroutine} {w w':World} {t:Trace} {sl:Option (Nat × Nat)} {i k j:Nat} {g g':Goroutine} {R:az} {H:ah} {hl:Nat} {fn:FuncId} {pos:String}
theorem cY.aI3{mk:Mark}(hM:fA F.B th (gV F s js hl) w)(h:cY (some (am F)) (some (aw F)) th mu dd [F.bm,F.bw] (qV F hl) w.heap.size t)(hi:th 0=some ⟨R,H⟩)(hm:mk = .read (rD F)∨mk = .write (rD F))(hc:mu 0=false) :
  cY (some (am F)) (some (aw F)) th mu dd [F.bm,F.bw] (qV F hl) w.heap.size (t++MemOp.ofEvents 0 fn pos (said mk)):=by
 rw [Mw]
 have hd:Deaf (t++#[⟨0,fn,pos,.mark mk⟩]) 0=dd 0:=by
  rw [Deaf_push]
  unfold deafStep
  rcases hm with rfl | rfl <;> exact h.deaf 0
 have:=cY.app (u:=#[⟨0,fn,pos,.mark mk⟩]) (n':=w.heap.size) (R':=R) (H':=H) (d':=dd 0) hM rfl (Ja F s js hl) (I9 F s js hl) h hi (λ op au=>by rw [zw au]) (λ op au a ha=>?_) (λ op au=>?_) (λ op au a=>?_) hd (.inl hc) (eR _) (λ _ _ x=>.inl x) (λ _ o x=>.inl ⟨o,x⟩)
 ·rwa [EP hi,mO] at this
 ·rw [zw au] at ha
  refine .inr ⟨F.bw,?_,by simp,.inr ⟨?_,rfl⟩⟩ <;> rcases hm with rfl | rfl <;> (simp only [MemAct.touch?,iS] at ha; subst ha; rfl)
 ·rw [zw au]
  rcases hm with rfl | rfl <;> exact Qq hM
 ·rw [zw au]
  rcases hm with rfl | rfl <;> (intro x; cases x)
theorem qJ.mono{μ Np:Nat}{mm:Ms}{x:Option Th}{b:Bool}{d:Nat}{A:Ab}(h:qJ F μ s i mm x b d g A)(hle:Np≤μ):qJ F Np s i mm x b d g A:=by
 cases A with
 | no=>exact h
 | wk k j T =>
  obtain ⟨h1,h2,h3,y,n,h4,hn,h⟩:=h
  exact ⟨h1,h2,h3,y,n,h4,by omega,h⟩
 | mn T =>
  obtain ⟨h1,h2,h3,y,n,h4,hn,h⟩:=h
  exact ⟨h1,h2,h3,y,n,h4,by omega,h⟩
inductive Iu (F:Fx):Mp→Mp→Array Event→Prop
 | at {T T' es}:qH F es→pX T'=pX T→Iu F T T' es
 | AO {T T'}:pX T=0→pX T'=1→Iu F T T' (said .disable)
 | en {T T'}:pX T=1→pX T'=0→Iu F T T' (said .enable)
 | sd {T T' mk}:pX T'=pX T→mk = .read (rD F)∨mk = .write (rD F)→Iu F T T' (said mk)
theorem evN{T T':Mp}(dy:gO T s T' s'){es:Array Event}(he:CL F T es)(h1:T ≠ .wq):Iu F T T' es:=by
 cases dy
 case ka=>rw [show es=said .disable from he]; exact .AO rfl rfl
 case wa=>rw [show es=said .disable from he]; exact .AO rfl rfl
 case ke=>rw [show es=said .enable from he]; exact .en rfl rfl
 case we=>rw [show es=said .enable from he]; exact .en rfl rfl
 case kd=>rw [show es=said (.read (rD F)) from he]; exact .sd rfl (.inl rfl)
 case wW=>rw [show es=said (.write (rD F)) from he]; exact .sd rfl (.inr rfl)
 case wq=>exact absurd rfl h1
 all_goals exact .at he rfl
theorem ael(h:MI F Q T0 D m js s th mu dd gs w t)(hi:gs[0]? = some g):dd 0=pX T0∧mu 0=false:=by
 have:=h.yd 0 g hi
 rw [h.bk.d0] at this
 exact ⟨this.2.1,this.2.2.1⟩
theorem KM.go_{n r:Nat}(h:KM F (n+1) (.go r) R H g):∀ w s,Fits F.B R H w→fD F s w→pv F.N (.go r) s→∃ g' child,stepG F.P true g w = .spawn g' child w #[]∧Own F.P F.B false (KW F n (F.N - (r+1)) 0 .ld) R [] child∧Own F.P F.B true (KM F n (kO r)) R H g':=h.2.2
theorem KM.wq_{n:Nat}(h:KM F (n+1) .wq R H g):∀ w s,Fits F.B R H w→fD F s w→pv F.N .wq s→∃ g' w',stepG F.P true g w = .go g' w' (said (.acquire (aw F)))∧cB F s w w'∧∀ js,(∀ k,k < F.N→js k=F.J)→F.mj R ((F.bo,F.cont js)::H) g':=h.2.2
theorem KM.other{n:Nat}{T:Mp}(h:KM F (n+1) T R H g)(h1:∀ r,T ≠ .go r)(h2:T ≠ .wq):∀ w s,Fits F.B R H w→fD F s w→pv F.N T s→(T = .w3∧s.ws=0∧stepG F.P true g w = .go { g with status:=.blocked } w #[]) ∨
  ∃ g' w' es T' s',gO T s T' s'∧CL F T es∧stepG F.P true g w = .go g' w' es∧cB F s' w w'∧Own F.P F.B true (KM F n T') R H g':=by
 cases T <;> first | exact absurd rfl (h1 _) | exact absurd rfl h2 | exact h.2.2
theorem MI.main(h:MI F Q T0 D m js s th mu dd gs w t)(hi:gs[0]? = some g){y:Th}(hy:th 0=some y){n:Nat}(hn:MM F Q D s gs.size≤n)(hK:KM F n T0 y.R y.H g)(h2:T0 ≠ .wq) :
  (T0 = .w3∧s.ws=0∧stepG F.P true g w = .go { g with status:=.blocked } w #[]) ∨
  ∃ jh iU w' ops D' m' iX s' jO mu' dd',(∀ sl,runT F.P (crowd gs w sl) 0=(.next (crowd iU w' sl),ops))∧MI F Q jh D' m' iX s' jO mu' dd' iU w' (t++ops)∧MM F Q D' s' iU.size < MM F Q D s gs.size:=by
 have bK:=DZ hi
 obtain ⟨j6,dq⟩:=ael h hi
 have hMp:=h.bk.tM
 obtain ⟨n',rfl⟩:∃ n',n=n'+1:=⟨n - 1,by omega⟩
 obtain ⟨R,H⟩:=y
 have hf:=h.mem.fits 0 _ hy
 have bp:=Tp h.mem
 have gQ:=h.bk.aig.pv
 by_cases h1:∃ r,T0 = .go r
 ·
  right
  obtain ⟨r,rfl⟩:=h1
  obtain ⟨g',child,cU,⟨T1,hc⟩,⟨T2,hg⟩⟩:=hK.go_ w s hf bp gQ
  obtain ⟨mA,oo⟩:=h.bk.spawn
  have Pn:=mA.tM
  obtain ⟨o1,o2,o3⟩:=h.out gs.size (eR _)
  have fX:((gs.setIfInBounds 0 g').push child).size=gs.size+1:=by simp
  have hh:(cnt (cF (cF D gs.size (.wk (F.N - (r+1)) 0 .ld)) 0 (.mn (kO r))) (gs.size+1)).hl=(cnt D gs.size).hl:=by
   have:=(aei (D:=D) h.bk.pos (.mn (kO r)) (.wk (F.N - (r+1)) 0 .ld) rfl (by rw [h.bk.d0]; rfl)).hl
   simpa [cA,cW,Cn.busy,Cn.zero] using this
  have hr:∀ sl,runT F.P (crowd gs w sl) 0=(.next (crowd ((gs.setIfInBounds 0 g').push child) w sl),#[⟨0,g.frame.fn,g.frame.place,.go gs.size⟩,⟨gs.size,child.frame.fn,g.frame.place,.start⟩]):=λ sl=>by
   have:=runT_crowd_spawn (P:=F.P) (sl:=sl) hi (show stepG F.P (0 == 0) g w=_ from cU)
   rw [this]
   simp [MemOp.ofEvents]
  have q6:dd 0=0:=by rw [j6]; rfl
  have ng:=h.tr.spawn (c:=gs.size) (x:=⟨0,g.frame.fn,g.frame.place,.go gs.size⟩) (y:=⟨gs.size,child.frame.fn,g.frame.place,.start⟩) hy (aO.refl R) o1 ⟨rfl,rfl⟩ ⟨rfl,rfl⟩ q6 o3 (by omega) o2
  have ix:=h.mem.add (c:=gs.size) hy (aO.refl R)
  refine ⟨kO r,_,w,_,_,mN (mN m gs.size (some T1)) 0 (some T2),js,s,_,mu,gG dd 0 (pX (kO r)),hr,⟨by rw [fX,hh]; exact ix,?_,λ a x ha=>?_,λ a ha=>?_,by rw [fX]; exact mA⟩,by rw [fX]; exact oo⟩
  ·rw [fX,hh]
   have:gG dd 0 (pX (kO r))=dd:=by
    rw [show pX (kO r)=dd 0 by rw [q6]; cases r <;> rfl]; exact mO _ _
   rw [this]; exact ng
  ·rw [fX]
   by_cases xe:a=0
   ·subst xe
    rw [Array.getElem?_push,if_neg (by simp; omega),uE bK] at ha
    cases ha
    rw [jQ,MW,uj,eC (by omega),hy,dq]
    exact ⟨rfl,rfl,rfl,_,n',rfl,by omega,.inl ⟨T2,rfl,hg⟩⟩
   ·by_cases O9:a=gs.size
    ·subst O9
     rw [Array.getElem?_push,if_pos (by simp)] at ha
     cases ha
     rw [fG (by omega),jQ,HT (by omega),MW,ui (by omega),fv,o2,o3]
     exact ⟨by omega,rfl,rfl,_,n',rfl,by omega,by rw [if_neg (by simp [kq])]; exact .inl ⟨T1,rfl,hc⟩⟩
    ·rw [Array.getElem?_push,if_neg (by simp; omega),mW (by omega)] at ha
     rw [fG xe,fG O9,HT xe,HT O9,ui xe,eC O9]
     exact (h.yd a x ha).mono (Nat.le_of_lt oo)
  ·rw [fX] at ha
   rw [eC (by omega),ui (by omega)]
   exact h.out a (by omega)
 have w5:∀ r,T0 ≠ .go r:=λ r e=>h1 ⟨r,e⟩
 rcases hK.other w5 h2 w s hf bp gQ with hb | ⟨g',w',es,T',s',dy,j7,cU,nc,T2,u6⟩
 ·exact .inl hb
 right
 have auI:T' ≠ .fin:=λ e=>by subst e; cases dy; exact h2 rfl
 have hr:∀ sl,runT F.P (crowd gs w sl) 0=(.next (crowd ((gs.map (Conc.woken F.P g g' w')).setIfInBounds 0 g') w' sl),MemOp.ofEvents 0 g.frame.fn g.frame.place es):=λ sl=>runT_crowd_go hi (show stepG F.P (0 == 0) g w=_ from cU)
 have fX:((gs.map (Conc.woken F.P g g' w')).setIfInBounds 0 g').size=gs.size:=by simp
 obtain ⟨mA,oo⟩:=h.bk.aGG dy auI
 have Pn:=mA.tM
 have fg:(cnt (cF D 0 (.mn T')) gs.size).hl=(cnt D gs.size).hl:=by
  have:=(wT (D:=D) bK (.mn T')).hl
  rw [h.bk.d0] at this
  simpa [cA,Cn.zero] using this
 have ng:cY (some (am F)) (some (aw F)) th mu (gG dd 0 (pX T')) [F.bm,F.bw] (qV F (cnt D gs.size).hl) w.heap.size (t++MemOp.ofEvents 0 g.frame.fn g.frame.place es):=by
  cases evN dy j7 h2 with
  | «at» ha e1 =>
   rw [e1,← j6,mO]
   exact cY.TX h.mem h.tr hy ha (.inl dq)
  | AO e1 e2 =>
   have:=cY.word (i:=0) (fn:=g.frame.fn) (pos:=g.frame.place) h.tr (m:=.disable) (.inl rfl)
   rw [e2]
   rwa [show deafBehind (dd 0) (said .disable)=1 by rw [j6,e1]; rfl] at this
  | en e1 e2 =>
   have:=cY.word (i:=0) (fn:=g.frame.fn) (pos:=g.frame.place) h.tr (m:=.enable) (.inr rfl)
   rw [e2]
   rwa [show deafBehind (dd 0) (said .enable)=0 by rw [j6,e1]; rfl] at this
  | sd e1 e2 =>
   rw [e1,← j6,mO]
   exact cY.aI3 h.mem h.tr hy e2 dq
 rw [← nc.size] at ng
 refine ⟨T',_,_,_,_,mN m 0 (some T2),js,s',gp th 0 (some ⟨R,H⟩),oM mu 0 (mu 0),gG dd 0 (pX T'),hr,h.uh hi (.inr dy.ab0) (Nat.le_of_lt oo) (by rw [fg,EP hy]; exact h.mem.put nc) ?_ ?_ (λ j hj=>⟨eC hj,abH hj,ui hj⟩) mA,by rw [fX]; exact oo⟩
 ·rw [fg,EP hy,show oM mu 0 (mu 0)=mu by funext j; unfold oM; split <;> simp [*]]; exact ng
 ·rw [fv,RN,uj,dq]
  exact ⟨rfl,rfl,rfl,_,n',rfl,by omega,.inl ⟨T2,rfl,u6⟩⟩
theorem MI.aJR(h:MI F Q .wq D m js s th mu dd gs w t)(hi:gs[0]? = some g){y:Th}(hy:th 0=some y){n:Nat}(hn:MM F Q D s gs.size≤n)(hK:KM F n .wq y.R y.H g) :
  ∃ iU g' w' ops q dd' R' H',(∀ sl,runT F.P (crowd gs w sl) 0=(.next (crowd iU w' sl),ops))∧iU[0]? = some g'∧F.mj R' H' g'∧yo F.P F.B R' H' iU w' (t++ops) q dd':=by
 have bK:=DZ hi
 obtain ⟨j6,dq⟩:=ael h hi
 have hMp:=h.bk.tM
 obtain ⟨n',rfl⟩:∃ n',n=n'+1:=⟨n - 1,by omega⟩
 obtain ⟨R,H⟩:=y
 obtain ⟨g',w',cU,nc,tu⟩:=hK.wq_ w s (h.mem.fits 0 _ hy) (Tp h.mem) h.bk.aig.pv
 have hwg:=h.bk.aig.wg
 obtain ⟨_,_,_,hlv,hdw,hd4⟩:=hwg
 have heq:=h.bk.aig.eq
 have aT4:(cnt D gs.size).jP=0:=by omega
 have ah3:∀ a k j T,D a ≠ .wk k j T:=λ a k j T e=>by
  have ha:a < gs.size:=by
   apply Classical.byContradiction
   intro hn
   rw [h.bk.out a (by omega)] at e; cases e
  have hle:=FJ (D:=D) ha
  rw [e] at hle
  have hq:T ≠ .quit:=λ e'=>by
   have:=(h.bk.ns a k j T e).2.1
   subst e'; exact this
  have e1:=hle.lv
  have e2:=hle.dw
  have e3:=hle.d4
  simp only [cA] at e1 e2 e3
  cases T <;> simp only [cW,Cn.busy,Cn.zero] at e1 e2 e3 <;> first | omega | skip
  case a1 b=>cases b <;> simp only [nF,if_false,if_true] at e1 <;> omega
  case quit=>exact hq rfl
 have TO:∀ a,a≠0→D a = .no:=λ a ha=>by
  cases hd:D a with
  | no=>rfl
  | wk k j T=>exact absurd hd (ah3 a k j T)
  | mn T=>exact absurd (h.bk.main a T hd) ha
 have hhl:(cnt D gs.size).hl=0:=by
  have:∀ n,de n (λ a=>(cA (D a)).hl)=0:=λ n=>by
   have e:de n (λ a=>(cA (D a)).hl)=de n (λ _=>0):=MV λ a _=>by
    by_cases ha:a=0
    ·subst ha; rw [h.bk.d0]; rfl
    ·rw [TO a ha]; rfl
   rw [e]
   have hz:∀ n,de n (λ _=>0)=0:=by intro n; induction n with | zero=>rfl | succ n ih=>simp only [de,ih]
   exact hz n
  exact this _
 have YH:th=only ⟨R,H⟩:=by
  funext a
  unfold only
  split
  ·rename_i e; subst e; exact hy
  ·rename_i e
   rcases Nat.lt_or_ge a gs.size with hl | hg
   ·have:=h.yd a _ (qG hl)
    rw [TO a e] at this
    exact this.1
   ·exact (h.out a hg).1
 have iH:∀ k,k < F.N→js k=F.J:=λ k hk=>by
  rcases h.bk.done k (by simpa [rem] using hk) with z | ⟨a,j,T,z⟩
  ·exact z
  ·exact absurd z (ah3 a k j T)
 have q6:dd 0=0:=by rw [j6]; rfl
 have hm:=h.mem.put nc
 have ht:=h.tr
 rw [hhl,YH] at hm ht
 have C6:F.bo < w.heap.size:=by rw [← nc.size]; exact lP (hm.om F.bo (F.cont js) (by simp [gV]))
 have ng:=cY.aKS (b:=F.bo) (o:=F.cont js) (y:=⟨0,g.frame.fn,g.frame.place,.mark (.acquire (aw F))⟩) ht C6 rfl rfl q6 dq (Qq h.mem)
 rw [← nc.size,← Mw] at ng
 have ix:=fA.take (hl':=1) hm (i:=0) rfl (by omega)
 rw [QZ] at ix
 have hr:∀ sl,runT F.P (crowd gs w sl) 0=(.next (crowd ((gs.map (Conc.woken F.P g g' w')).setIfInBounds 0 g') w' sl),MemOp.ofEvents 0 g.frame.fn g.frame.place (said (.acquire (aw F)))):=λ sl=>runT_crowd_go hi (show stepG F.P (0 == 0) g w=_ from cU)
 have fX:((gs.map (Conc.woken F.P g g' w')).setIfInBounds 0 g').size=gs.size:=by simp
 refine ⟨_,g',w',_,λ a=>match m a with | some T=>Classical.epsilon λ q=>m a=some (sx q)∧∀ x,gs[a]? = some x→QuitsD F.P q (dd a) x | none=>0,dd,R,(F.bo,F.cont js)::H,hr,uE (by simpa using bK),tu js iH,⟨⟨ix.fits,ix.apart,λ c o hc=>(by cases hc),λ c o hc=>(by cases hc)⟩,ng,q6,λ a ha=>(h.out a (by simpa using ha)).2.2,λ a x ha hx=>?_⟩⟩
 rw [mW (by omega),Array.getElem?_map] at hx
 obtain ⟨z,hz,rfl⟩:=Option.map_eq_some_iff.1 hx
 have hs:=h.yd a z hz
 rw [TO a (by omega)] at hs
 obtain ⟨_,_,q,hq,hQ⟩:=hs
 rw [woken_quitsD hQ]
 have hex:∃ q,m a=some (sx q)∧∀ x,gs[a]? = some x→QuitsD F.P q (dd a) x:=⟨q,hq,λ x hx=>by rw [hz] at hx; cases hx; exact hQ⟩
 have:=(Classical.epsilon_spec hex).2 z hz
 simp only [hq] at this ⊢
 exact this
def Ry(m:Nat→Ms)(gs:Array Goroutine):Nat:=de gs.size λ a=>if (m a).isNone∧(gs[a]?.map (·.status))=some .running then 1 else 0
def IF(a b:Nat × List Ms × Nat):Prop:=a.1 < b.1∨(a.1=b.1∧(One pN a.2.1 b.2.1∨(a.2.1=b.2.1∧a.2.2 < b.2.2)))
theorem IF.wf:WellFounded IF:=by
 have key:∀ p l r,Acc IF (p,l,r):=by
  intro p
  induction p using Nat.strongRecOn with
  | ind p ihp =>
   intro l
   induction l using One.wf.induction with
   | _ l Z2 =>
    intro r
    induction r using Nat.strongRecOn with
    | ind r ihr =>
     refine ⟨_,λ y hy=>?_⟩
     obtain ⟨q,l',r'⟩:=y
     rcases hy with h | ⟨h1,h2 | ⟨h2,h3⟩⟩
     ·exact ihp q h l' r'
     ·simp only at h1; subst h1; exact Z2 l' h2 r'
     ·simp only at h1 h2; subst h1 h2; exact ihr r' h3
 exact ⟨λ ⟨p,l,r⟩=>key p l r⟩
def Hg(F:Fx)(Q:Nat)(D:Nat→Ab)(m:Nat→Ms)(s:Sh)(gs:Array Goroutine):Nat × List Ms × Nat:=(MM F Q D s gs.size,(List.range gs.size).map m,Ry m gs)
theorem aaK{m:Nat→Ms}{n i:Nat}{a b:Ms}(hi:i < n)(hb:m i=b)(hl:pN a b):One pN ((List.range n).map (mN m i a)) ((List.range n).map m):=by
 have e:(List.range n).map (mN m i a)=((List.range n).map m).set i a:=by
  apply List.ext_getElem?
  intro j
  rw [List.getElem?_set]
  by_cases hj:i=j
  ·subst hj; simp [hi,MW]
  ·simp only [hj,if_false,List.getElem?_map]
   cases hr:(List.range n)[j]? with
   | none=>rfl
   | some k =>
    have hk:k=j:=by
     obtain ⟨_,h2⟩:=iC.1 hr
     simpa using h2.symm
    subst hk
    simp [HT (Ne.symm hj)]
 rw [e]
 exact One.set (by simp [hi,hb]) hl
end
theorem abz{f:Nat→Nat}:∀ {n:Nat},0 < de n f→∃ i,i < n∧0 < f i
 | n+1,h=>by
  simp only [de] at h
  rcases Nat.eq_zero_or_pos (f n) with hz | hp
  ·obtain ⟨i,hi,h2⟩:=abz (n:=n) (f:=f) (by omega)
   exact ⟨i,by omega,h2⟩
  ·exact ⟨n,by omega,hp⟩
section
variable {F:Fx} {Post:Value→World→Prop} {Q:Nat} {T0:Mp} {D:Nat→Ab} {m:Nat→Ms} {js:Nat→Nat} {s s':Sh} {th:Nat→Option Th} {mu:Nat→Bool} {dd:Nat→Nat} {gs:Array Goroutine} {w w':World} {t:Trace} {sl:Option (Nat × Nat)} {i k j:Nat} {g g':Goroutine}
theorem MI.look(h:MI F Q T0 D m js s th mu dd gs w t)(hi:gs[i]? = some g):(g.status = .running)∨(g.status = .finished∧D i = .no)∨(g.status = .blocked∧m i=none∧((∃ k j c,D i = .wk k j (.s1 c)∧s.ms=0)∨(D i = .mn .w3∧s.ws=0))) :=
 (h.yd i g hi).look h.bk.tM (h.ns i)
theorem MI.awake(h:MI F Q T0 D m js s th mu dd gs w t):∀ x∈gs,awake x:=by
 intro x hx
 obtain ⟨i,hi,rfl⟩:=Array.mem_iff_getElem.1 hx
 rcases h.look (qG hi) with e | ⟨e,_⟩ | ⟨e,_⟩
 ·exact awake_of (.inl e)
 ·exact awake_of (.inr (.inr e))
 ·exact awake_of (.inr (.inl e))
theorem MI.ai5(h:MI F Q T0 D m js s th mu dd gs w t):∃ (i:Nat) (g:Goroutine),gs[i]? = some g∧g.status = .running:=by
 apply Classical.byContradiction
 intro Db
 have wkr:∀ i,i < gs.size→∀ k j T,D i = .wk k j T→∃ c,T = .s1 c∧s.ms=0:=λ i hi k j T hd=>by
  rcases h.look (qG hi) with e | ⟨_,e⟩ | ⟨_,_,⟨k',j',c,e,hz⟩ | ⟨e,_⟩⟩
  ·exact absurd ⟨i,_,qG hi,e⟩ Db
  ·rw [hd] at e; cases e
  ·rw [hd] at e; cases e; exact ⟨c,rfl,hz⟩
  ·rw [hd] at e; cases e
 have vH:∀ f:Cn→Nat,f .zero=0→(∀ c,f (cW (.s1 c))=0)→de gs.size (λ i=>f (cA (D i)))=0:=λ f h0 h1=>by
  apply Classical.byContradiction
  intro hp
  obtain ⟨i,hi,vg⟩:=abz (n:=gs.size) (f:=λ i=>f (cA (D i))) (by omega)
  cases hd:D i with
  | no=>rw [hd] at vg; simp only [cA] at vg; omega
  | mn T=>rw [hd] at vg; simp only [cA] at vg; omega
  | wk k j T =>
   obtain ⟨c,rfl,_⟩:=wkr i hi k j T hd
   rw [hd] at vg; simp only [cA,h1] at vg; omega
 have hw3:T0 = .w3∧s.ws=0:=by
  have hi:=qG h.bk.pos
  rcases h.look hi with e | ⟨_,e⟩ | ⟨_,_,⟨k',j',c,e,hz⟩ | ⟨e,hz⟩⟩
  ·exact absurd ⟨0,_,hi,e⟩ Db
  ·rw [h.bk.d0] at e; cases e
  ·rw [h.bk.d0] at e; cases e
  ·rw [h.bk.d0] at e; cases e; exact ⟨rfl,hz⟩
 obtain ⟨rfl,kK⟩:=hw3
 have hdw:(cnt D gs.size).dw=0:=vH (·.dw) rfl λ _=>rfl
 have hd4:(cnt D gs.size).d4=0:=vH (·.d4) rfl λ _=>rfl
 have mD:(cnt D gs.size).ow=0:=vH (·.ow) rfl λ _=>rfl
 have hhl:(cnt D gs.size).hl=0:=vH (·.hl) rfl λ _=>rfl
 have hpu:(cnt D gs.size).pu=0:=vH (·.pu) rfl λ _=>rfl
 have hpc:(cnt D gs.size).pc=0:=vH (·.pc) rfl λ _=>rfl
 have JR:(cnt D gs.size).al=0:=vH (·.al) rfl λ _=>rfl
 have ha1:(cnt D gs.size).a1=0:=vH (·.a1) rfl λ _=>rfl
 have hak:(cnt D gs.size).ak=0:=vH (·.ak) rfl λ _=>rfl
 have hux:(cnt D gs.size).ux=0:=vH (·.ux) rfl λ _=>rfl
 have hwk:(cnt D gs.size).wk=0:=vH (·.wk) rfl λ _=>rfl
 have hlv:0 < (cnt D gs.size).lv:=by
  rcases h.bk.aig.wg with ⟨_,_,_,h4,⟨_,h6⟩ | ⟨h5,_⟩⟩ | ⟨_,_,_,_,h5⟩
  ·omega
  ·omega
  ·omega
 have heq:=h.bk.aig.eq
 unfold Cn.jP at heq
 have hz:0 < (cnt D gs.size).z:=by omega
 obtain ⟨i,hi,vg⟩:=abz (n:=gs.size) (f:=λ i=>(cA (D i)).z) hz
 have F4:s.ms=0:=by
  cases hd:D i with
  | no=>rw [hd] at vg; simp [cA,Cn.zero] at vg
  | mn T=>rw [hd] at vg; simp [cA,Cn.zero] at vg
  | wk k j T=>exact (wkr i hi k j T hd).choose_spec.2
 have a1:=h.bk.s9.ow
 have a2:=h.bk.s9.md
 have a3:=h.bk.s9.i4
 omega
theorem aGK{gs:Array Goroutine}{g:Goroutine}{w:World}:gs.map (Conc.woken F.P g { g with status:=.blocked } w)=gs:=by
 have:Conc.woken F.P g { g with status:=.blocked } w=id:=by funext o; simp [Conc.woken]
 rw [this,Array.map_id]
theorem MI.ghost(h:MI F Q T0 D m js s th mu dd gs w t)(hi:gs[i]? = some g){m':Ms}{x:Th}{R:az}{H:ah}(YH:th i=some ⟨R,H⟩)(hu:gf F.B R H w x.R x.H w)(hs:qJ F (MM F Q D s gs.size) s i m' (some x) (mu i) (dd i) g (D i)) :
  MI F Q T0 D (mN m i m') js s (gp th i (some x)) mu dd gs w t:=by
 obtain ⟨hm,ht⟩:=afB h.mem (Ja F s js _) (I9 F s js _) h.tr YH hu
 have bK:=DZ hi
 refine ⟨hm,ht,λ a y ha=>?_,λ a ha=>?_,h.bk⟩
 ·by_cases e:a=i
  ·subst e
   rw [hi] at ha; cases ha
   rw [MW,fv]; exact hs
  ·rw [HT e,eC e]; exact h.yd a y ha
 ·rw [eC (by omega)]; exact h.out a ha
theorem MI.aH4(tu:F.mj=jg F.P F.B Post):∀ (μ:Nat × List Ms × Nat) (gs:Array Goroutine) (w:World) (sl:Option (Nat × Nat)) (t:Trace) (T0:Mp) (D:Nat→Ab) (m:Nat→Ms) (js:Nat→Nat) (s:Sh) (th:Nat→Option Th) (mu:Nat→Bool) (dd:Nat→Nat),
  MI F Q T0 D m js s th mu dd gs w t→Hg F Q D m s gs=μ→∀ i g,gs[i]? = some g→g.status = .running→∀ m0,stepT F.P m0=runT F.P (crowd gs w sl) i→lF F.P Post m0 t:=by
 intro μ
 induction μ using IF.wf.induction with
 | _ μ ih =>
  intro gs w sl t T0 D m js s th mu dd h ZY i g hi kJ m0 F3
  subst ZY
  have bK:=DZ hi
  have next:∀ (iU:Array Goroutine) (w':World) (rq:Option (Nat × Nat)) (t':Trace) (jh:Mp) (D':Nat→Ab) (m':Nat→Ms) (iX:Nat→Nat) (s':Sh) (jO:Nat→Option Th) (mu':Nat→Bool) (dd':Nat→Nat),MI F Q jh D' m' iX s' jO mu' dd' iU w' t' →
    IF (Hg F Q D' m' s' iU) (Hg F Q D m s gs)→lF F.P Post (crowd iU w' rq) t':=by
   intro iU w' rq t' jh D' m' iX s' jO mu' dd' h' hl
   obtain ⟨a,ga,d,abl,ha,Dh,cU⟩:=crowd_pick (P:=F.P) (gs:=iU) (w:=w') (sl:=rq) h'.awake h'.ai5
   exact ih _ hl iU (w'.at d) abl t' jh D' m' iX s' jO mu' dd' (h'.at d) rfl a ga ha Dh _ cU
  have hs:=h.yd i g hi
  have go:∀ (m':Ms) (x:Option Th) (d':Nat) (g':Goroutine) (w':World) (es:Array Event),stepG F.P (i == 0) g w = .go g' w' es→fA F.B (gp th i x) (gV F s js (cnt D gs.size).hl) w' →
    cY (some (am F)) (some (aw F)) (gp th i x) mu (gG dd i d') [F.bm,F.bw] (qV F (cnt D gs.size).hl) w'.heap.size (t++MemOp.ofEvents i g.frame.fn g.frame.place es) →
    qJ F (MM F Q D s gs.size) s i m' x (mu i) d' g' (D i)→(pN m' (m i)∨(m'=m i∧m i=none∧g'={ g with status:=.blocked }))→lF F.P Post m0 t:=by
   intro m' x d' g' w' es cU hm ht Xq F4
   have hr:=runT_crowd_go (P:=F.P) (sl:=sl) hi cU
   have hP:=h.still hi (m':=m') (jO:=gp th i x) (dd':=gG dd i d') (g':=g') (w':=w') hm ht (by rw [fv,uj]; exact Xq) (λ a ha=>⟨eC ha,ui ha⟩)
   refine lF.step (F3.trans hr) (next _ _ _ _ _ _ _ _ _ _ _ _ hP ?_)
   have fX:((gs.map (Conc.woken F.P g g' w')).setIfInBounds i g').size=gs.size:=by simp
   unfold Hg
   rw [fX]
   rcases F4 with hl | ⟨e1,e2,e3⟩
   ·exact .inr ⟨rfl,.inl (aaK bK rfl hl)⟩
   ·subst e3
    have em:mN m i m'=m:=by funext a; unfold mN; split <;> simp [*]
    refine .inr ⟨rfl,.inr ⟨by rw [em],?_⟩⟩
    show Ry _ _ < Ry _ _
    rw [em]
    unfold Ry
    rw [fX,aGK]
    have:=EM (f:=λ a=>if (m a).isNone∧(gs[a]?.map (·.status))=some .running then 1 else 0) (g:=λ a=>if (m a).isNone∧(((gs.setIfInBounds i { g with status:=.blocked })[a]?).map (·.status))=some .running then 1 else 0) bK (λ a ha=>by
     simp only [mW (Ne.symm ha)])
    simp only [e2,hi,Option.isNone_none,Option.map_some,kJ,true_and,if_true,uE bK] at this
    simp at this
    simp
    omega
  have B0:∀ x,th i=x→gp th i x=th:=λ x hx=>EP hx
  have nx:(∃ iU w' ops D' m' iX s' jO mu' dd',(∀ sl,runT F.P (crowd gs w sl) i=(.next (crowd iU w' sl),ops))∧iU.size=gs.size∧MI F Q T0 D' m' iX s' jO mu' dd' iU w' (t++ops)∧MM F Q D' s' iU.size < MM F Q D s gs.size)→lF F.P Post m0 t:=by
   rintro ⟨iU,w',ops,D',m',iX,s',jO,mu',dd',hr,_,hP,hl⟩
   exact lF.step (F3.trans (hr sl)) (next _ _ _ _ _ _ _ _ _ _ _ _ hP (.inl hl))
  cases hd:D i with
  | no =>
   rw [hd] at hs
   obtain ⟨hn,jv,q,hq,hQ⟩:=hs
   have yO:(i == 0)=false:=by simp; omega
   cases q with
   | zero=>rw [hQ.1] at kJ; cases kJ
   | succ q =>
    rcases hQ with e | ⟨_,g',es,ox,cU,hQ⟩
    ·rw [e.1] at kJ; cases kJ
    ·refine go (some (sx q)) none (deafBehind (dd i) es) g' w es (by rw [yO]; exact cU w) ?_ ?_ ?_ (.inl (by rw [hq]; exact ahZ q))
     ·rw [B0 _ hn]; exact h.mem
     ·rw [B0 _ hn]; exact h.tr.leaves ox
     ·rw [hd]; exact ⟨rfl,jv,q,rfl,hQ⟩
  | wk k j T =>
   rw [hd] at hs
   obtain ⟨jv,j6,dq,y,n,hy,hn,hs⟩:=hs
   have yO:(i == 0)=false:=by simp; omega
   have stop:KW F n k j T y.R y.H g→lF F.P Post m0 t:=by
    intro hK
    rcases h.work hi hd hy hn hK with ⟨⟨c,rfl⟩,hz,cU⟩ | hN
    ·refine go none (some y) (dd i) _ w #[] (by rw [yO]; exact cU) ?_ ?_ ?_ ?_
     ·rw [B0 _ hy]; exact h.mem
     ·rw [B0 _ hy,mO,ofEvents_none,Array.append_empty]; exact h.tr
     ·rw [hd]
      have ho:=h.ns i k j _ hd
      have hp:=h.bk.tM
      exact ⟨jv,j6,dq,y,n,rfl,hn,by rw [if_neg (by simp [kq])]; exact .inr ⟨rfl,⟨c,rfl⟩,g,hK,kJ,(KW.run hK (by omega) ho).2,.inr ⟨rfl,hz⟩⟩⟩
     ·cases hmi:m i with
      | none=>exact .inr ⟨rfl,rfl,rfl⟩
      | some T'=>exact .inl .none
    ·exact nx hN
   by_cases F5:kq T=true
   ·rw [if_pos F5] at hs
    obtain ⟨q,hq,hQ⟩:=hs
    cases q with
    | zero=>exact stop hQ
    | succ q =>
     rcases hQ with hK | ⟨_,g',cU,hQ⟩
     ·exact stop hK
     ·refine go (some (sx q)) (some y) (dd i) g' w #[] (by rw [yO]; exact cU w) ?_ ?_ ?_ (.inl (by rw [hq]; exact ahZ q))
      ·rw [B0 _ hy]; exact h.mem
      ·rw [B0 _ hy,mO,ofEvents_none,Array.append_empty]; exact h.tr
      ·rw [hd]; exact ⟨jv,j6,dq,y,n,rfl,hn,by rw [if_pos F5]; exact ⟨q,rfl,hQ⟩⟩
   ·rw [if_neg F5] at hs
    have hmf:mu i=false:=by rw [dq]; simpa using F5
    rcases hs with ⟨Tr,JQ,hO⟩ | ⟨hm,⟨c,rfl⟩,g0,hK,hr0,oy,hg⟩
    ·obtain ⟨ι,f⟩:=Tr
     obtain ⟨R,H⟩:=y
     rcases hO with hK | ⟨_,cU⟩ | ⟨R',H',a,Wz,hO⟩
     ·exact stop hK
     ·obtain ⟨g',w',es,R',H',a,h1,h2,h3,h4⟩:=cU w (h.mem.fits i _ hy)
      obtain ⟨hm,ht⟩:=MA h.mem (Ja F s js _) (I9 F s js _) h.tr hy (.inl hmf) h2 (.inl hmf) h3 g.frame.fn g.frame.place
      refine go (some (f a)) (some ⟨R',H'⟩) (dd i) g' w' es (by rw [yO]; exact h1) hm (by rw [mO]; exact ht) ?_ (.inl (by rw [JQ]; exact .some (.mk f a)))
      rw [hd]; exact ⟨jv,j6,dq,_,n,rfl,hn,by rw [if_neg F5]; exact .inl ⟨f a,rfl,h4⟩⟩
     ·have hP:=h.ghost (x:=⟨R',H'⟩) (m':=some (f a)) hi hy (Wz w (h.mem.fits i _ hy)) (by rw [hd]; exact ⟨jv,j6,dq,_,n,rfl,hn,by rw [if_neg F5]; exact .inl ⟨f a,rfl,hO⟩⟩)
      exact ih (Hg F Q D (mN m i (some (f a))) s gs) (.inr ⟨rfl,.inl (aaK bK JQ (.some (.mk f a)))⟩) gs w sl t _ _ _ _ _ _ _ _ hP rfl i g hi kJ m0 F3
    ·rcases hg with rfl | ⟨rfl,_⟩
     ·exact stop hK
     ·cases kJ
  | mn T =>
   have h0:i=0:=h.bk.main i T hd
   subst h0
   have Bc:T=T0:=by have:=h.bk.d0; rw [hd] at this; cases this; rfl
   subst Bc
   rw [hd] at hs
   obtain ⟨_,j6,dq,y,n,hy,hn,hs⟩:=hs
   have stop:KM F n T y.R y.H g→lF F.P Post m0 t:=by
    intro hK
    by_cases hwq:T = .wq
    ·subst hwq
     obtain ⟨iU,g',w',ops,q,dd',R',H',hr,Wy,hJ,hA⟩:=h.aJR hi hy hn hK
     rw [tu] at hJ
     exact lF.step (F3.trans (hr sl)) (hJ iU w' sl _ q dd' Wy hA)
    ·rcases h.main hi hy hn hK hwq with ⟨rfl,hz,cU⟩ | ⟨jh,iU,w',ops,D',m',iX,s',jO,mu',dd',hr,hP,hl⟩
     ·refine go none (some y) (dd 0) _ w #[] cU ?_ ?_ ?_ ?_
      ·rw [B0 _ hy]; exact h.mem
      ·rw [B0 _ hy,mO,ofEvents_none,Array.append_empty]; exact h.tr
      ·rw [hd]
       have hp:=h.bk.tM
       exact ⟨rfl,j6,dq,y,n,rfl,hn,.inr ⟨rfl,rfl,g,hK,kJ,(KM.run hK (by omega)).2,.inr ⟨rfl,hz⟩⟩⟩
      ·cases hmi:m 0 with
       | none=>exact .inr ⟨rfl,rfl,rfl⟩
       | some T'=>exact .inl .none
     ·exact lF.step (F3.trans (hr sl)) (next _ _ _ _ _ _ _ _ _ _ _ _ hP (.inl hl))
   rcases hs with ⟨Tr,JQ,hO⟩ | ⟨hm,rfl,g0,hK,hr0,oy,hg⟩
   ·obtain ⟨ι,f⟩:=Tr
    obtain ⟨R,H⟩:=y
    rcases hO with hK | ⟨_,cU⟩ | ⟨R',H',a,Wz,hO⟩
    ·exact stop hK
    ·obtain ⟨g',w',es,R',H',a,h1,h2,h3,h4⟩:=cU w (h.mem.fits 0 _ hy)
     obtain ⟨hm,ht⟩:=MA h.mem (Ja F s js _) (I9 F s js _) h.tr hy (.inl dq) h2 (.inl dq) h3 g.frame.fn g.frame.place
     refine go (some (f a)) (some ⟨R',H'⟩) (dd 0) g' w' es h1 hm (by rw [mO]; exact ht) ?_ (.inl (by rw [JQ]; exact .some (.mk f a)))
     rw [hd]; exact ⟨rfl,j6,dq,_,n,rfl,hn,.inl ⟨f a,rfl,h4⟩⟩
    ·have hP:=h.ghost (x:=⟨R',H'⟩) (m':=some (f a)) hi hy (Wz w (h.mem.fits 0 _ hy)) (by rw [hd]; exact ⟨rfl,j6,dq,_,n,rfl,hn,.inl ⟨f a,rfl,hO⟩⟩)
     exact ih (Hg F Q D (mN m 0 (some (f a))) s gs) (.inr ⟨rfl,.inl (aaK bK JQ (.some (.mk f a)))⟩) gs w sl t _ _ _ _ _ _ _ _ hP rfl 0 g hi kJ m0 F3
   ·rcases hg with rfl | ⟨rfl,_⟩
    ·exact stop hK
    ·cases kJ
theorem MI.runs(tu:F.mj=jg F.P F.B Post)(h:MI F Q T0 D m js s th mu dd gs w t):lF F.P Post (crowd gs w sl) t:=by
 obtain ⟨a,ga,d,abl,ha,Dh,cU⟩:=crowd_pick (P:=F.P) (gs:=gs) (w:=w) (sl:=sl) h.awake h.ai5
 exact MI.aH4 tu _ gs (w.at d) abl t T0 D m js s th mu dd (h.at d) rfl a ga ha Dh _ cU
end
end Go.Lg
