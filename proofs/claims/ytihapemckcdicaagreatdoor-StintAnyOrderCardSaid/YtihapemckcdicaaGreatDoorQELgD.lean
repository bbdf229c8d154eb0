/- A mutex that any number of goroutines share; the machine of workers behind a mutex and a wait group: it runs to its end. Conditions: none. -/
import Derived.Test.YtihapemckcdicaaGreatDoorQELgB
import Derived.Conc.MarkLaws
namespace Go.Lg
structure Wd where
 l:Nat
 w:Nat
 s:Nat
 n:Nat
 deriving DecidableEq
def Wd.val(m:Wd):Int:=m.l+2 * m.w+4 * m.s+8 * m.n
def Wd.ok(N:Nat)(m:Wd):Prop:=m.l≤1∧m.w≤1∧m.s≤1∧m.n≤N
def Wd.zero:Wd:=⟨0,0,0,0⟩
theorem Wd.val_inj{N N':Nat}{a b:Wd}(ha:a.ok N)(hb:b.ok N')(h:a.val=b.val):a=b:=by
 obtain ⟨l,w,s,n⟩:=a
 obtain ⟨l',w',s',n'⟩:=b
 simp only [Wd.ok,Wd.val,Wd.mk.injEq] at *
 omega
structure Sh where
 mu:Wd
 ms:Nat
 v:Nat
 w:Nat
 ws:Nat
structure Lc where
 old:Wd
 aw:Bool
 sv:Bool
 it:Nat
 ws:Bool
inductive Lp
 | ld | l0 | r0 | sq (c:Lc) | c1 (c:Lc) | r1 (c:Lc) | c2 (c:Lc) | r3 (c:Lc) | t1 (c:Lc) | s1 (c:Lc) | t2 (c:Lc) | r2 (c:Lc) | a1 (keep:Bool)
 | le | lc | la | ul (js:Nat→Nat) | uv (js:Nat→Nat) | ur (js:Nat→Nat) | ud | u0 | uc (old:Wd) | ux | us | ue
 | wv | wr | wk | d1 | d2 | d3 | d4 | quit
def hd(c:Lc):Lp:=if c.old.l=1∧c.old.s=0 then .sq c else .c2 c
def nw(c:Lc):Wd:={ l:=if c.old.s=0 then 1 else c.old.l,w:=if c.aw then 0 else c.old.w,s:=if c.sv∧c.old.l=1 then 1 else c.old.s,n:=if c.old.l=1∨c.old.s=1 then c.old.n+1 else c.old.n }
def hu(m:Wd):Lp:=if m.n=0∨m.l=1∨m.w=1∨m.s=1 then .ue else .uc m
def jx(c:Lc):Lp:=if c.aw=false∧c.old.w=0∧c.old.n≠0 then .c1 c else .r1 c
inductive di:Lp→Sh→Lp→Sh→Prop
 | ld {s}:di .ld s .l0 s
 | adF {s}:s.mu = .zero→di .l0 s .le { s with mu:=⟨1,0,0,0⟩ }
 | adE {s}:s.mu ≠ .zero→di .l0 s .r0 s
 | r0 {s}:di .r0 s (hd ⟨s.mu,false,false,0,false⟩) s
 | O4 {s c}:di (.sq c) s (.c2 c) s
 | yL {s c}:c.it < 4→di (.sq c) s (jx c) s
 | Sw {s c}:s.mu=c.old→di (.c1 c) s (.r1 { c with aw:=true }) { s with mu:={ c.old with w:=1 } }
 | Sv {s c}:s.mu≠c.old→di (.c1 c) s (.r1 c) s
 | r1 {s c}:di (.r1 c) s (hd { c with old:=s.mu,it:=c.it+1 }) s
 | SA {s c}:s.mu=c.old→c.old.l=0→c.old.s=0→di (.c2 c) s .le { s with mu:=nw c }
 | xF {s c}:s.mu=c.old→(c.old.l=1∨c.old.s=1)→di (.c2 c) s (if c.ws then .s1 c else .t1 c) { s with mu:=nw c }
 | SB {s c}:s.mu≠c.old→di (.c2 c) s (.r3 c) s
 | r3 {s c}:di (.r3 c) s (hd { c with old:=s.mu }) s
 | t1 {s c} (b:Bool):di (.t1 c) s (.s1 { c with ws:=b }) s
 | s1 {s c m}:s.ms=m+1→di (.s1 c) s (if c.sv then .r2 c else .t2 c) { s with ms:=m }
 | t2 {s c} (b:Bool):di (.t2 c) s (.r2 { c with sv:=b }) s
 | K0 {s c}:s.mu.s=1→di (.r2 c) s (.a1 (c.sv && s.mu.n != 1)) s
 | yC {s c}:s.mu.s=0→di (.r2 c) s (hd { c with old:=s.mu,aw:=true,it:=0 }) s
 | a1 {s b}:di (.a1 b) s .le { s with mu:=⟨1,s.mu.w,if b then s.mu.s else 0,s.mu.n - 1⟩ }
 | le {s}:di .le s .lc s
 | lc {s}:di .lc s .la s
 | la {s js}:di .la s (.ul js) s
 | ul {s js}:di (.ul js) s (.uv js) s
 | uv {s js}:di (.uv js) s (.ur js) s
 | ur {s js}:di (.ur js) s .ud s
 | ud {s}:di .ud s .u0 s
 | u0z {s}:s.mu.w=0→s.mu.s=0→s.mu.n=0→di .u0 s .ue { s with mu:={ s.mu with l:=0 } }
 | yM {s}:¬ (s.mu.w=0∧s.mu.s=0∧s.mu.n=0)→s.mu.s=0→di .u0 s (hu { s.mu with l:=0 }) { s with mu:={ s.mu with l:=0 } }
 | u0h {s}:s.mu.s=1→di .u0 s .us { s with mu:={ s.mu with l:=0 } }
 | afC {s m}:s.mu=m→di (.uc m) s .us { s with mu:={ m with w:=1,n:=m.n - 1 } }
 | X1 {s m}:s.mu≠m→di (.uc m) s .ux s
 | ux {s}:di .ux s (hu s.mu) s
 | us {s}:di .us s .ue { s with ms:=s.ms+1 }
 | Pb {s}:di .ue s .ld s
 | Pd {s}:di .ue s .wv s
 | wv {s}:di .wv s .wr s
 | wr {s}:di .wr s .wk s
 | wk {s}:di .wk s .d1 s
 | ID {s}:(s.v≠1∨s.w=0)→di .d1 s .quit { s with v:=s.v - 1 }
 | SP {s}:s.v=1→s.w=1→di .d1 s .d2 { s with v:=0 }
 | d2 {s}:di .d2 s .d3 s
 | d3 {s}:di .d3 s .d4 { s with v:=0,w:=0 }
 | d4 {s}:di .d4 s .quit { s with ws:=s.ws+1 }
structure Cn where
 ow:Nat
 hl:Nat
 pu:Nat
 pc:Nat
 al:Nat
 z:Nat
 a1:Nat
 ak:Nat
 ux:Nat
 wk:Nat
 lv:Nat
 dw:Nat
 d4:Nat
def tW(c:Lc):Nat:=if c.aw then 1 else 0
def Cn.zero:Cn:=⟨0,0,0,0,0,0,0,0,0,0,0,0,0⟩
def Cn.busy:Cn:={ Cn.zero with wk:=1,lv:=1 }
def cW:Lp→Cn
 | .le | .lc | .la | .ud | .u0=>{ Cn.busy with ow:=1 }
 | .ul _ | .uv _ | .ur _=>{ Cn.busy with hl:=1 }
 | .us=>{ Cn.busy with pu:=1 }
 | .t2 _ | .r2 _=>{ Cn.busy with wk:=0,pc:=1 }
 | .a1 b=>if b then { Cn.busy with wk:=0,ak:=1 } else { Cn.busy with wk:=0,a1:=1 }
 | .sq c | .c1 c | .r1 c | .c2 c | .r3 c=>{ Cn.busy with al:=tW c }
 | .t1 _ | .s1 _=>{ Cn.busy with wk:=0,z:=1 }
 | .uc _ | .ux=>{ Cn.busy with ux:=1 }
 | .d2 | .d3=>{ Cn.zero with wk:=1,dw:=1 }
 | .d4=>{ Cn.zero with wk:=1,d4:=1 }
 | .quit=>Cn.zero
 | _=>Cn.busy
structure Cn.zK (c x y c':Cn):Prop where
 ow:c'.ow+x.ow=c.ow+y.ow
 hl:c'.hl+x.hl=c.hl+y.hl
 pu:c'.pu+x.pu=c.pu+y.pu
 pc:c'.pc+x.pc=c.pc+y.pc
 al:c'.al+x.al=c.al+y.al
 z:c'.z+x.z=c.z+y.z
 a1:c'.a1+x.a1=c.a1+y.a1
 ak:c'.ak+x.ak=c.ak+y.ak
 ux:c'.ux+x.ux=c.ux+y.ux
 wk:c'.wk+x.wk=c.wk+y.wk
 lv:c'.lv+x.lv=c.lv+y.lv
 dw:c'.dw+x.dw=c.dw+y.dw
 d4:c'.d4+x.d4=c.d4+y.d4
structure Cn.Le (x c:Cn):Prop where
 ow:x.ow≤c.ow
 hl:x.hl≤c.hl
 pu:x.pu≤c.pu
 pc:x.pc≤c.pc
 al:x.al≤c.al
 z:x.z≤c.z
 a1:x.a1≤c.a1
 ak:x.ak≤c.ak
 ux:x.ux≤c.ux
 wk:x.wk≤c.wk
 lv:x.lv≤c.lv
 dw:x.dw≤c.dw
 d4:x.d4≤c.d4
structure dg (N:Nat) (c:Cn) (s:Sh):Prop where
 l1:s.mu.l≤1
 w1:s.mu.w≤1
 s1:s.mu.w+s.mu.s≤1
 ow:c.ow+c.hl=s.mu.l
 al:c.al≤s.mu.w
 md:((s.mu.s=0∨s.mu.l=1)∧c.pu+c.pc+c.al+s.ms=s.mu.w∧c.a1+c.ak=0∧s.mu.n+c.pu+s.ms=c.z)∨(s.mu.s=1∧s.mu.l=0∧c.pu+c.pc+c.a1+c.ak+c.al+s.ms=1∧s.mu.n=c.z+c.pc+c.a1+c.ak)
 ak:2 * c.ak≤s.mu.n
 sn:s.mu.s=0∨1≤s.mu.n
 i4:s.mu.l=1∨s.mu.w=1∨s.mu.s=1∨s.mu.n=0∨1≤c.ux
 wN:c.wk+c.z+c.pc+c.a1+c.ak≤N
def qK(N:Nat):Lp→Prop
 | .sq c=>c.old.ok N∧c.it≤4∧(c.sv=true→c.aw=true)∧(c.aw=true→c.old.w=1)∧c.old.l=1∧c.old.s=0
 | .c1 c=>c.old.ok N∧c.it < 4∧c.sv=false∧c.aw=false∧c.old.l=1∧c.old.s=0∧c.old.w=0∧c.old.n≠0
 | .r1 c=>c.old.ok N∧c.it < 4∧(c.sv=true→c.aw=true)
 | .c2 c=>c.old.ok N∧c.it≤4∧(c.sv=true→c.aw=true)∧(c.aw=true→c.old.w=1)
 | .r3 c=>c.old.ok N∧c.it≤4∧(c.sv=true→c.aw=true)
 | .t1 c=>c.ws=false
 | .t2 c=>c.sv=false
 | .uc m=>m.ok N∧m.l=0∧m.w=0∧m.s=0∧m.n≠0
 | _=>True
def Dd(N:Nat)(T:Lp)(s:Sh):Prop:=s.mu.ok N∧(match T with
 | .r1 c | .r3 c=>c.aw=true→s.mu.w=1
 | .r2 _=>(s.mu.s=1∧s.mu.l=0∧s.mu.w=0∧s.mu.n≠0)∨(s.mu.s=0∧s.mu.w=1)
 | .a1 b=>s.mu.s=1∧s.mu.l=0∧s.mu.w=0∧s.mu.n≠0∧(b=true→2≤s.mu.n)
 | .u0=>s.mu.l=1
 | .us=>s.ms=0
 | _=>True)
theorem EH{c:Lc}(h:c.aw=true):tW c=1:=by simp [tW,h]
theorem Ik{c:Lc}(h:c.aw=false):tW c=0:=by simp [tW,h]
section
variable {N:Nat} {c c':Cn} {s s':Sh} {T T':Lp}
theorem dg.Dd(h:dg N c s)(hle:(cW T).Le c):Dd N T s:=by
 obtain ⟨h1,h2,h3,h4,h5,h6,h8,h9,IL,IM⟩:=h
 obtain ⟨e1,e2,e3,e4,e5,e6,e7,e8,e9,eK,eL,dN,eM⟩:=hle
 refine ⟨⟨h1,h2,by omega,by omega⟩,?_⟩
 cases T <;> simp only [cW,Cn.busy,Cn.zero] at * <;> first | trivial | skip
 case r1 c=>intro ha; rw [EH ha] at e5; omega
 case r3 c=>intro ha; rw [EH ha] at e5; omega
 case r2 c=>omega
 case a1 b =>
  cases b
  ·simp only [Bool.false_eq_true,if_false] at e7 e8
   exact ⟨by omega,by omega,by omega,by omega,λ hb=>by cases hb⟩
  ·simp only [if_true] at e7 e8
   exact ⟨by omega,by omega,by omega,by omega,λ _=>by omega⟩
 case u0=>omega
 case us=>omega
theorem sF(c:Lc):cW (hd c)={ Cn.busy with al:=tW c }:=by unfold hd; split <;> rfl
theorem SL(c:Lc):cW (jx c)={ Cn.busy with al:=tW c }:=by unfold jx; split <;> rfl
theorem OD{c:Lc}(h1:c.old.ok N)(h2:c.it≤4)(h3:c.sv=true→c.aw=true)(h4:c.aw=true→c.old.w=1):qK N (hd c):=by
 unfold hd; split
 ·exact ⟨h1,h2,h3,h4,by omega,by omega⟩
 ·exact ⟨h1,h2,h3,h4⟩
set_option maxHeartbeats 2000000 in
theorem dg.step(h:dg N c s)(hT:qK N T)(hle:(cW T).Le c)(dq:di T s T' s')(hc:c.zK (cW T) (cW T') c'):dg N c' s'∧qK N T':=by
 have hS:=h.Dd hle
 obtain ⟨h1,h2,h3,h4,h5,h6,h8,h9,IL,IM⟩:=h
 obtain ⟨g1,g2,g3,g4,g5,g6,g7,g8,g9,c6,cB,cC,cD⟩:=hc
 obtain ⟨e1,e2,e3,e4,e5,e6,e7,e8,e9,eK,eL,dN,eM⟩:=hle
 obtain ⟨⟨q1,q2,q3,q4⟩,hS⟩:=hS
 obtain ⟨⟨ml,mw,mz,mn⟩,ms,v,w,ws⟩:=s
 obtain ⟨ow,hl,pu,pc,al',z,a1,ak,ux,wk,lv,dw,d4⟩:=c
 obtain ⟨eg,hl',ek,ej,dZ,z',dX,dY,eu,eC,ee,ed,eb⟩:=c'
 dsimp only at h1 h2 h3 h4 h5 h6 h8 h9 IL IM g1 g2 g3 g4 g5 g6 g7 g8 g9 c6 cB cC cD e1 e2 e3 e4 e5 e6 e7 e8 e9 eK eL dN eM q1 q2 q3 q4 hS
 cases dq with
 | ld =>
  simp only [cW,Cn.busy,Cn.zero] at g1 g2 g3 g4 g5 g6 g7 g8 g9 c6 cB cC cD e1 e2 e3 e4 e5 e6 e7 e8 e9 eK eL dN eM
  exact ⟨(by show dg N ⟨eg,hl',ek,ej,dZ,z',dX,dY,eu,eC,ee,ed,eb⟩ ⟨⟨ml,mw,mz,mn⟩,ms,v,w,ws⟩; constructor <;> dsimp only <;> omega),trivial⟩
 | adF hm =>
  simp only [Wd.zero,Wd.mk.injEq] at hm
  obtain ⟨rfl,rfl,rfl,rfl⟩:=hm
  simp only [cW,Cn.busy,Cn.zero] at g1 g2 g3 g4 g5 g6 g7 g8 g9 c6 cB cC cD e1 e2 e3 e4 e5 e6 e7 e8 e9 eK eL dN eM
  exact ⟨(by show dg N ⟨eg,hl',ek,ej,dZ,z',dX,dY,eu,eC,ee,ed,eb⟩ ⟨⟨1,0,0,0⟩,ms,v,w,ws⟩; constructor <;> dsimp only <;> omega),trivial⟩
 | adE hm =>
  simp only [cW,Cn.busy,Cn.zero] at g1 g2 g3 g4 g5 g6 g7 g8 g9 c6 cB cC cD e1 e2 e3 e4 e5 e6 e7 e8 e9 eK eL dN eM
  exact ⟨(by show dg N ⟨eg,hl',ek,ej,dZ,z',dX,dY,eu,eC,ee,ed,eb⟩ ⟨⟨ml,mw,mz,mn⟩,ms,v,w,ws⟩; constructor <;> dsimp only <;> omega),trivial⟩
 | r0 =>
  simp only [sF] at g1 g2 g3 g4 g5 g6 g7 g8 g9 c6 cB cC cD
  simp only [cW,Cn.busy,Cn.zero] at g1 g2 g3 g4 g5 g6 g7 g8 g9 c6 cB cC cD e1 e2 e3 e4 e5 e6 e7 e8 e9 eK eL dN eM
  rw [Ik rfl] at g5
  exact ⟨(by show dg N ⟨eg,hl',ek,ej,dZ,z',dX,dY,eu,eC,ee,ed,eb⟩ ⟨⟨ml,mw,mz,mn⟩,ms,v,w,ws⟩; constructor <;> dsimp only <;> omega),OD ⟨q1,q2,q3,q4⟩ (by simp) (by simp) (by simp)⟩
 | @O4 _ c =>
  simp only [cW,Cn.busy,Cn.zero] at g1 g2 g3 g4 g5 g6 g7 g8 g9 c6 cB cC cD e1 e2 e3 e4 e5 e6 e7 e8 e9 eK eL dN eM
  exact ⟨(by show dg N ⟨eg,hl',ek,ej,dZ,z',dX,dY,eu,eC,ee,ed,eb⟩ ⟨⟨ml,mw,mz,mn⟩,ms,v,w,ws⟩; constructor <;> dsimp only <;> omega),hT.1,hT.2.1,hT.2.2.1,hT.2.2.2.1⟩
 | @yL _ c hi =>
  obtain ⟨t1,t2,t3,t4,t5,t6⟩:=hT
  simp only [SL] at g1 g2 g3 g4 g5 g6 g7 g8 g9 c6 cB cC cD
  simp only [cW,Cn.busy,Cn.zero] at g1 g2 g3 g4 g5 g6 g7 g8 g9 c6 cB cC cD e1 e2 e3 e4 e5 e6 e7 e8 e9 eK eL dN eM
  refine ⟨(by show dg N ⟨eg,hl',ek,ej,dZ,z',dX,dY,eu,eC,ee,ed,eb⟩ ⟨⟨ml,mw,mz,mn⟩,ms,v,w,ws⟩; constructor <;> dsimp only <;> omega),?_⟩
  unfold jx; split
  ·rename_i hx
   refine ⟨t1,hi,?_,hx.1,t5,t6,hx.2.1,hx.2.2⟩
   cases U5:c.sv with
   | false=>rfl
   | true=>rw [t3 U5] at hx; cases hx.1
  ·exact ⟨t1,hi,t3⟩
 | @Sw _ c hm =>
  obtain ⟨old,aw,sv,it,wz⟩:=c
  cases hm
  obtain ⟨⟨o1,o2,o3,o4⟩,t2,t3,t4,t5,t6,t7,t8⟩:=hT
  simp only at t2 t3 t4 t5 t6 t7 t8
  subst t4
  simp only [cW,Cn.busy,Cn.zero] at g1 g2 g3 g4 g5 g6 g7 g8 g9 c6 cB cC cD e1 e2 e3 e4 e5 e6 e7 e8 e9 eK eL dN eM
  rw [Ik rfl,EH rfl] at g5
  rw [Ik rfl] at e5
  exact ⟨(by show dg N ⟨eg,hl',ek,ej,dZ,z',dX,dY,eu,eC,ee,ed,eb⟩ ⟨⟨ml,1,mz,mn⟩,ms,v,w,ws⟩; constructor <;> dsimp only <;> omega),⟨o1,o2,o3,o4⟩,t2,λ _=>rfl⟩
 | @Sv _ c hm =>
  simp only [cW,Cn.busy,Cn.zero] at g1 g2 g3 g4 g5 g6 g7 g8 g9 c6 cB cC cD e1 e2 e3 e4 e5 e6 e7 e8 e9 eK eL dN eM
  exact ⟨(by show dg N ⟨eg,hl',ek,ej,dZ,z',dX,dY,eu,eC,ee,ed,eb⟩ ⟨⟨ml,mw,mz,mn⟩,ms,v,w,ws⟩; constructor <;> dsimp only <;> omega),hT.1,hT.2.1,λ hx=>by rw [hT.2.2.1] at hx; cases hx⟩
 | @r1 _ c =>
  simp only [sF] at g1 g2 g3 g4 g5 g6 g7 g8 g9 c6 cB cC cD
  simp only [cW,Cn.busy,Cn.zero] at g1 g2 g3 g4 g5 g6 g7 g8 g9 c6 cB cC cD e1 e2 e3 e4 e5 e6 e7 e8 e9 eK eL dN eM
  have ea:tW { c with old:=⟨ml,mw,mz,mn⟩,it:=c.it+1 }=tW c:=rfl
  rw [ea] at g5
  exact ⟨(by show dg N ⟨eg,hl',ek,ej,dZ,z',dX,dY,eu,eC,ee,ed,eb⟩ ⟨⟨ml,mw,mz,mn⟩,ms,v,w,ws⟩; constructor <;> dsimp only <;> omega),OD ⟨q1,q2,q3,q4⟩ (by have:=hT.2.1; simp only; omega) hT.2.2 hS⟩
 | @SA _ c hm hl hs =>
  obtain ⟨old,aw,sv,it,wz⟩:=c
  cases hm
  simp only at hl hs
  subst hl hs
  obtain ⟨⟨o1,o2,o3,o4⟩,t2,t3,t4⟩:=hT
  simp only at t3 t4
  simp only [cW,Cn.busy,Cn.zero] at g1 g2 g3 g4 g5 g6 g7 g8 g9 c6 cB cC cD e1 e2 e3 e4 e5 e6 e7 e8 e9 eK eL dN eM
  have en:nw ⟨⟨0,mw,0,mn⟩,aw,sv,it,wz⟩=⟨1,if aw then 0 else mw,0,mn⟩:=by simp [nw]
  rw [en]
  cases aw
  ·rw [Ik rfl] at g5 e5
   exact ⟨(by show dg N ⟨eg,hl',ek,ej,dZ,z',dX,dY,eu,eC,ee,ed,eb⟩ ⟨⟨1,mw,0,mn⟩,ms,v,w,ws⟩; constructor <;> dsimp only <;> omega),trivial⟩
  ·rw [EH rfl] at g5 e5
   have:=t4 rfl
   exact ⟨(by show dg N ⟨eg,hl',ek,ej,dZ,z',dX,dY,eu,eC,ee,ed,eb⟩ ⟨⟨1,0,0,mn⟩,ms,v,w,ws⟩; constructor <;> dsimp only <;> omega),trivial⟩
 | @xF _ c hm hq =>
  obtain ⟨old,aw,sv,it,wz⟩:=c
  cases hm
  obtain ⟨⟨o1,o2,o3,o4⟩,t2,t3,t4⟩:=hT
  simp only at t3 t4 hq
  have ez:cW (if wz=true then Lp.s1 ⟨⟨ml,mw,mz,mn⟩,aw,sv,it,wz⟩ else Lp.t1 ⟨⟨ml,mw,mz,mn⟩,aw,sv,it,wz⟩)={ Cn.busy with wk:=0,z:=1 }:=by cases wz <;> rfl
  simp only at g1 g2 g3 g4 g5 g6 g7 g8 g9 c6 cB cC cD
  simp only [ez] at g1 g2 g3 g4 g5 g6 g7 g8 g9 c6 cB cC cD
  simp only [cW,Cn.busy,Cn.zero] at g1 g2 g3 g4 g5 g6 g7 g8 g9 c6 cB cC cD e1 e2 e3 e4 e5 e6 e7 e8 e9 eK eL dN eM
  refine ⟨?_,by cases wz <;> first | rfl | trivial⟩
  cases aw
  ·cases sv
   ·rw [Ik rfl] at g5 e5
    by_cases hz:mz=0
    ·subst hz
     have tA:ml=1:=by omega
     subst tA
     have en:nw ⟨⟨1,mw,0,mn⟩,false,false,it,wz⟩=⟨1,mw,0,mn+1⟩:=by simp [nw]
     rw [en]
     exact (by show dg N ⟨eg,hl',ek,ej,dZ,z',dX,dY,eu,eC,ee,ed,eb⟩ ⟨⟨1,mw,0,mn+1⟩,ms,v,w,ws⟩; constructor <;> dsimp only <;> omega)
    ·have Zr:mz=1:=by omega
     subst Zr
     have en:nw ⟨⟨ml,mw,1,mn⟩,false,false,it,wz⟩=⟨ml,mw,1,mn+1⟩:=by simp [nw]
     rw [en]
     exact (by show dg N ⟨eg,hl',ek,ej,dZ,z',dX,dY,eu,eC,ee,ed,eb⟩ ⟨⟨ml,mw,1,mn+1⟩,ms,v,w,ws⟩; constructor <;> dsimp only <;> omega)
   ·exact absurd (t3 rfl) (by simp)
  ·rw [EH rfl] at g5 e5
   have hw:=t4 rfl
   have hz:mz=0:=by omega
   have tA:ml=1:=by omega
   subst hz tA hw
   cases sv
   ·have en:nw ⟨⟨1,1,0,mn⟩,true,false,it,wz⟩=⟨1,0,0,mn+1⟩:=by simp [nw]
    rw [en]
    exact (by show dg N ⟨eg,hl',ek,ej,dZ,z',dX,dY,eu,eC,ee,ed,eb⟩ ⟨⟨1,0,0,mn+1⟩,ms,v,w,ws⟩; constructor <;> dsimp only <;> omega)
   ·have en:nw ⟨⟨1,1,0,mn⟩,true,true,it,wz⟩=⟨1,0,1,mn+1⟩:=by simp [nw]
    rw [en]
    exact (by show dg N ⟨eg,hl',ek,ej,dZ,z',dX,dY,eu,eC,ee,ed,eb⟩ ⟨⟨1,0,1,mn+1⟩,ms,v,w,ws⟩; constructor <;> dsimp only <;> omega)
 | @SB _ c hm =>
  simp only [cW,Cn.busy,Cn.zero] at g1 g2 g3 g4 g5 g6 g7 g8 g9 c6 cB cC cD e1 e2 e3 e4 e5 e6 e7 e8 e9 eK eL dN eM
  exact ⟨(by show dg N ⟨eg,hl',ek,ej,dZ,z',dX,dY,eu,eC,ee,ed,eb⟩ ⟨⟨ml,mw,mz,mn⟩,ms,v,w,ws⟩; constructor <;> dsimp only <;> omega),hT.1,hT.2.1,hT.2.2.1⟩
 | @r3 _ c =>
  simp only [sF] at g1 g2 g3 g4 g5 g6 g7 g8 g9 c6 cB cC cD
  simp only [cW,Cn.busy,Cn.zero] at g1 g2 g3 g4 g5 g6 g7 g8 g9 c6 cB cC cD e1 e2 e3 e4 e5 e6 e7 e8 e9 eK eL dN eM
  have ea:tW { c with old:=⟨ml,mw,mz,mn⟩ }=tW c:=rfl
  rw [ea] at g5
  exact ⟨(by show dg N ⟨eg,hl',ek,ej,dZ,z',dX,dY,eu,eC,ee,ed,eb⟩ ⟨⟨ml,mw,mz,mn⟩,ms,v,w,ws⟩; constructor <;> dsimp only <;> omega),OD ⟨q1,q2,q3,q4⟩ hT.2.1 hT.2.2 hS⟩
 | @t1 _ c b =>
  simp only [cW,Cn.busy,Cn.zero] at g1 g2 g3 g4 g5 g6 g7 g8 g9 c6 cB cC cD e1 e2 e3 e4 e5 e6 e7 e8 e9 eK eL dN eM
  exact ⟨(by show dg N ⟨eg,hl',ek,ej,dZ,z',dX,dY,eu,eC,ee,ed,eb⟩ ⟨⟨ml,mw,mz,mn⟩,ms,v,w,ws⟩; constructor <;> dsimp only <;> omega),trivial⟩
 | @s1 _ c m hm =>
  have ez:cW (if c.sv=true then Lp.r2 c else Lp.t2 c)={ Cn.busy with wk:=0,pc:=1 }:=by cases c.sv <;> rfl
  simp only at hm
  simp only [ez] at g1 g2 g3 g4 g5 g6 g7 g8 g9 c6 cB cC cD
  simp only [cW,Cn.busy,Cn.zero] at g1 g2 g3 g4 g5 g6 g7 g8 g9 c6 cB cC cD e1 e2 e3 e4 e5 e6 e7 e8 e9 eK eL dN eM
  refine ⟨(by show dg N ⟨eg,hl',ek,ej,dZ,z',dX,dY,eu,eC,ee,ed,eb⟩ ⟨⟨ml,mw,mz,mn⟩,m,v,w,ws⟩; constructor <;> dsimp only <;> omega),?_⟩
  cases U5:c.sv with
  | false=>exact U5
  | true=>trivial
 | @t2 _ c b =>
  simp only [cW,Cn.busy,Cn.zero] at g1 g2 g3 g4 g5 g6 g7 g8 g9 c6 cB cC cD e1 e2 e3 e4 e5 e6 e7 e8 e9 eK eL dN eM
  exact ⟨(by show dg N ⟨eg,hl',ek,ej,dZ,z',dX,dY,eu,eC,ee,ed,eb⟩ ⟨⟨ml,mw,mz,mn⟩,ms,v,w,ws⟩; constructor <;> dsimp only <;> omega),trivial⟩
 | @K0 _ c hm =>
  simp only at hm; subst hm
  simp only [cW,Cn.busy,Cn.zero] at g1 g2 g3 g4 g5 g6 g7 g8 g9 c6 cB cC cD e1 e2 e3 e4 e5 e6 e7 e8 e9 eK eL dN eM
  refine ⟨?_,trivial⟩
  cases hb:(c.sv && mn != 1) with
  | false =>
   simp only [hb,Bool.false_eq_true,if_false] at g1 g2 g3 g4 g5 g6 g7 g8 g9 c6 cB cC cD
   exact (by show dg N ⟨eg,hl',ek,ej,dZ,z',dX,dY,eu,eC,ee,ed,eb⟩ ⟨⟨ml,mw,1,mn⟩,ms,v,w,ws⟩; constructor <;> dsimp only <;> omega)
  | true =>
   have hn1:mn≠1:=by simp at hb; exact hb.2
   simp only [hb,if_true] at g1 g2 g3 g4 g5 g6 g7 g8 g9 c6 cB cC cD
   exact (by show dg N ⟨eg,hl',ek,ej,dZ,z',dX,dY,eu,eC,ee,ed,eb⟩ ⟨⟨ml,mw,1,mn⟩,ms,v,w,ws⟩; constructor <;> dsimp only <;> omega)
 | @yC _ c hm =>
  simp only at hm; subst hm
  simp only [sF] at g1 g2 g3 g4 g5 g6 g7 g8 g9 c6 cB cC cD
  simp only [cW,Cn.busy,Cn.zero] at g1 g2 g3 g4 g5 g6 g7 g8 g9 c6 cB cC cD e1 e2 e3 e4 e5 e6 e7 e8 e9 eK eL dN eM
  rw [EH rfl] at g5
  exact ⟨(by show dg N ⟨eg,hl',ek,ej,dZ,z',dX,dY,eu,eC,ee,ed,eb⟩ ⟨⟨ml,mw,0,mn⟩,ms,v,w,ws⟩; constructor <;> dsimp only <;> omega),OD ⟨q1,q2,q3,q4⟩ (by simp) (λ _=>rfl) (λ _=>by simp only; omega)⟩
 | @a1 _ b =>
  obtain ⟨r1,r2,r3,r4,r5⟩:=hS
  subst r1 r2 r3
  simp only [cW,Cn.busy,Cn.zero] at g1 g2 g3 g4 g5 g6 g7 g8 g9 c6 cB cC cD e1 e2 e3 e4 e5 e6 e7 e8 e9 eK eL dN eM
  cases b
  ·simp only [Bool.false_eq_true,if_false] at g1 g2 g3 g4 g5 g6 g7 g8 g9 c6 cB cC cD e1 e2 e3 e4 e5 e6 e7 e8 e9 eK eL dN eM
   exact ⟨(by show dg N ⟨eg,hl',ek,ej,dZ,z',dX,dY,eu,eC,ee,ed,eb⟩ ⟨⟨1,0,0,mn - 1⟩,ms,v,w,ws⟩; constructor <;> dsimp only <;> omega),trivial⟩
  ·simp only [if_true] at g1 g2 g3 g4 g5 g6 g7 g8 g9 c6 cB cC cD e1 e2 e3 e4 e5 e6 e7 e8 e9 eK eL dN eM
   exact ⟨(by show dg N ⟨eg,hl',ek,ej,dZ,z',dX,dY,eu,eC,ee,ed,eb⟩ ⟨⟨1,0,1,mn - 1⟩,ms,v,w,ws⟩; constructor <;> dsimp only <;> omega),trivial⟩
 | le =>
  simp only [cW,Cn.busy,Cn.zero] at g1 g2 g3 g4 g5 g6 g7 g8 g9 c6 cB cC cD e1 e2 e3 e4 e5 e6 e7 e8 e9 eK eL dN eM
  exact ⟨(by show dg N ⟨eg,hl',ek,ej,dZ,z',dX,dY,eu,eC,ee,ed,eb⟩ ⟨⟨ml,mw,mz,mn⟩,ms,v,w,ws⟩; constructor <;> dsimp only <;> omega),trivial⟩
 | lc =>
  simp only [cW,Cn.busy,Cn.zero] at g1 g2 g3 g4 g5 g6 g7 g8 g9 c6 cB cC cD e1 e2 e3 e4 e5 e6 e7 e8 e9 eK eL dN eM
  exact ⟨(by show dg N ⟨eg,hl',ek,ej,dZ,z',dX,dY,eu,eC,ee,ed,eb⟩ ⟨⟨ml,mw,mz,mn⟩,ms,v,w,ws⟩; constructor <;> dsimp only <;> omega),trivial⟩
 | la =>
  simp only [cW,Cn.busy,Cn.zero] at g1 g2 g3 g4 g5 g6 g7 g8 g9 c6 cB cC cD e1 e2 e3 e4 e5 e6 e7 e8 e9 eK eL dN eM
  exact ⟨(by show dg N ⟨eg,hl',ek,ej,dZ,z',dX,dY,eu,eC,ee,ed,eb⟩ ⟨⟨ml,mw,mz,mn⟩,ms,v,w,ws⟩; constructor <;> dsimp only <;> omega),trivial⟩
 | ul =>
  simp only [cW,Cn.busy,Cn.zero] at g1 g2 g3 g4 g5 g6 g7 g8 g9 c6 cB cC cD e1 e2 e3 e4 e5 e6 e7 e8 e9 eK eL dN eM
  exact ⟨(by show dg N ⟨eg,hl',ek,ej,dZ,z',dX,dY,eu,eC,ee,ed,eb⟩ ⟨⟨ml,mw,mz,mn⟩,ms,v,w,ws⟩; constructor <;> dsimp only <;> omega),trivial⟩
 | uv =>
  simp only [cW,Cn.busy,Cn.zero] at g1 g2 g3 g4 g5 g6 g7 g8 g9 c6 cB cC cD e1 e2 e3 e4 e5 e6 e7 e8 e9 eK eL dN eM
  exact ⟨(by show dg N ⟨eg,hl',ek,ej,dZ,z',dX,dY,eu,eC,ee,ed,eb⟩ ⟨⟨ml,mw,mz,mn⟩,ms,v,w,ws⟩; constructor <;> dsimp only <;> omega),trivial⟩
 | ur =>
  simp only [cW,Cn.busy,Cn.zero] at g1 g2 g3 g4 g5 g6 g7 g8 g9 c6 cB cC cD e1 e2 e3 e4 e5 e6 e7 e8 e9 eK eL dN eM
  exact ⟨(by show dg N ⟨eg,hl',ek,ej,dZ,z',dX,dY,eu,eC,ee,ed,eb⟩ ⟨⟨ml,mw,mz,mn⟩,ms,v,w,ws⟩; constructor <;> dsimp only <;> omega),trivial⟩
 | ud =>
  simp only [cW,Cn.busy,Cn.zero] at g1 g2 g3 g4 g5 g6 g7 g8 g9 c6 cB cC cD e1 e2 e3 e4 e5 e6 e7 e8 e9 eK eL dN eM
  exact ⟨(by show dg N ⟨eg,hl',ek,ej,dZ,z',dX,dY,eu,eC,ee,ed,eb⟩ ⟨⟨ml,mw,mz,mn⟩,ms,v,w,ws⟩; constructor <;> dsimp only <;> omega),trivial⟩
 | u0z a b d =>
  simp only at a b d; subst a b d
  simp only [cW,Cn.busy,Cn.zero] at g1 g2 g3 g4 g5 g6 g7 g8 g9 c6 cB cC cD e1 e2 e3 e4 e5 e6 e7 e8 e9 eK eL dN eM
  exact ⟨(by show dg N ⟨eg,hl',ek,ej,dZ,z',dX,dY,eu,eC,ee,ed,eb⟩ ⟨⟨0,0,0,0⟩,ms,v,w,ws⟩; constructor <;> dsimp only <;> omega),trivial⟩
 | yM a b =>
  simp only at a b; subst b
  by_cases hx:mn=0∨(0:Nat)=1∨mw=1∨(0:Nat)=1
  ·have eh:hu ⟨0,mw,0,mn⟩ = .ue:=by simp only [hu,hx,if_true]
   simp only [eh] at g1 g2 g3 g4 g5 g6 g7 g8 g9 c6 cB cC cD
   simp only [cW,Cn.busy,Cn.zero] at g1 g2 g3 g4 g5 g6 g7 g8 g9 c6 cB cC cD e1 e2 e3 e4 e5 e6 e7 e8 e9 eK eL dN eM
   rw [eh]
   exact ⟨(by show dg N ⟨eg,hl',ek,ej,dZ,z',dX,dY,eu,eC,ee,ed,eb⟩ ⟨⟨0,mw,0,mn⟩,ms,v,w,ws⟩; constructor <;> dsimp only <;> omega),trivial⟩
  ·have eh:hu ⟨0,mw,0,mn⟩ = .uc ⟨0,mw,0,mn⟩:=by simp only [hu,hx,if_false]
   simp only [eh] at g1 g2 g3 g4 g5 g6 g7 g8 g9 c6 cB cC cD
   simp only [cW,Cn.busy,Cn.zero] at g1 g2 g3 g4 g5 g6 g7 g8 g9 c6 cB cC cD e1 e2 e3 e4 e5 e6 e7 e8 e9 eK eL dN eM
   rw [eh]
   exact ⟨(by show dg N ⟨eg,hl',ek,ej,dZ,z',dX,dY,eu,eC,ee,ed,eb⟩ ⟨⟨0,mw,0,mn⟩,ms,v,w,ws⟩; constructor <;> dsimp only <;> omega),⟨by simp,q2,by simp,q4⟩,rfl,by simp only; omega,rfl,by simp only; omega⟩
 | u0h a =>
  simp only at a; subst a
  simp only [cW,Cn.busy,Cn.zero] at g1 g2 g3 g4 g5 g6 g7 g8 g9 c6 cB cC cD e1 e2 e3 e4 e5 e6 e7 e8 e9 eK eL dN eM
  exact ⟨(by show dg N ⟨eg,hl',ek,ej,dZ,z',dX,dY,eu,eC,ee,ed,eb⟩ ⟨⟨0,mw,1,mn⟩,ms,v,w,ws⟩; constructor <;> dsimp only <;> omega),trivial⟩
 | afC a =>
  cases a
  obtain ⟨⟨o1,o2,o3,o4⟩,t2,t3,t4,t5⟩:=hT
  simp only at t2 t3 t4 t5
  subst t2 t3 t4
  simp only [cW,Cn.busy,Cn.zero] at g1 g2 g3 g4 g5 g6 g7 g8 g9 c6 cB cC cD e1 e2 e3 e4 e5 e6 e7 e8 e9 eK eL dN eM
  exact ⟨(by show dg N ⟨eg,hl',ek,ej,dZ,z',dX,dY,eu,eC,ee,ed,eb⟩ ⟨⟨0,1,0,mn - 1⟩,ms,v,w,ws⟩; constructor <;> dsimp only <;> omega),trivial⟩
 | X1 a =>
  simp only [cW,Cn.busy,Cn.zero] at g1 g2 g3 g4 g5 g6 g7 g8 g9 c6 cB cC cD e1 e2 e3 e4 e5 e6 e7 e8 e9 eK eL dN eM
  exact ⟨(by show dg N ⟨eg,hl',ek,ej,dZ,z',dX,dY,eu,eC,ee,ed,eb⟩ ⟨⟨ml,mw,mz,mn⟩,ms,v,w,ws⟩; constructor <;> dsimp only <;> omega),trivial⟩
 | ux =>
  by_cases hx:mn=0∨ml=1∨mw=1∨mz=1
  ·have eh:hu ⟨ml,mw,mz,mn⟩ = .ue:=by simp only [hu,hx,if_true]
   simp only [eh] at g1 g2 g3 g4 g5 g6 g7 g8 g9 c6 cB cC cD
   simp only [cW,Cn.busy,Cn.zero] at g1 g2 g3 g4 g5 g6 g7 g8 g9 c6 cB cC cD e1 e2 e3 e4 e5 e6 e7 e8 e9 eK eL dN eM
   rw [eh]
   exact ⟨(by show dg N ⟨eg,hl',ek,ej,dZ,z',dX,dY,eu,eC,ee,ed,eb⟩ ⟨⟨ml,mw,mz,mn⟩,ms,v,w,ws⟩; constructor <;> dsimp only <;> omega),trivial⟩
  ·have eh:hu ⟨ml,mw,mz,mn⟩ = .uc ⟨ml,mw,mz,mn⟩:=by simp only [hu,hx,if_false]
   simp only [eh] at g1 g2 g3 g4 g5 g6 g7 g8 g9 c6 cB cC cD
   simp only [cW,Cn.busy,Cn.zero] at g1 g2 g3 g4 g5 g6 g7 g8 g9 c6 cB cC cD e1 e2 e3 e4 e5 e6 e7 e8 e9 eK eL dN eM
   rw [eh]
   exact ⟨(by show dg N ⟨eg,hl',ek,ej,dZ,z',dX,dY,eu,eC,ee,ed,eb⟩ ⟨⟨ml,mw,mz,mn⟩,ms,v,w,ws⟩; constructor <;> dsimp only <;> omega),⟨q1,q2,q3,q4⟩,by simp only; omega,by simp only; omega,by simp only; omega,by simp only; omega⟩
 | us =>
  simp only [cW,Cn.busy,Cn.zero] at g1 g2 g3 g4 g5 g6 g7 g8 g9 c6 cB cC cD e1 e2 e3 e4 e5 e6 e7 e8 e9 eK eL dN eM
  exact ⟨(by show dg N ⟨eg,hl',ek,ej,dZ,z',dX,dY,eu,eC,ee,ed,eb⟩ ⟨⟨ml,mw,mz,mn⟩,ms+1,v,w,ws⟩; constructor <;> dsimp only <;> omega),trivial⟩
 | Pb =>
  simp only [cW,Cn.busy,Cn.zero] at g1 g2 g3 g4 g5 g6 g7 g8 g9 c6 cB cC cD e1 e2 e3 e4 e5 e6 e7 e8 e9 eK eL dN eM
  exact ⟨(by show dg N ⟨eg,hl',ek,ej,dZ,z',dX,dY,eu,eC,ee,ed,eb⟩ ⟨⟨ml,mw,mz,mn⟩,ms,v,w,ws⟩; constructor <;> dsimp only <;> omega),trivial⟩
 | Pd =>
  simp only [cW,Cn.busy,Cn.zero] at g1 g2 g3 g4 g5 g6 g7 g8 g9 c6 cB cC cD e1 e2 e3 e4 e5 e6 e7 e8 e9 eK eL dN eM
  exact ⟨(by show dg N ⟨eg,hl',ek,ej,dZ,z',dX,dY,eu,eC,ee,ed,eb⟩ ⟨⟨ml,mw,mz,mn⟩,ms,v,w,ws⟩; constructor <;> dsimp only <;> omega),trivial⟩
 | wv =>
  simp only [cW,Cn.busy,Cn.zero] at g1 g2 g3 g4 g5 g6 g7 g8 g9 c6 cB cC cD e1 e2 e3 e4 e5 e6 e7 e8 e9 eK eL dN eM
  exact ⟨(by show dg N ⟨eg,hl',ek,ej,dZ,z',dX,dY,eu,eC,ee,ed,eb⟩ ⟨⟨ml,mw,mz,mn⟩,ms,v,w,ws⟩; constructor <;> dsimp only <;> omega),trivial⟩
 | wr =>
  simp only [cW,Cn.busy,Cn.zero] at g1 g2 g3 g4 g5 g6 g7 g8 g9 c6 cB cC cD e1 e2 e3 e4 e5 e6 e7 e8 e9 eK eL dN eM
  exact ⟨(by show dg N ⟨eg,hl',ek,ej,dZ,z',dX,dY,eu,eC,ee,ed,eb⟩ ⟨⟨ml,mw,mz,mn⟩,ms,v,w,ws⟩; constructor <;> dsimp only <;> omega),trivial⟩
 | wk =>
  simp only [cW,Cn.busy,Cn.zero] at g1 g2 g3 g4 g5 g6 g7 g8 g9 c6 cB cC cD e1 e2 e3 e4 e5 e6 e7 e8 e9 eK eL dN eM
  exact ⟨(by show dg N ⟨eg,hl',ek,ej,dZ,z',dX,dY,eu,eC,ee,ed,eb⟩ ⟨⟨ml,mw,mz,mn⟩,ms,v,w,ws⟩; constructor <;> dsimp only <;> omega),trivial⟩
 | ID a =>
  simp only [cW,Cn.busy,Cn.zero] at g1 g2 g3 g4 g5 g6 g7 g8 g9 c6 cB cC cD e1 e2 e3 e4 e5 e6 e7 e8 e9 eK eL dN eM
  exact ⟨(by show dg N ⟨eg,hl',ek,ej,dZ,z',dX,dY,eu,eC,ee,ed,eb⟩ ⟨⟨ml,mw,mz,mn⟩,ms,v - 1,w,ws⟩; constructor <;> dsimp only <;> omega),trivial⟩
 | SP a b =>
  simp only [cW,Cn.busy,Cn.zero] at g1 g2 g3 g4 g5 g6 g7 g8 g9 c6 cB cC cD e1 e2 e3 e4 e5 e6 e7 e8 e9 eK eL dN eM
  exact ⟨(by show dg N ⟨eg,hl',ek,ej,dZ,z',dX,dY,eu,eC,ee,ed,eb⟩ ⟨⟨ml,mw,mz,mn⟩,ms,0,w,ws⟩; constructor <;> dsimp only <;> omega),trivial⟩
 | d2 =>
  simp only [cW,Cn.zero] at g1 g2 g3 g4 g5 g6 g7 g8 g9 c6 cB cC cD e1 e2 e3 e4 e5 e6 e7 e8 e9 eK eL dN eM
  exact ⟨(by show dg N ⟨eg,hl',ek,ej,dZ,z',dX,dY,eu,eC,ee,ed,eb⟩ ⟨⟨ml,mw,mz,mn⟩,ms,v,w,ws⟩; constructor <;> dsimp only <;> omega),trivial⟩
 | d3 =>
  simp only [cW,Cn.zero] at g1 g2 g3 g4 g5 g6 g7 g8 g9 c6 cB cC cD e1 e2 e3 e4 e5 e6 e7 e8 e9 eK eL dN eM
  exact ⟨(by show dg N ⟨eg,hl',ek,ej,dZ,z',dX,dY,eu,eC,ee,ed,eb⟩ ⟨⟨ml,mw,mz,mn⟩,ms,0,0,ws⟩; constructor <;> dsimp only <;> omega),trivial⟩
 | d4 =>
  simp only [cW,Cn.zero] at g1 g2 g3 g4 g5 g6 g7 g8 g9 c6 cB cC cD e1 e2 e3 e4 e5 e6 e7 e8 e9 eK eL dN eM
  exact ⟨(by show dg N ⟨eg,hl',ek,ej,dZ,z',dX,dY,eu,eC,ee,ed,eb⟩ ⟨⟨ml,mw,mz,mn⟩,ms,v,w,ws+1⟩; constructor <;> dsimp only <;> omega),trivial⟩
end
end Go.Lg
namespace Go.Lg
inductive Mp
 | ka (r:Nat) | kc (r:Nat) | kv (r:Nat) | kd (r:Nat) | ke (r:Nat) | go (r:Nat) | wa | w1 | w2 (v:Nat) | wV | wW | w3 | w4 | we | qv | wq | fin
def kN:Nat→Mp
 | 0=>.wa
 | r+1=>.ka r
inductive gz:Mp→Sh→Mp→Sh→Prop
 | ka {s r}:gz (.ka r) s (.kc r) s
 | kc1 {s r}:s.v=0→gz (.kc r) s (.kv r) { s with v:=1 }
 | kv {s r}:gz (.kv r) s (.kd r) s
 | kcn {s r}:s.v≠0→gz (.kc r) s (.ke r) { s with v:=s.v+1 }
 | kd {s r}:gz (.kd r) s (.ke r) s
 | ke {s r}:gz (.ke r) s (.go r) s
 | wa {s}:gz .wa s .w1 s
 | w1z {s}:s.v=0→gz .w1 s .we s
 | w1n {s}:s.v≠0→gz .w1 s (.w2 s.v) s
 | agl {s}:gz (.w2 s.v) s .wV { s with w:=1 }
 | wV {s}:gz .wV s .wW s
 | agk {s v}:s.v≠v→gz (.w2 v) s .w1 s
 | wW {s}:gz .wW s .w3 s
 | w3 {s m}:s.ws=m+1→gz .w3 s .w4 { s with ws:=m }
 | w4 {s}:gz .w4 s .we s
 | we {s}:gz .we s .qv s
 | qv {s}:gz .qv s .wq s
 | wq {s}:gz .wq s .fin s
def rem:Mp→Nat
 | .ka r | .kc r | .kv r | .kd r | .ke r | .go r=>r+1
 | _=>0
def Cn.jK(c:Cn):Nat:=c.wk+c.z+c.pc+c.a1+c.ak
def kW(c:Cn)(s:Sh):Mp→Prop
 | .ka _ | .kc _ | .wa | .w1=>s.v=c.lv∧s.w=0∧s.ws=0∧c.dw=0∧c.d4=0
 | .w2 v=>s.v=c.lv∧s.w=0∧s.ws=0∧c.dw=0∧c.d4=0∧v≠0
 | .kv _ | .kd _ | .ke _ | .go _=>s.v=c.lv+1∧s.w=0∧s.ws=0∧c.dw=0∧c.d4=0
 | .wV | .wW | .w3=>(s.w=1∧s.ws=0∧c.d4=0∧s.v=c.lv∧((s.v=0∧c.dw=1)∨(1≤s.v∧c.dw=0)))∨(s.w=0∧s.v=0∧c.lv=0∧c.dw=0∧c.d4+s.ws=1)
 | _=>s.v=0∧s.w=0∧s.ws=0∧c.lv=0∧c.dw=0∧c.d4=0
structure oM (N:Nat) (T0:Mp) (c:Cn) (s:Sh):Prop where
 wg:kW c s T0
 eq:c.lv+c.dw+c.d4=c.jK
 le:c.jK+rem T0≤N
def okW(N:Nat):Lp→Sh→Prop
 | .d1,s=>1≤s.v∧s.v≤N∧s.w≤1
 | .d2,s=>s.v=0∧s.w=1
 | .d4,s=>s.ws=0
 | _,_=>True
def qg(N:Nat):Mp→Sh→Prop
 | .kc _,s=>s.w=0∧s.v+1≤N
 | .w1,s=>s.w=0∧s.v≤N
 | .w2 v,s=>s.w=0∧s.v≤N∧v≠0
 | .w4,s=>s.v=0∧s.w=0
 | .w3,s=>s.ws≤1
 | _,_=>True
section
variable {N:Nat} {c c':Cn} {s s':Sh} {T T':Lp} {T0 jh:Mp}
theorem SK(T:Lp):(cW T).lv+(cW T).dw+(cW T).d4=(cW T).jK:=by
 cases T <;> simp [cW,Cn.busy,Cn.zero,Cn.jK]
 case a1 b=>cases b <;> simp
theorem Cn.zK.jK{x y:Cn}(h:c.zK x y c'):c'.jK+x.jK=c.jK+y.jK:=by
 have:=h.wk; have:=h.z; have:=h.pc; have:=h.a1; have:=h.ak
 unfold Cn.jK; omega
theorem oM.okW(h:oM N T0 c s)(hle:(cW T).Le c):okW N T s:=by
 obtain ⟨h1,h2,h3⟩:=h
 have e1:=hle.lv
 have e2:=hle.dw
 have e3:=hle.d4
 cases T <;> simp only [cW,Cn.busy,Cn.zero] at e1 e2 e3 <;> first | trivial | skip
 all_goals
  show _
  cases T0 <;> simp only [kW,rem] at h1 h3 <;> simp only [Go.Lg.okW] <;> omega
theorem oM.qg(h:oM N T0 c s):qg N T0 s:=by
 obtain ⟨h1,h2,h3⟩:=h
 cases T0 <;> simp only [kW,rem] at h1 h3 <;> simp only [Go.Lg.qg] <;> omega
set_option maxHeartbeats 2000000 in
theorem oM.step(h:oM N T0 c s)(hle:(cW T).Le c)(dq:di T s T' s')(hc:c.zK (cW T) (cW T') c'):oM N T0 c' s':=by
 obtain ⟨h1,h2,h3⟩:=h
 have q1:=SK T
 have q2:=SK T'
 have q3:=hc.jK
 have cB:=hc.lv
 have cC:=hc.dw
 have cD:=hc.d4
 have e1:=hle.lv
 have e2:=hle.dw
 have e3:=hle.d4
 have same:(cW T').lv=(cW T).lv→(cW T').dw=(cW T).dw→(cW T').d4=(cW T).d4→s'.v=s.v→s'.w=s.w→s'.ws=s.ws→oM N T0 c' s':=by
  intro a1 a2 a3 a4 a5 a6
  refine ⟨?_,by omega,by omega⟩
  cases T0 <;> simp only [kW,a4,a5,a6] at h1 ⊢ <;> omega
 cases dq
 case ID a =>
  refine ⟨?_,by omega,by simp only [cW,Cn.busy,Cn.zero,Cn.jK] at q3; unfold Cn.jK at h3 ⊢; omega⟩
  simp only [cW,Cn.busy,Cn.zero] at cB cC cD e1 e2 e3
  clear q1 q2 q3 h2 h3 same hc hle
  have wt:kW c s .w3→kW c' { s with v:=s.v - 1 } .w3:=λ h=>by
   simp only [kW] at h ⊢
   rcases h with ⟨a1,a2,a3,a4,a5⟩ | ⟨a1,a2,a3,a4,a5⟩
   ·rcases a5 with ⟨a5,a6⟩ | ⟨a5,a6⟩ <;> first | omega | (refine .inl ⟨a1,a2,by omega,by omega,.inr ⟨by omega,by omega⟩⟩)
   ·first | omega | (omega)
  cases T0 <;> first | exact wt h1 | (simp only [kW] at h1 ⊢; omega)
 case SP a b =>
  refine ⟨?_,by omega,by simp only [cW,Cn.busy,Cn.zero,Cn.jK] at q3; unfold Cn.jK at h3 ⊢; omega⟩
  simp only [cW,Cn.busy,Cn.zero] at cB cC cD e1 e2 e3
  clear q1 q2 q3 h2 h3 same hc hle
  have wt:kW c s .w3→kW c' { s with v:=0 } .w3:=λ h=>by
   simp only [kW] at h ⊢
   rcases h with ⟨a1,a2,a3,a4,a5⟩ | ⟨a1,a2,a3,a4,a5⟩
   ·rcases a5 with ⟨a5,a6⟩ | ⟨a5,a6⟩ <;> first | omega | (exact .inl ⟨a1,a2,by omega,by omega,.inl ⟨trivial,by omega⟩⟩)
   ·first | omega | (omega)
  cases T0 <;> first | exact wt h1 | (simp only [kW] at h1 ⊢; omega)
 case d3 =>
  refine ⟨?_,by omega,by simp only [cW,Cn.zero,Cn.jK] at q3; unfold Cn.jK at h3 ⊢; omega⟩
  simp only [cW,Cn.zero] at cB cC cD e1 e2 e3
  clear q1 q2 q3 h2 h3 same hc hle
  have wt:kW c s .w3→kW c' { s with v:=0,w:=0 } .w3:=λ h=>by
   simp only [kW] at h ⊢
   rcases h with ⟨a1,a2,a3,a4,a5⟩ | ⟨a1,a2,a3,a4,a5⟩
   ·rcases a5 with ⟨a5,a6⟩ | ⟨a5,a6⟩ <;> first | omega | (exact .inr ⟨trivial,trivial,by omega,by omega,by omega⟩)
   ·first | omega | (omega)
  cases T0 <;> first | exact wt h1 | (simp only [kW] at h1 ⊢; omega)
 case d4 =>
  refine ⟨?_,by omega,by simp only [cW,Cn.zero,Cn.jK] at q3; unfold Cn.jK at h3 ⊢; omega⟩
  simp only [cW,Cn.zero] at cB cC cD e1 e2 e3
  clear q1 q2 q3 h2 h3 same hc hle
  have wt:kW c s .w3→kW c' { s with ws:=s.ws+1 } .w3:=λ h=>by
   simp only [kW] at h ⊢
   rcases h with ⟨a1,a2,a3,a4,a5⟩ | ⟨a1,a2,a3,a4,a5⟩
   ·rcases a5 with ⟨a5,a6⟩ | ⟨a5,a6⟩ <;> first | omega | (omega)
   ·first | omega | (exact .inr ⟨a1,a2,by omega,by omega,by omega⟩)
  cases T0 <;> first | exact wt h1 | (simp only [kW] at h1 ⊢; omega)
 case r0=>refine same ?_ ?_ ?_ rfl rfl rfl <;> simp only [sF] <;> rfl
 case r1=>refine same ?_ ?_ ?_ rfl rfl rfl <;> simp only [sF] <;> rfl
 case r3=>refine same ?_ ?_ ?_ rfl rfl rfl <;> simp only [sF] <;> rfl
 case yC=>refine same ?_ ?_ ?_ rfl rfl rfl <;> simp only [sF] <;> rfl
 case yL=>refine same ?_ ?_ ?_ rfl rfl rfl <;> simp only [SL] <;> rfl
 case xF c0 hm hq=>refine same ?_ ?_ ?_ rfl rfl rfl <;> cases c0.ws <;> rfl
 case s1 c0 m hm=>refine same ?_ ?_ ?_ rfl rfl rfl <;> cases c0.sv <;> rfl
 case K0 c0 hm=>refine same ?_ ?_ ?_ rfl rfl rfl <;> cases (c0.sv && s.mu.n != 1) <;> rfl
 case a1 b=>refine same ?_ ?_ ?_ rfl rfl rfl <;> cases b <;> rfl
 case yM a b=>refine same ?_ ?_ ?_ rfl rfl rfl <;> simp only [hu] <;> split <;> rfl
 case ux=>refine same ?_ ?_ ?_ rfl rfl rfl <;> simp only [hu] <;> split <;> rfl
 all_goals exact same rfl rfl rfl rfl rfl rfl
theorem oM.main(h:oM N T0 c s)(dq:gz T0 s jh s'):oM N jh c s':=by
 obtain ⟨h1,h2,h3⟩:=h
 cases dq
 case agl =>
  obtain ⟨a1,a2,a3,a4,a5,a6⟩:=h1
  exact ⟨.inl ⟨rfl,a3,a5,a1,.inr ⟨by dsimp only; omega,a4⟩⟩,h2,by simp only [rem] at h3 ⊢; omega⟩
 case wV=>exact ⟨h1,h2,h3⟩
 case wW=>exact ⟨h1,h2,h3⟩
 all_goals refine ⟨?_,h2,?_⟩ <;> simp only [kW,rem] at h1 h3 ⊢ <;> omega
theorem dg.main(h:dg N c s)(dq:gz T0 s jh s'):dg N c s':=by
 obtain ⟨h1,h2,h3,h4,h5,h6,h8,h9,IL,IM⟩:=h
 cases dq <;> exact ⟨h1,h2,h3,h4,h5,h6,h8,h9,IL,IM⟩
theorem oM.spawn{r:Nat}(h:oM N (.go r) c s)(hc:c.zK Cn.zero (cW .ld) c'):oM N (kN r) c' s:=by
 obtain ⟨h1,h2,h3⟩:=h
 have q1:=SK .ld
 have q3:=hc.jK
 have cB:=hc.lv
 have cC:=hc.dw
 have cD:=hc.d4
 cases r <;> refine ⟨?_,?_,?_⟩ <;> simp only [kW,rem,kN,cW,Cn.busy,Cn.zero,Cn.jK] at * <;> omega
theorem dg.spawn{r:Nat}(h:dg N c s)(hg:oM N (.go r) c s)(hc:c.zK Cn.zero (cW .ld) c'):dg N c' s:=by
 have hle:=hg.le
 obtain ⟨h1,h2,h3,h4,h5,h6,h8,h9,IL,IM⟩:=h
 obtain ⟨g1,g2,g3,g4,g5,g6,g7,g8,g9,c6,cB,cC,cD⟩:=hc
 simp only [cW,Cn.busy,Cn.zero,Cn.jK,rem] at *
 constructor <;> omega
end
def gX:Lp→Nat
 | .ld | .l0 | .r0=>9
 | .sq c | .c1 c | .r1 c | .c2 c | .r3 c=>if c.aw then 8 else 9
 | .t1 _ | .s1 _=>6
 | .t2 _ | .r2 _ | .a1 _=>8
 | .le | .lc | .la | .ul _ | .uv _ | .ur _=>5
 | .ud | .u0=>16
 | .uc _ | .ux=>15
 | .us=>14
 | .ue=>10
 | .wv | .wr | .wk | .d1=>8
 | .d2 | .d3=>6
 | .d4=>5
 | .quit=>0
def kq(m:Wd):Lp→Nat
 | .ld=>31
 | .l0=>30
 | .r0=>29
 | .sq c=>(4 - c.it) * 5+(if c.old=m then 0 else 5)+3
 | .c1 c=>(4 - c.it) * 5+(if c.old=m then 0 else 5)+2
 | .r1 c=>(4 - c.it) * 5+1
 | .c2 c=>(4 - c.it) * 5+(if c.old=m then 0 else 5)+1
 | .r3 c=>(4 - c.it) * 5+5
 | .t1 _=>2
 | .s1 _=>1
 | .t2 _=>25
 | .r2 _=>24
 | .le=>5
 | .lc=>4
 | .la=>3
 | .ul _=>2
 | .uv _=>1
 | .ud=>1
 | .uc o=>if o=m then 0 else 3
 | .ux=>2
 | .wv=>3
 | .wr=>2
 | .wk=>1
 | .d2=>1
 | _=>0
def gM:Lp→Bool
 | .ur _=>true
 | _=>false
theorem aDc(m:Wd)(T:Lp):kq m T≤31:=by
 cases T <;> simp only [kq] <;> (try split) <;> omega
theorem O5(c:Lc):gX (hd c)=if c.aw then 8 else 9:=by unfold hd; split <;> rfl
theorem O0{c:Lc}{m:Wd}(h:c.old=m):kq m (hd c)≤(4 - c.it) * 5+3:=by unfold hd; split <;> simp only [kq,h,if_true] <;> omega
theorem di.Nf{N:Nat}{s s':Sh}{T T':Lp}(hT:qK N T)(dq:di T s T' s') :
  gX T'+3 * s'.ms+3 * s'.ws < gX T+3 * s.ms+3 * s.ws+(if gM T then 20 else 0) ∨
  (gX T'+3 * s'.ms+3 * s'.ws=gX T+3 * s.ms+3 * s.ws∧gM T=false∧s'.mu=s.mu∧s'.v=s.v∧kq s.mu T' < kq s.mu T):=by
 cases dq
 case r0=>right; have:=O0 (c:=⟨s.mu,false,false,0,false⟩) (m:=s.mu) rfl; rw [O5]; generalize kq s.mu (hd _)=x at this ⊢; exact ⟨rfl,rfl,rfl,rfl,by simp only [kq]; simp only at this; omega⟩
 case O4 c=>right; simp [gX,kq,gM]
 case yL c h=>right; unfold jx; split <;> simp [gX,kq,gM]; omega
 case Sw c h=>left; obtain ⟨_,_,_,t4,_⟩:=hT; simp [gX,t4,gM]
 case Sv c h=>right; simp [gX,kq,gM,Ne.symm h]
 case r1 c =>
  right; obtain ⟨_,t2,_⟩:=hT
  have:=O0 (c:={ c with old:=s.mu,it:=c.it+1 }) (m:=s.mu) rfl
  rw [O5]; generalize kq s.mu (hd _)=x at this ⊢; exact ⟨rfl,rfl,rfl,rfl,by simp only [kq]; simp only at this; omega⟩
 case SA c h _ _=>left; simp only [gX,gM]; split <;> simp
 case xF c h _=>left; simp only [gM]; cases c.ws <;> cases hb:c.aw <;> simp [gX,hb]
 case SB c h=>right; simp [gX,kq,gM,Ne.symm h]
 case r3 c =>
  right
  have:=O0 (c:={ c with old:=s.mu }) (m:=s.mu) rfl
  rw [O5]; generalize kq s.mu (hd _)=x at this ⊢; exact ⟨rfl,rfl,rfl,rfl,by simp only [kq]; simp only at this; omega⟩
 case t1 c b=>right; simp [gX,kq,gM]
 case s1 c m h=>left; cases c.sv <;> simp [gX,gM,h] <;> omega
 case t2 c b=>right; simp [gX,kq,gM]
 case K0 c h=>right; simp [gX,kq,gM]
 case yC c h =>
  right
  have:=O0 (c:={ c with old:=s.mu,aw:=true,it:=0 }) (m:=s.mu) rfl
  rw [O5]; generalize kq s.mu (hd _)=x at this ⊢; exact ⟨rfl,rfl,rfl,rfl,by simp only [kq]; simp only at this; omega⟩
 case yM a b=>left; unfold hu; split <;> simp [gX,gM]
 case X1 m h=>right; simp [gX,kq,gM,Ne.symm h]
 case ux=>unfold hu; split <;> simp [gX,kq,gM]
 case us=>left; simp [gX,gM]; omega
 case d4=>left; simp [gX,gM]; omega
 case ur=>left; simp [gX,gM]; omega
 all_goals simp [gX,kq,gM]
def stM(J:Nat):Mp→Nat
 | .ka r | .kc r=>(r+1) * (20 * J+20)+15
 | .kv r | .kd r | .ke r | .go r=>(r+1) * (20 * J+20)+14
 | .wa | .w1 | .w2 _=>10
 | .wV | .wW | .w3=>8
 | .w4 | .we | .qv | .wq=>6
 | .fin=>0
def AM(v:Nat):Mp→Nat
 | .ka _=>1
 | .kv _=>3
 | .kd _=>2
 | .ke _=>1
 | .wa=>6
 | .w1=>4
 | .w2 u=>if u=v then 1 else 5
 | .wV=>2
 | .wW=>1
 | .w4=>3
 | .we=>2
 | .qv=>1
 | _=>0
theorem aDb(v:Nat)(T:Mp):AM v T≤31:=by
 cases T <;> simp only [AM] <;> (try split) <;> omega
theorem gz.Nf{J:Nat}{s s':Sh}{T T':Mp}(dq:gz T s T' s') :
  stM J T'+3 * s'.ms+3 * s'.ws < stM J T+3 * s.ms+3 * s.ws ∨
  (stM J T'+3 * s'.ms+3 * s'.ws=stM J T+3 * s.ms+3 * s.ws∧s'.mu=s.mu∧s'.v=s.v∧AM s.v T' < AM s.v T):=by
 cases dq
 case w1n h=>right; simp [stM,AM]
 case agk v h=>right; simp [stM,AM,Ne.symm h]
 case w3 m h=>left; simp [stM,h]; omega
 all_goals simp [stM,AM]
theorem aDC(J r:Nat):stM J (kN r)+(20 * J+gX .ld) < stM J (.go r):=by
 cases r with
 | zero=>simp [kN,stM,gX]; omega
 | succ r=>simp only [kN,stM,gX,Nat.add_mul]; omega
end Go.Lg
namespace Go.Lg
open Go.Conc Go.ConcN
def BD(P:Program)(K:Goroutine→Prop):Nat→Goroutine→Prop
 | 0,g=>K g
 | n+1,g=>K g∨(g.status = .running∧∃ g',(∀ w,stepG P false g w = .go g' w #[])∧BD P K n g')
structure Fx where
 P:Program
 B:Base
 bm:Nat
 bw:Nat
 bo:Nat
 tm:TypeId
 tw:TypeId
 N:Nat
 J:Nat
 cont:(Nat→Nat)→Obj
 ho:bm≠bw∧bm≠bo∧bw≠bo
 hJ:0 < J
 hN:N≤4
 mj:az→an→Goroutine→Prop
def p7(tm:TypeId)(s:Sh):Obj:=.cells #[.int .i32 s.mu.val,.int .u32 (s.ms:Int)] tm (0,0)
def y5(s:Sh):Int:=4294967296 * s.v+s.w
def qd(tw:TypeId)(s:Sh):Obj:=.cells #[.int .u64 (y5 s),.int .u32 (s.ws:Int)] tw (0,0)
variable (F:Fx)
structure fA (s:Sh) (w:World):Prop where
 m:w.heap[F.bm]? = some (p7 F.tm s)
 g:w.heap[F.bw]? = some (qd F.tw s)
structure b9 (s':Sh) (w w':World):Prop where
 size:w'.heap.size=w.heap.size
 same:∀ b,b≠F.bm→b≠F.bw→w'.heap[b]? = w.heap[b]?
 sh:fA F s' w'
 os:F.B.os w.os→F.B.os w'.os
 tape:w'.tape=w.tape
 out:w'.output=w.output
def am:Addr:=⟨F.bm,0,none⟩
def aw:Addr:=⟨F.bw,0,none⟩
def rh:Addr:=⟨F.bw,1,none⟩
def qn(es:Array Event):Prop:=(∀ e∈es,∃ a wr,e=⟨.cell a,wr,true⟩∧(a.block=F.bm∨a.block=F.bw))∨∃ a,(a.block=F.bm∨a.block=F.bw)∧es=semEvents a
def said(m:Mark):Array Event:=#[⟨.mark m,false,true⟩]
def E2:Lp→Array Event→Prop
 | .ld,es | .ud,es | .wk,es=>es=said .disable
 | .le,es | .ue,es=>es=said .enable
 | .la,es=>es=said (.acquire (am F))
 | .ur _,es=>es=said (.releaseMerge (am F))
 | .wr,es=>es=said (.releaseMerge (aw F))
 | _,es=>qn F es
def BU:Mp→Array Event→Prop
 | .ka _,es | .wa,es=>es=said .disable
 | .ke _,es | .we,es=>es=said .enable
 | .kd _,es=>es=said (.read (rh F))
 | .wW,es=>es=said (.write (rh F))
 | .wq,es=>es=said (.acquire (aw F))
 | _,es=>qn F es
def km:Lp→Bool
 | .wk | .d1 | .d2 | .d3 | .d4=>true
 | _=>false
def yN(j:Nat):Lp→Lp→Prop
 | .ue,.ld=>j < F.J
 | .ue,.wv=>j=F.J
 | _,_=>True
def xB(K:Nat→Lp→az→an→Goroutine→Prop)(k j:Nat)(T T':Lp)(R:az)(H:an)(g':Goroutine):Prop :=
 match T' with
 | .quit=>∃ q,QuitsD F.P q 1 g'
 | .ul _=>∀ js,js k=j→Own F.P F.B false (K j (.ul js)) R ((F.bo,F.cont js)::H) g'
 | .ud=>∃ js H',T = .ur js∧H=(F.bo,F.cont (gn js k (j+1)))::H'∧Own F.P F.B false (K (j+1) .ud) R H' g'
 | T'=>if km T' then ∃ q,BD F.P (K j T' R H) q g' else Own F.P F.B false (K j T') R H g'
def KW:Nat→Nat→Nat→Lp→az→an→Goroutine→Prop
 | 0,_,_,_,_,_,_=>True
 | n+1,k,j,T,R,H,g=>qK F.N T→g.status = .running∧g.offers=none∧((T = .us∨T = .d4)→mayWake F.P g=true) ∧
   ∀ w s,Fits F.B R H w→fA F s w→Dd F.N T s→okW F.N T s →
    ((∃ c,T = .s1 c)∧s.ms=0∧stepG F.P false g w = .go { g with status:=.blocked } w #[]) ∨
    ∃ g' w' es T' s',di T s T' s'∧yN F j T T'∧E2 F T es∧stepG F.P false g w = .go g' w' es∧b9 F s' w w' ∧
     xB F (KW n k) k j T T' R H g'
def KM:Nat→Mp→az→an→Goroutine→Prop
 | 0,_,_,_,_=>True
 | n+1,T,R,H,g=>g.status = .running∧g.offers=none ∧
   ∀ w s,Fits F.B R H w→fA F s w→qg F.N T s →
    match T with
    | .go r=>∃ g' child,stepG F.P true g w = .spawn g' child w #[]∧Own F.P F.B false (KW F n (F.N - (r+1)) 0 .ld) R [] child∧Own F.P F.B true (KM n (kN r)) R H g'
    | .wq=>∃ g' w',stepG F.P true g w = .go g' w' (said (.acquire (aw F)))∧b9 F s w w'∧∀ js,(∀ k,k < F.N→js k=F.J)→F.mj R ((F.bo,F.cont js)::H) g'
    | T=>(T = .w3∧s.ws=0∧stepG F.P true g w = .go { g with status:=.blocked } w #[]) ∨
     ∃ g' w' es T' s',gz T s T' s'∧BU F T es∧stepG F.P true g w = .go g' w' es∧b9 F s' w w'∧Own F.P F.B true (KM n T') R H g'
inductive Ab
 | no
 | wk (k j:Nat) (T:Lp)
 | mn (T:Mp)
def cA:Ab→Cn
 | .wk _ _ T=>cW T
 | _=>.zero
def cP:Ab→Nat
 | .no=>0
 | .wk _ j T=>20 * (F.J - j)+gX T
 | .mn T=>stM F.J T
def oA(s:Sh):Ab→Nat
 | .no=>0
 | .wk _ _ T=>kq s.mu T
 | .mn T=>AM s.v T
def oR:Lp→Nat
 | .ld | .lc | .la | .ul _ | .uv _ | .ur _ | .ud | .wv | .wr | .wk=>0
 | _=>1
def pO:Mp→Nat
 | .ka _ | .go _ | .wa | .qv | .wq | .fin=>0
 | _=>1
def cnt(D:Nat→Ab)(n:Nat):Cn where
 ow:=dc n λ i=>(cA (D i)).ow
 hl:=dc n λ i=>(cA (D i)).hl
 pu:=dc n λ i=>(cA (D i)).pu
 pc:=dc n λ i=>(cA (D i)).pc
 al:=dc n λ i=>(cA (D i)).al
 z:=dc n λ i=>(cA (D i)).z
 a1:=dc n λ i=>(cA (D i)).a1
 ak:=dc n λ i=>(cA (D i)).ak
 ux:=dc n λ i=>(cA (D i)).ux
 wk:=dc n λ i=>(cA (D i)).wk
 lv:=dc n λ i=>(cA (D i)).lv
 dw:=dc n λ i=>(cA (D i)).dw
 d4:=dc n λ i=>(cA (D i)).d4
def cj(D:Nat→Ab)(i:Nat)(x:Ab):Nat→Ab:=λ j=>if j=i then x else D j
def mJ(D:Nat→Ms)(i:Nat)(x:Ms):Nat→Ms:=λ j=>if j=i then x else D j
def MM(Q:Nat)(D:Nat→Ab)(s:Sh)(n:Nat):Nat:=(dc n (λ i=>cP F (D i))+3 * s.ms+3 * s.ws) * Q+dc n (λ i=>oA s (D i))
def Dc(j:Nat):Lp→Prop
 | .ud | .u0 | .uc _ | .ux | .us | .ue=>j≤F.J
 | .wv | .wr | .wk | .d1 | .d2 | .d3 | .d4=>j=F.J
 | .quit=>False
 | _=>j < F.J
def AH(js:Nat→Nat):Lp→Prop
 | .ul j | .uv j | .ur j=>j=js
 | _=>True
def gK(s:Sh)(js:Nat→Nat)(hl:Nat):an:=(F.bm,p7 F.tm s)::(F.bw,qd F.tw s)::(if hl=0 then [(F.bo,F.cont js)] else [])
def qC(hl:Nat):Option Nat:=if hl=0 then some F.bo else none
def Ib(K:Goroutine→Prop)(z:Prop)(g:Goroutine):Prop:=∃ g0,K g0∧g0.status = .running∧g0.offers=none∧(g=g0∨(g={ g0 with status:=.blocked }∧z))
def qp(μ:Nat)(s:Sh)(i:Nat)(m:Ms)(x:Option Th)(mu:Bool)(d:Nat)(g:Goroutine):Ab→Prop
 | .no=>x=none∧0 < i∧∃ q,m=some (rM q)∧QuitsD F.P q d g
 | .wk k j T=>0 < i∧d=oR T∧mu=km T∧∃ y n,x=some y∧μ≤n ∧
   if km T then ∃ q,m=some (rM q)∧BD F.P (KW F n k j T y.R y.H) q g
   else (∃ Tr,m=some Tr∧BC F.P F.B false (KW F n k j T) Tr y.R y.H g)∨(m=none∧(∃ c,T = .s1 c)∧Ib (KW F n k j T y.R y.H) (s.ms=0) g)
 | .mn T=>i=0∧d=pO T∧mu=false∧∃ y n,x=some y∧μ≤n ∧
   ((∃ Tr,m=some Tr∧BC F.P F.B true (KM F n T) Tr y.R y.H g)∨(m=none∧T = .w3∧Ib (KM F n T y.R y.H) (s.ws=0) g))
structure Bk (Q:Nat) (T0:Mp) (D:Nat→Ab) (js:Nat→Nat) (s:Sh) (n:Nat):Prop where
 d0:D 0 = .mn T0
 nf:T0 ≠ .fin
 pos:0 < n
 out:∀ i,n≤i→D i = .no
 main:∀ i T,D i = .mn T→i=0
 sA:dg F.N (cnt D n) s
 aig:oM F.N T0 (cnt D n) s
 nb:∀ i k j T,D i = .wk k j T→qK F.N T∧Dc F j T∧AH js T∧js k=j∧k+rem T0 < F.N
 rL:∀ i i' k j j' T T',D i = .wk k j T→D i' = .wk k j' T'→i=i'
 done:∀ k,k+rem T0 < F.N→js k=F.J∨∃ i j T,D i = .wk k j T
 Ow:∀ k,F.N≤k+rem T0→js k=0
 Is:31 * (n+rem T0) < Q
structure MI (Q:Nat) (T0:Mp) (D:Nat→Ab) (m:Nat→Ms) (js:Nat→Nat) (s:Sh) (th:Nat→Option Th) (mu:Nat→Bool) (dd:Nat→Nat) (gs:Array Goroutine) (w:World) (t:Trace):Prop where
 mem:fq F.B th (gK F s js (cnt D gs.size).hl) w
 tr:cQ (some (am F)) (some (aw F)) th mu dd [F.bm,F.bw] (qC F (cnt D gs.size).hl) w.heap.size t
 w7:∀ i g,gs[i]? = some g→qp F (MM F Q D s gs.size) s i (m i) (th i) (mu i) (dd i) g (D i)
 out:∀ i,gs.size≤i→th i=none∧mu i=false∧dd i=0
 bk:Bk F Q T0 D js s gs.size
end Go.Lg
namespace Go.Lg
open Go.Conc Go.ConcN
theorem jL(D:Nat→Ab)(i:Nat)(x:Ab):cj D i x i=x:=by simp [cj]
theorem fC{D:Nat→Ab}{i j:Nat}{x:Ab}(h:j≠i):cj D i x j=D j:=by simp [cj,h]
theorem K7(D:Nat→Ms)(i:Nat)(x:Ms):mJ D i x i=x:=by simp [mJ]
theorem Gx{D:Nat→Ms}{i j:Nat}{x:Ms}(h:j≠i):mJ D i x j=D j:=by simp [mJ,h]
theorem Dx{th:Nat→Option Th}{i:Nat}{x:Option Th}(h:th i=x):fW th i x=th:=by
 funext j; unfold fW; split
 ·rename_i e; subst e; exact h.symm
 ·rfl
theorem XX{f:Nat→Nat}{i:Nat}:∀ {n:Nat},i < n→f i≤dc n f
 | n+1,h=>by
  simp only [dc]
  rcases Nat.lt_or_ge i n with bK | uy
  ·have:=XX (f:=f) bK; omega
  ·obtain rfl:i=n:=by omega
   omega
theorem O9{f:Nat→Nat}{b:Nat}(h:∀ i,f i≤b):∀ n,dc n f≤b * n
 | 0=>by simp [dc]
 | n+1=>by have:=O9 h n; have:=h n; simp only [dc,Nat.mul_succ]; omega
theorem vV{D:Nat→Ab}{i n:Nat}(hi:i < n)(x:Ab):(cnt D n).zK (cA (D i)) (cA x) (cnt (cj D i x) n):=by
 have key:∀ f:Cn→Nat,dc n (λ j=>f (cA (cj D i x j)))+f (cA (D i))=dc n (λ j=>f (cA (D j)))+f (cA x):=λ f=>by
  have:=Du (f:=λ j=>f (cA (D j))) (g:=λ j=>f (cA (cj D i x j))) hi (λ k hk=>by simp only [fC hk])
  simpa only [jL] using this
 exact ⟨key _,key _,key _,key _,key _,key _,key _,key _,key _,key _,key _,key _,key _⟩
theorem EV{D:Nat→Ab}{i n:Nat}(hi:i < n):(cA (D i)).Le (cnt D n):=by
 have key:∀ f:Cn→Nat,f (cA (D i))≤dc n (λ j=>f (cA (D j))):=λ f=>XX (f:=λ j=>f (cA (D j))) hi
 exact ⟨key _,key _,key _,key _,key _,key _,key _,key _,key _,key _,key _,key _,key _⟩
theorem abR{D:Nat→Ab}{n:Nat}(hn:0 < n)(x:Ab)(y:Ab)(hx:cA x = .zero)(h0:cA (D 0) = .zero):(cnt D n).zK .zero (cA y) (cnt (cj (cj D n y) 0 x) (n+1)):=by
 have key:∀ f:Cn→Nat,f .zero=0→dc (n+1) (λ j=>f (cA (cj (cj D n y) 0 x j)))+f .zero=dc n (λ j=>f (cA (D j)))+f (cA y):=λ f hf=>by
  simp only [dc]
  rw [fC (show n≠0 by omega),jL,hf]
  have:dc n (λ j=>f (cA (cj (cj D n y) 0 x j)))=dc n (λ j=>f (cA (D j))):=K6 λ j hj=>by
   by_cases h:j=0
   ·subst h; rw [jL,hx,h0]
   ·rw [fC h,fC (by omega)]
  omega
 exact ⟨key _ rfl,key _ rfl,key _ rfl,key _ rfl,key _ rfl,key _ rfl,key _ rfl,key _ rfl,key _ rfl,key _ rfl,key _ rfl,key _ rfl,key _ rfl⟩
section
variable {F:Fx} {D:Nat→Ab} {s s':Sh} {n i Q:Nat} {x:Ab}
theorem ae9(s:Sh)(a:Ab):oA s a≤31:=by
 cases a
 ·exact Nat.zero_le _
 ·exact aDc _ _
 ·exact aDb _ _
theorem Mh(hi:i < n)(hQ:31 * n < Q)
  (h:cP F x+3 * s'.ms+3 * s'.ws < cP F (D i)+3 * s.ms+3 * s.ws∨(cP F x+3 * s'.ms+3 * s'.ws=cP F (D i)+3 * s.ms+3 * s.ws∧s'.mu=s.mu∧s'.v=s.v∧oA s x < oA s (D i))) :
  MM F Q (cj D i x) s' n < MM F Q D s n:=by
 have h1:=Du (f:=λ j=>cP F (D j)) (g:=λ j=>cP F (cj D i x j)) hi (λ k hk=>by simp only [fC hk])
 simp only [jL] at h1
 unfold MM
 rcases h with h | ⟨h,hm,hv,hr⟩
 ·have h2:dc n (λ j=>oA s' (cj D i x j))≤31 * n:=O9 (λ j=>ae9 s' _) n
  generalize dc n (λ j=>cP F (cj D i x j))=a' at *
  generalize dc n (λ j=>cP F (D j))=a at *
  generalize dc n (λ j=>oA s' (cj D i x j))=r' at *
  have h3:a'+3 * s'.ms+3 * s'.ws+1≤a+3 * s.ms+3 * s.ws:=by omega
  have h4:=Nat.mul_le_mul_right Q h3
  rw [Nat.add_mul _ 1 Q,Nat.one_mul] at h4
  omega
 ·have er:∀ a,oA s' a=oA s a:=λ a=>by cases a <;> simp [oA,hm,hv]
  have h2:=Du (f:=λ j=>oA s (D j)) (g:=λ j=>oA s (cj D i x j)) hi (λ k hk=>by simp only [fC hk])
  simp only [jL] at h2
  have e:(λ j=>oA s' (cj D i x j))=λ j=>oA s (cj D i x j):=by funext j; exact er _
  rw [e]
  have e2:dc n (λ j=>cP F (cj D i x j))+3 * s'.ms+3 * s'.ws=dc n (λ j=>cP F (D j))+3 * s.ms+3 * s.ws:=by omega
  rw [e2]
  omega
theorem akU{y:Ab}(hn:0 < n)(hQ:31 * (n+1) < Q)(h:cP F x+cP F y < cP F (D 0)):MM F Q (cj (cj D n y) 0 x) s (n+1) < MM F Q D s n:=by
 have h1:=Du (f:=λ k=>cP F (D k)) (g:=λ k=>cP F (cj D 0 x k)) hn (λ k hk=>by simp only [fC hk])
 have h2:dc (n+1) (λ k=>cP F (cj (cj D n y) 0 x k))=dc n (λ k=>cP F (cj D 0 x k))+cP F y:=by
  simp only [dc]
  rw [fC (show n≠0 by omega),jL]
  congr 1
  exact K6 λ k hk=>by
   by_cases h0:k=0
   ·subst h0; rw [jL,jL]
   ·rw [fC h0,fC h0,fC (by omega)]
 simp only [jL] at h1
 have h3:dc (n+1) (λ j=>oA s (cj (cj D n y) 0 x j))≤31 * (n+1):=O9 (λ j=>ae9 s _) _
 unfold MM
 rw [h2]
 generalize dc n (λ j=>cP F (cj D 0 x j))=a' at *
 generalize dc n (λ j=>cP F (D j))=a at *
 generalize dc (n+1) (λ j=>oA s (cj (cj D n y) 0 x j))=r' at *
 have h4:a'+cP F y+3 * s.ms+3 * s.ws+1≤a+3 * s.ms+3 * s.ws:=by omega
 have h5:=Nat.mul_le_mul_right Q h4
 rw [Nat.add_mul _ 1 Q,Nat.one_mul] at h5
 omega
theorem akT(hi:i < n)(hQ:0 < Q)(h:0 < cP F (D i)):0 < MM F Q D s n:=by
 have:=XX (f:=λ j=>cP F (D j)) hi
 unfold MM
 have h2:0 < (dc n (λ j=>cP F (D j))+3 * s.ms+3 * s.ws) * Q:=Nat.mul_pos (by omega) hQ
 omega
end
section
variable {F:Fx} {B:Base} {th:Nat→Option Th} {s s':Sh} {js:Nat→Nat} {hl:Nat} {w w':World}
theorem zR(F:Fx)(s:Sh)(js:Nat→Nat)(hl:Nat):(F.bm,p7 F.tm s)∈gK F s js hl:=by simp [gK]
theorem zS(F:Fx)(s:Sh)(js:Nat→Nat)(hl:Nat):(F.bw,qd F.tw s)∈gK F s js hl:=by simp [gK]
theorem Iz(F:Fx)(s:Sh)(js:Nat→Nat)(hl:Nat):∀ b,b∈[F.bm,F.bw]→∃ o,(b,o)∈gK F s js hl:=λ b hb=>by
 simp only [List.mem_cons,List.not_mem_nil,or_false] at hb
 rcases hb with rfl | rfl
 ·exact ⟨_,zR F s js hl⟩
 ·exact ⟨_,zS F s js hl⟩
theorem Iy(F:Fx)(s:Sh)(js:Nat→Nat)(hl:Nat):∀ b,qC F hl=some b→(∃ o,(b,o)∈gK F s js hl)∧b ∉ [F.bm,F.bw]:=λ b hb=>by
 unfold qC at hb
 split at hb
 ·cases hb
  rename_i h
  refine ⟨⟨F.cont js,by simp [gK,h]⟩,?_⟩
  have:=F.ho
  simp only [List.mem_cons,List.not_mem_nil,or_false,not_or]
  exact ⟨λ e=>this.2.1 e.symm,λ e=>this.2.2 e.symm⟩
 ·cases hb
theorem C8{b:Nat}{o:Obj}(h:(b,o)∈gK F s js hl):(b=F.bm∧o=p7 F.tm s)∨(b=F.bw∧o=qd F.tw s)∨(b=F.bo∧o=F.cont js∧hl=0):=by
 unfold gK at h
 simp only [List.mem_cons,Prod.mk.injEq] at h
 rcases h with h | h | h
 ·exact .inl h
 ·exact .inr (.inl h)
 ·split at h
  ·simp only [List.mem_cons,Prod.mk.injEq,List.not_mem_nil,or_false] at h
   exact .inr (.inr ⟨h.1,h.2,‹_›⟩)
  ·cases h
theorem RE(h:fq B th (gK F s js hl) w):fA F s w:=⟨h.n9 _ _ (zR F s js hl),h.n9 _ _ (zS F s js hl)⟩
theorem fq.put(h:fq F.B th (gK F s js hl) w)(hp:b9 F s' w w'):fq F.B th (gK F s' js hl) w':=by
 have ne:∀ b,(∃ j x,th j=some x∧((∃ o,x.R b=some o)∨∃ o,(b,o)∈x.H))→w'.heap[b]? = w.heap[b]? := by
  rintro b ⟨j,x,hx,hb⟩
  have h1:=h.mA _ _ (zR F s js hl) j x hx
  have h2:=h.mA _ _ (zS F s js hl) j x hx
  refine hp.same b (λ e=>?_) (λ e=>?_) <;> subst e
  ·rcases hb with ⟨o,ho⟩ | ⟨o,ho⟩
   ·exact nn h1.1 ho
   ·exact h1.2 o ho
  ·rcases hb with ⟨o,ho⟩ | ⟨o,ho⟩
   ·exact nn h2.1 ho
   ·exact h2.2 o ho
 refine ⟨λ j x hx=>?_,h.apart,λ b o hb=>?_,λ b o hb j x hx=>?_⟩
 ·have hf:=h.fits j x hx
  exact ⟨λ b o hb=>by rw [ne b ⟨j,x,hx,.inl ⟨o,hb⟩⟩]; exact hf.r b o hb,λ b o hb=>by rw [ne b ⟨j,x,hx,.inr ⟨o,hb⟩⟩]; exact hf.h b o hb,hf.nd,hf.dj,hp.os hf.os,hp.tape.trans hf.tape,hp.out.trans hf.out⟩
 ·rcases C8 hb with ⟨rfl,rfl⟩ | ⟨rfl,rfl⟩ | ⟨rfl,rfl,hz⟩
  ·exact hp.sh.m
  ·exact hp.sh.g
  ·rw [hp.same _ (λ e=>F.ho.2.1 e.symm) (λ e=>F.ho.2.2 e.symm)]
   exact h.n9 _ _ (by simp [gK,hz])
 ·rcases C8 hb with ⟨rfl,rfl⟩ | ⟨rfl,rfl⟩ | ⟨rfl,rfl,hz⟩
  ·exact h.mA _ _ (zR F s js hl) j x hx
  ·exact h.mA _ _ (zS F s js hl) j x hx
  ·exact h.mA F.bo (F.cont js) (by simp [gK,hz]) j x hx
theorem fq.take{i hl':Nat}{R:az}{H:an}(h:fq B th (gK F s js 0) w)(hi:th i=some ⟨R,H⟩)(hz:hl'≠0):fq B (fW th i (some ⟨R,(F.bo,F.cont js)::H⟩)) (gK F s js hl') w:=by
 have Ca:(F.bo,F.cont js)∈gK F s js 0:=by simp [gK]
 have hf:=h.fits i _ hi
 have kA:=h.mA _ _ Ca
 have sub:∀ {b o},(b,o)∈gK F s js hl'→(b,o)∈gK F s js 0∧b≠F.bo:=λ {b o} hb=>by
  rcases C8 hb with ⟨rfl,rfl⟩ | ⟨rfl,rfl⟩ | ⟨rfl,rfl,hx⟩
  ·exact ⟨zR F s js 0,F.ho.2.1⟩
  ·exact ⟨zS F s js 0,F.ho.2.2⟩
  ·exact absurd hx hz
 refine ⟨λ j x hx=>?_,λ j k x y nk hx hy b o hb=>?_,λ b o hb=>h.n9 b o (sub hb).1,λ b o hb j x hx=>?_⟩
 ·by_cases hj:j=i
  ·subst hj; rw [fl] at hx; cases hx
   refine ⟨hf.r,λ b o hb=>?_,?_,λ b o hb=>?_,hf.os,hf.tape,hf.out⟩
   ·rcases List.mem_cons.1 hb with e | hb
    ·cases e; exact h.n9 _ _ Ca
    ·exact hf.h b o hb
   ·rw [List.map_cons,List.nodup_cons]
    refine ⟨λ hm=>?_,hf.nd⟩
    obtain ⟨p,hp,he⟩:=List.mem_map.1 hm
    obtain ⟨b,o⟩:=p
    simp only at he
    subst he
    exact (kA j _ hi).2 o hp
   ·rcases List.mem_cons.1 hb with e | hb
    ·cases e; exact (kA j _ hi).1
    ·exact hf.dj b o hb
  ·rw [eo hj] at hx; exact h.fits j x hx
 ·by_cases hj:j=i
  ·subst hj; rw [fl] at hx; cases hx
   rw [eo (Ne.symm nk)] at hy
   rcases List.mem_cons.1 hb with e | hb
   ·cases e; exact kA k y hy
   ·exact h.apart j k _ _ nk hi hy b o hb
  ·rw [eo hj] at hx
   by_cases hk:k=i
   ·subst hk; rw [fl] at hy; cases hy
    have:=h.apart j k _ _ nk hx hi b o hb
    refine ⟨this.1,λ o' eN=>?_⟩
    rcases List.mem_cons.1 eN with e | eN
    ·cases e; exact (kA j x hx).2 o hb
    ·exact this.2 o' eN
   ·rw [eo hk] at hy; exact h.apart j k x y nk hx hy b o hb
 ·by_cases hj:j=i
  ·subst hj; rw [fl] at hx; cases hx
   have:=h.mA b o (sub hb).1 j _ hi
   refine ⟨this.1,λ o' eN=>?_⟩
   rcases List.mem_cons.1 eN with e | eN
   ·cases e; exact (sub hb).2 rfl
   ·exact this.2 o' eN
  ·rw [eo hj] at hx; exact h.mA b o (sub hb).1 j x hx
theorem fq.apU{i:Nat}{R:az}{H:an}{iV:Nat→Nat}(h:fq B th (gK F s js hl) w)(_:hl≠0)(hi:th i=some ⟨R,(F.bo,F.cont iV)::H⟩):fq B (fW th i (some ⟨R,H⟩)) (gK F s iV 0) w:=by
 have hf:=h.fits i _ hi
 have dR:=hf.nd
 rw [List.map_cons,List.nodup_cons] at dR
 have Cf:∀ o,(F.bo,o) ∉ H:=λ o ho=>dR.1 (List.mem_map.2 ⟨_,ho,rfl⟩)
 have key:∀ j x,fW th i (some ⟨R,H⟩) j=some x→∃ y,th j=some y∧x.R=y.R∧(∀ p,p∈x.H→p∈y.H):=λ j x hx=>by
  by_cases hj:j=i
  ·subst hj; rw [fl] at hx; cases hx
   exact ⟨_,hi,rfl,λ p hp=>List.mem_cons_of_mem _ hp⟩
  ·rw [eo hj] at hx; exact ⟨x,hx,rfl,λ p hp=>hp⟩
 refine ⟨λ j x hx=>?_,λ j k x y nk hx hy b o hb=>?_,λ b o hb=>?_,λ b o hb j x hx=>?_⟩
 ·by_cases hj:j=i
  ·subst hj; rw [fl] at hx; cases hx
   exact ⟨hf.r,λ b o hb=>hf.h b o (List.mem_cons_of_mem _ hb),dR.2,λ b o hb=>hf.dj b o (List.mem_cons_of_mem _ hb),hf.os,hf.tape,hf.out⟩
  ·rw [eo hj] at hx; exact h.fits j x hx
 ·obtain ⟨x',vA,e1,e2⟩:=key j x hx
  obtain ⟨y',qW,e3,e4⟩:=key k y hy
  have:=h.apart j k x' y' nk vA qW b o (e2 _ hb)
  exact ⟨by rw [e3]; exact this.1,λ o' eN=>this.2 o' (e4 _ eN)⟩
 ·rcases C8 hb with ⟨rfl,rfl⟩ | ⟨rfl,rfl⟩ | ⟨rfl,rfl,_⟩
  ·exact h.n9 _ _ (zR F s js hl)
  ·exact h.n9 _ _ (zS F s js hl)
  ·exact hf.h _ _ (by simp)
 ·obtain ⟨x',vA,e1,e2⟩:=key j x hx
  rcases C8 hb with ⟨rfl,rfl⟩ | ⟨rfl,rfl⟩ | ⟨rfl,rfl,_⟩
  ·have:=h.mA _ _ (zR F s js hl) j x' vA
   exact ⟨by rw [e1]; exact this.1,λ o' eN=>this.2 o' (e2 _ eN)⟩
  ·have:=h.mA _ _ (zS F s js hl) j x' vA
   exact ⟨by rw [e1]; exact this.1,λ o' eN=>this.2 o' (e2 _ eN)⟩
  ·by_cases hj:j=i
   ·subst hj; rw [fl] at hx; cases hx
    exact ⟨hf.dj F.bo (F.cont iV) (by simp),Cf⟩
   ·rw [eo hj] at hx
    have:=h.apart i j _ _ (Ne.symm hj) hi hx F.bo (F.cont iV) (by simp)
    exact this
end
end Go.Lg
namespace Go.Lg
open Go.Conc Go.ConcN
theorem OC{F:Fx}{j:Nat}(c:Lc):Dc F j (hd c)↔j < F.J:=by unfold hd; split <;> exact Iff.rfl
theorem aBJ{F:Fx}{j:Nat}(c:Lc):Dc F j (jx c)↔j < F.J:=by unfold jx; split <;> exact Iff.rfl
theorem aex{F:Fx}{j:Nat}(m:Wd):Dc F j (hu m)↔j≤F.J:=by unfold hu; split <;> exact Iff.rfl
section
variable {F:Fx} {Q:Nat} {T0 jh:Mp} {D:Nat→Ab} {js:Nat→Nat} {s s':Sh} {n i k j:Nat} {T T':Lp}
theorem aBK(h:Dc F j T)(dq:di T s T' s')(Ao:yN F j T T')(hu:gM T=false)(hq:T' ≠ .quit):Dc F j T':=by
 cases dq
 case ur=>cases hu
 case r0=>exact (OC _).2 h
 case r1=>exact (OC _).2 h
 case r3=>exact (OC _).2 h
 case yC=>exact (OC _).2 h
 case yL=>exact (aBJ _).2 h
 case xF c _ _=>cases c.ws <;> exact h
 case s1 c _ _=>cases c.sv <;> exact h
 case yM=>exact (aex _).2 h
 case ux=>exact (aex _).2 h
 case Pb=>exact Ao
 case Pd=>exact Ao
 case ID=>exact absurd rfl hq
 case d4=>exact absurd rfl hq
 all_goals exact h
theorem OB{js:Nat→Nat}(c:Lc):AH js (hd c):=by unfold hd; split <;> trivial
theorem aBI{js:Nat→Nat}(c:Lc):AH js (jx c):=by unfold jx; split <;> trivial
theorem aew{js:Nat→Nat}(m:Wd):AH js (hu m):=by unfold hu; split <;> trivial
theorem Bk.KZ(h:Bk F Q T0 D js s n):31 * n < Q:=by have:=h.Is; omega
theorem aRh{T:Lp}(h:T ≠ .quit):0 < gX T:=by cases T <;> simp only [gX] <;> first | omega | exact absurd rfl h | (split <;> omega)
theorem aDU{J:Nat}{T:Mp}(h:T ≠ .fin):0 < stM J T:=by cases T <;> simp only [stM] <;> first | omega | exact absurd rfl h
theorem Bk.sU(h:Bk F Q T0 D js s n):0 < MM F Q D s n:=akT h.pos (by have:=h.KZ; omega) (by rw [h.d0]; exact aDU h.nf)
theorem Bk.te(h:Bk F Q T0 D js s n)(hd:D i = .wk k j T)(hi:i < n)(dq:di T s T' s'){x:Ab}{iV:Nat→Nat}(hx:cA x=cW T')(Zq:∀ T,x ≠ .mn T)(hxw:∀ k' j' T1,x = .wk k' j' T1→k'=k∧T1=T'∧iV k=j'∧Dc F j' T1)
  (iC:∀ k',k'≠k→iV k'=js k') (gJ:∀ i' k' j' T1,i'≠i→D i' = .wk k' j' T1→AH iV T1) (atr:AH iV T') (arF:iV k=F.J∨∃ j',x = .wk k j' T'):Bk F Q T0 (cj D i x) iV s' n:=by
 have h0:i≠0:=λ e=>by subst e; rw [h.d0] at hd; cases hd
 obtain ⟨ot,oj,oh,ok,on⟩:=h.nb i k j T hd
 have hle:=EV (D:=D) hi
 have wu:=vV (D:=D) hi x
 rw [hd] at hle wu
 rw [hx] at wu
 obtain ⟨ha,hT'⟩:=h.sA.step ot hle dq wu
 have hg:=h.aig.step hle dq wu
 refine ⟨by rw [fC (Ne.symm h0)]; exact h.d0,h.nf,h.pos,λ i' iB=>by rw [fC (by omega)]; exact h.out i' iB,λ i' T hT=>?_,ha,hg,λ i' k' j' T1 hT=>?_,λ i1 i2 k' j1 j2 T1 T2 h1 h2=>?_,λ k' cR=>?_,λ k' cR=>?_,h.Is⟩
 ·by_cases e:i'=i
  ·subst e; rw [jL] at hT; exact absurd hT (Zq T)
  ·rw [fC e] at hT; exact h.main i' T hT
 ·by_cases e:i'=i
  ·subst e; rw [jL] at hT
   obtain ⟨rfl,rfl,h3,h4⟩:=hxw k' j' T1 hT
   exact ⟨hT',h4,atr,h3,on⟩
  ·rw [fC e] at hT
   obtain ⟨a1,a2,a3,a4,a5⟩:=h.nb i' k' j' T1 hT
   have Nv:k'≠k:=λ e'=>by subst e'; exact e (h.rL i' i k' j' j T1 T hT hd)
   exact ⟨a1,a2,gJ i' k' j' T1 e hT,by rw [iC k' Nv]; exact a4,a5⟩
 ·have key:∀ i1 j1 T1,cj D i x i1 = .wk k' j1 T1→∃ j' T',D i1 = .wk k' j' T':=λ i1 j1 T1 h1=>by
   by_cases e:i1=i
   ·subst e; rw [jL] at h1
    obtain ⟨rfl,_⟩:=hxw k' j1 T1 h1
    exact ⟨_,_,hd⟩
   ·rw [fC e] at h1; exact ⟨_,_,h1⟩
  obtain ⟨_,_,e1⟩:=key i1 j1 T1 h1
  obtain ⟨_,_,e2⟩:=key i2 j2 T2 h2
  exact h.rL _ _ _ _ _ _ _ e1 e2
 ·by_cases e:k'=k
  ·subst e
   rcases arF with hz | ⟨j',hz⟩
   ·exact .inl hz
   ·exact .inr ⟨i,j',T',by rw [jL]; exact hz⟩
  ·rcases h.done k' cR with hz | ⟨i',j',T1,hz⟩
   ·exact .inl (by rw [iC k' e]; exact hz)
   ·refine .inr ⟨i',j',T1,?_⟩
    rw [fC (λ e'=>by subst e'; rw [hd] at hz; cases hz; exact e rfl)]; exact hz
 ·have e:k'≠k:=λ e=>by subst e; omega
  rw [iC k' e]; exact h.Ow k' cR
theorem Bk.work(h:Bk F Q T0 D js s n)(hd:D i = .wk k j T)(hi:i < n)(dq:di T s T' s')(Ao:yN F j T T')(V6:AH js T')(hu:gM T=false)(hq:T' ≠ .quit) :
  Bk F Q T0 (cj D i (.wk k j T')) js s' n∧MM F Q (cj D i (.wk k j T')) s' n < MM F Q D s n:=by
 obtain ⟨ot,oj,oh,ok,on⟩:=h.nb i k j T hd
 refine ⟨h.te hd hi dq rfl (λ T=>by simp) (λ k' j' T1 e=>?_) (λ _ _=>rfl) (λ i' k' j' T1 _ e=>(h.nb i' k' j' T1 e).2.2.1) V6 (.inr ⟨j,rfl⟩),Mh hi h.KZ ?_⟩
 ·cases e; exact ⟨rfl,rfl,ok,aBK oj dq Ao hu hq⟩
 ·rw [hd]
  have:=dq.Nf ot
  simp only [hu,Bool.false_eq_true,if_false] at this
  simp only [cP,oA]
  rcases this with z | ⟨z1,_,z2,z3,z4⟩
  ·left; omega
  ·right; exact ⟨by omega,z2,z3,z4⟩
theorem Bk.ur(h:Bk F Q T0 D js s n)(hd:D i = .wk k j (.ur js))(hi:i < n) :
  Bk F Q T0 (cj D i (.wk k (j+1) .ud)) (gn js k (j+1)) s n∧MM F Q (cj D i (.wk k (j+1) .ud)) s n < MM F Q D s n:=by
 obtain ⟨ot,oj,oh,ok,on⟩:=h.nb i k j _ hd
 have oj':j < F.J:=oj
 refine ⟨h.te hd hi .ur rfl (λ T=>by simp) (λ k' j' T1 e=>?_) (λ k' cR=>tf cR) (λ i' k' j' T1 dU e=>?_) trivial (.inr ⟨_,rfl⟩),Mh hi h.KZ ?_⟩
 ·cases e; exact ⟨rfl,rfl,ti _ _ _,oj'⟩
 ·
  have hb:=h.sA
  have h1:=hb.ow
  have h2:=hb.l1
  have a1:(cA (D i)).hl=1:=by rw [hd]; rfl
  cases T1 with
  | ul z =>
   have a2:(cA (D i')).hl=1:=by rw [e]; rfl
   have:2≤(cnt D n).hl:=by
    have iB:i' < n:=by
     apply Classical.byContradiction
     intro hn
     rw [h.out i' (by omega)] at e; cases e
    have t1:=(vV (D:=D) hi .no).hl
    have t2:=(EV (D:=cj D i .no) iB).hl
    rw [fC dU,a2] at t2
    rw [a1] at t1
    simp only [cA,Cn.zero] at t1
    omega
   omega
  | uv z =>
   have a2:(cA (D i')).hl=1:=by rw [e]; rfl
   have:2≤(cnt D n).hl:=by
    have iB:i' < n:=by
     apply Classical.byContradiction
     intro hn
     rw [h.out i' (by omega)] at e; cases e
    have t1:=(vV (D:=D) hi .no).hl
    have t2:=(EV (D:=cj D i .no) iB).hl
    rw [fC dU,a2] at t2
    rw [a1] at t1
    simp only [cA,Cn.zero] at t1
    omega
   omega
  | ur z =>
   have a2:(cA (D i')).hl=1:=by rw [e]; rfl
   have:2≤(cnt D n).hl:=by
    have iB:i' < n:=by
     apply Classical.byContradiction
     intro hn
     rw [h.out i' (by omega)] at e; cases e
    have t1:=(vV (D:=D) hi .no).hl
    have t2:=(EV (D:=cj D i .no) iB).hl
    rw [fC dU,a2] at t2
    rw [a1] at t1
    simp only [cA,Cn.zero] at t1
    omega
   omega
  | _=>trivial
 ·rw [hd]
  left
  simp only [cP,gX]
  have:F.J - j=(F.J - (j+1))+1:=by omega
  omega
theorem Bk.quit(h:Bk F Q T0 D js s n)(hd:D i = .wk k j T)(hi:i < n)(dq:di T s .quit s')(hj:j=F.J)(hu:gM T=false) :
  Bk F Q T0 (cj D i .no) js s' n∧MM F Q (cj D i .no) s' n < MM F Q D s n:=by
 obtain ⟨ot,oj,oh,ok,on⟩:=h.nb i k j T hd
 refine ⟨h.te hd hi dq rfl (λ T=>by simp) (λ k' j' T1 e=>by cases e) (λ _ _=>rfl) (λ i' k' j' T1 _ e=>(h.nb i' k' j' T1 e).2.2.1) trivial (.inl (ok.trans hj)),Mh hi h.KZ ?_⟩
 rw [hd]
 have:=dq.Nf ot
 simp only [hu,Bool.false_eq_true,if_false] at this
 simp only [cP,oA]
 rcases this with z | ⟨z1,_,z2,z3,z4⟩
 ·left; omega
 ·right; have z5:gX Lp.quit=0:=rfl; subst hj; exact ⟨by omega,z2,z3,z4⟩
theorem aCY(dq:gz T0 s jh s')(h:jh ≠ .fin):rem jh=rem T0:=by cases dq <;> rfl
theorem Bk.aBm(h:Bk F Q T0 D js s n)(dq:gz T0 s jh s')(hf:jh ≠ .fin):Bk F Q jh (cj D 0 (.mn jh)) js s' n∧MM F Q (cj D 0 (.mn jh)) s' n < MM F Q D s n:=by
 have hr:=aCY dq hf
 have wu:=vV (D:=D) h.pos (.mn jh)
 rw [h.d0] at wu
 have ec:cnt (cj D 0 (.mn jh)) n=cnt D n:=by
  obtain ⟨g1,g2,g3,g4,g5,g6,g7,g8,g9,c6,cB,cC,cD⟩:=wu
  simp only [cA,Cn.zero,Nat.add_zero] at *
  generalize cnt (cj D 0 (.mn jh)) n=c' at *
  generalize cnt D n=c at *
  cases c; cases c'; simp only [Cn.mk.injEq] at *
  exact ⟨g1,g2,g3,g4,g5,g6,g7,g8,g9,c6,cB,cC,cD⟩
 have key:∀ i' k' j' T1,cj D 0 (.mn jh) i' = .wk k' j' T1→D i' = .wk k' j' T1:=λ i' k' j' T1 e=>by
  by_cases e0:i'=0
  ·subst e0; rw [jL] at e; cases e
  ·rwa [fC e0] at e
 refine ⟨⟨jL _ _ _,hf,h.pos,λ i' iB=>by rw [fC (by have:=h.pos; omega)]; exact h.out i' iB,λ i' T hT=>?_,by rw [ec]; exact h.sA.main dq,by rw [ec]; exact h.aig.main dq,λ i' k' j' T1 e=>by rw [hr]; exact h.nb i' k' j' T1 (key _ _ _ _ e),
  λ i1 i2 k' j1 j2 T1 T2 h1 h2=>h.rL _ _ _ _ _ _ _ (key _ _ _ _ h1) (key _ _ _ _ h2),λ k' cR=>?_,λ k' cR=>h.Ow k' (by rw [← hr]; exact cR),by rw [hr]; exact h.Is⟩,Mh h.pos h.KZ ?_⟩
 ·by_cases e0:i'=0
  ·exact e0
  ·rw [fC e0] at hT; exact h.main i' T hT
 ·rcases h.done k' (by rw [← hr]; exact cR) with z | ⟨i',j',T1,z⟩
  ·exact .inl z
  ·exact .inr ⟨i',j',T1,by rw [fC (λ e=>by subst e; rw [h.d0] at z; cases z)]; exact z⟩
 ·rw [h.d0]; exact dq.Nf
theorem OY(r:Nat):rem (kN r)=r:=by cases r <;> rfl
theorem aBF(r:Nat):kN r ≠ .fin:=by cases r <;> simp [kN]
theorem Bk.spawn{r:Nat}(h:Bk F Q (.go r) D js s n):Bk F Q (kN r) (cj (cj D n (.wk (F.N - (r+1)) 0 .ld)) 0 (.mn (kN r))) js s (n+1)∧MM F Q (cj (cj D n (.wk (F.N - (r+1)) 0 .ld)) 0 (.mn (kN r))) s (n+1) < MM F Q D s n:=by
 have wu:=abR (D:=D) h.pos (.mn (kN r)) (.wk (F.N - (r+1)) 0 .ld) rfl (by rw [h.d0]; rfl)
 have iN:=h.pos
 have hle:=h.aig.le
 simp only [rem] at hle
 have hrN:r+1≤F.N:=by omega
 have key:∀ i' k' j' T1,cj (cj D n (.wk (F.N - (r+1)) 0 .ld)) 0 (.mn (kN r)) i' = .wk k' j' T1→(i'=n∧k'=F.N - (r+1)∧j'=0∧T1 = .ld)∨D i' = .wk k' j' T1:=λ i' k' j' T1 e=>by
  by_cases e0:i'=0
  ·subst e0; rw [jL] at e; cases e
  ·rw [fC e0] at e
   by_cases en:i'=n
   ·subst en; rw [jL] at e; cases e; exact .inl ⟨rfl,rfl,rfl,rfl⟩
   ·rw [fC en] at e; exact .inr e
 refine ⟨⟨jL _ _ _,aBF r,by omega,λ i' iB=>by rw [fC (by omega),fC (by omega)]; exact h.out i' (by omega),λ i' T hT=>?_,h.sA.spawn h.aig wu,h.aig.spawn wu,λ i' k' j' T1 e=>?_,λ i1 i2 k' j1 j2 T1 T2 h1 h2=>?_,λ k' cR=>?_,λ k' cR=>?_,?_⟩,akU iN ?_ ?_⟩
 ·by_cases e0:i'=0
  ·exact e0
  ·rw [fC e0] at hT
   by_cases en:i'=n
   ·subst en; rw [jL] at hT; cases hT
   ·rw [fC en] at hT; exact h.main i' T hT
 ·rw [OY]
  rcases key i' k' j' T1 e with ⟨rfl,rfl,rfl,rfl⟩ | z
  ·exact ⟨trivial,F.hJ,trivial,h.Ow _ (by simp only [rem]; omega),by omega⟩
  ·obtain ⟨a1,a2,a3,a4,a5⟩:=h.nb i' k' j' T1 z
   simp only [rem] at a5
   exact ⟨a1,a2,a3,a4,by omega⟩
 ·rcases key i1 k' j1 T1 h1 with ⟨q1,e1,_,_⟩ | z1 <;> rcases key i2 k' j2 T2 h2 with ⟨q2,e2,_,_⟩ | z2
  ·exact q1.trans q2.symm
  ·have:=(h.nb i2 _ j2 T2 z2).2.2.2.2; simp only [rem] at this; omega
  ·have:=(h.nb i1 _ j1 T1 z1).2.2.2.2; simp only [rem] at this; omega
  ·exact h.rL _ _ _ _ _ _ _ z1 z2
 ·rw [OY] at cR
  by_cases e:k'+(r+1) < F.N
  ·rcases h.done k' e with z | ⟨i',j',T1,z⟩
   ·exact .inl z
   ·refine .inr ⟨i',j',T1,?_⟩
    rw [fC (λ e=>by rw [e,h.d0] at z; cases z),fC (λ e=>by rw [e,h.out n (Nat.le_refl _)] at z; cases z)]; exact z
  ·exact .inr ⟨n,0,.ld,by rw [fC (by omega),jL]; congr 1; omega⟩
 ·rw [OY] at cR; exact h.Ow k' (by simp only [rem]; omega)
 ·rw [OY]; have:=h.Is; simp only [rem] at this; omega
 ·have:=h.Is; simp only [rem] at this; omega
 ·rw [h.d0]
  have:=aDC F.J r
  simp only [cP]
  omega
end
end Go.Lg
namespace Go.Lg
open Go.Conc Go.ConcN
theorem BC.Dw{P:Program}{B:Base}{main:Bool}{K:az→an→Goroutine→Prop}{T:Tree}{R:az}{H:an}{g:Goroutine}(h:BC P B main K T R H g)(hs:∀ R H g,K R H g→g.status = .running):g.status = .running:=by
 induction T generalizing R H g with
 | node ι f ih =>
  rcases h with h | ⟨h,_⟩ | ⟨R',H',i,_,h⟩
  ·exact hs _ _ _ h
  ·exact h
  ·exact ih i h
theorem CN{gs:Array Goroutine}{i:Nat}{g:Goroutine}(h:gs[i]? = some g):i < gs.size:=(Array.getElem?_eq_some_iff.1 h).1
theorem Ib.woken{P:Program}{K:Goroutine→Prop}{z z':Prop}{a a' x:Goroutine}{w:World}(h:Ib K z x)(hz:(mayWake P a=true∧a'.status ≠ .blocked∧a'.status ≠ .waiting)∨(z→z')):Ib K z' (woken P a a' w x):=by
 obtain ⟨g0,hK,hr,ho,hg⟩:=h
 refine ⟨g0,hK,hr,ho,?_⟩
 rcases hg with rfl | ⟨rfl,WG⟩
 ·left
  unfold Conc.woken
  split
  ·exact again_running _ (.inl hr)
  ·rfl
 ·rcases hz with ⟨h1,h2,h3⟩ | hz
  ·left
   unfold Conc.woken
   rw [if_pos (by simp [h1,h2,h3])]
   obtain ⟨f,c,st,d,o⟩:=g0
   simp only at hr ho
   subst hr ho
   rfl
  ·unfold Conc.woken
   split
   ·left
    obtain ⟨f,c,st,d,o⟩:=g0
    simp only at hr ho
    subst hr ho
    rfl
   ·right; exact ⟨rfl,hz WG⟩
theorem BD.run{P:Program}{K:Goroutine→Prop}(hK:∀ g,K g→g.status = .running):∀ {q:Nat} {g:Goroutine},BD P K q g→g.status = .running
 | 0,_,h=>hK _ h
 | _+1,_,h=>h.elim (hK _) (·.1)
section
variable {F:Fx} {Q:Nat} {T0:Mp} {D:Nat→Ab} {m:Nat→Ms} {js:Nat→Nat} {s s':Sh} {th:Nat→Option Th} {mu:Nat→Bool} {dd:Nat→Nat} {gs:Array Goroutine} {w:World} {t:Trace} {sl:Option (Nat × Nat)} {i:Nat} {g:Goroutine}
theorem KW.run{n k j:Nat}{T:Lp}{R:az}{H:an}(h:KW F n k j T R H g)(hn:0 < n)(ho:qK F.N T):g.status = .running∧g.offers=none:=by
 cases n with
 | zero=>omega
 | succ n=>have:=h ho; exact ⟨this.1,this.2.1⟩
theorem KM.run{n:Nat}{T:Mp}{R:az}{H:an}(h:KM F n T R H g)(hn:0 < n):g.status = .running∧g.offers=none:=by
 cases n with
 | zero=>omega
 | succ n=>exact ⟨h.1,h.2.1⟩
theorem qp.look{μ:Nat}{mm:Ms}{x:Option Th}{b:Bool}{d:Nat}{A:Ab}(h:qp F μ s i mm x b d g A)(WH:0 < μ)(hT:∀ k j T,A = .wk k j T→qK F.N T) :
  (g.status = .running)∨(g.status = .finished∧A = .no)∨(g.status = .blocked∧mm=none∧((∃ k j c,A = .wk k j (.s1 c)∧s.ms=0)∨(A = .mn .w3∧s.ws=0))):=by
 cases A with
 | no =>
  obtain ⟨_,_,q,_,hq⟩:=h
  rcases hq.status with x | x
  ·exact .inl x
  ·exact .inr (.inl ⟨x,rfl⟩)
 | wk k j T =>
  obtain ⟨_,_,_,y,n,_,hn,h⟩:=h
  have ho:=hT k j T rfl
  split at h
  ·obtain ⟨q,_,hq⟩:=h
   exact .inl (hq.run λ g hg=>(hg.run (by omega) ho).1)
  ·rcases h with ⟨Tr,_,h⟩ | ⟨rfl,⟨c,rfl⟩,g0,hK,hr,_,hg⟩
   ·exact .inl (h.Dw λ R H g hg=>(KW.run hg (by omega) ho).1)
   ·rcases hg with rfl | ⟨rfl,hz⟩
    ·exact .inl hr
    ·exact .inr (.inr ⟨rfl,rfl,.inl ⟨k,j,c,rfl,hz⟩⟩)
 | mn T =>
  obtain ⟨_,_,_,y,n,_,hn,h⟩:=h
  rcases h with ⟨Tr,_,h⟩ | ⟨rfl,rfl,g0,hK,hr,_,hg⟩
  ·exact .inl (h.Dw λ R H g hg=>(KM.run hg (by omega)).1)
  ·rcases hg with rfl | ⟨rfl,hz⟩
   ·exact .inl hr
   ·exact .inr (.inr ⟨rfl,rfl,.inr ⟨rfl,hz⟩⟩)
theorem qp.woken{μ Ls:Nat}{mm:Ms}{x:Option Th}{b:Bool}{d:Nat}{A:Ab}{a a':Goroutine}{w':World}(h:qp F μ s i mm x b d g A)(WH:0 < μ)(hT:∀ k j T,A = .wk k j T→qK F.N T)(hle:Ls≤μ)
  (hz:(mayWake F.P a=true∧a'.status ≠ .blocked∧a'.status ≠ .waiting)∨(s'.ms≤s.ms∧s'.ws≤s.ws)):qp F Ls s' i mm x b d (Conc.woken F.P a a' w' g) A:=by
 have run:g.status = .running→Conc.woken F.P a a' w' g=g:=λ hr=>by
  unfold Conc.woken
  split
  ·exact again_running _ (.inl hr)
  ·rfl
 cases A with
 | no =>
  obtain ⟨h1,h2,q,h3,hq⟩:=h
  exact ⟨h1,h2,q,h3,by rw [woken_quitsD hq]; exact hq⟩
 | wk k j T =>
  obtain ⟨h1,h2,h3,y,n,h4,hn,h⟩:=h
  have ho:=hT k j T rfl
  refine ⟨h1,h2,h3,y,n,h4,by omega,?_⟩
  split
  ·rename_i hm
   rw [if_pos hm] at h
   obtain ⟨q,h5,hq⟩:=h
   exact ⟨q,h5,by rw [run (hq.run λ g hg=>(hg.run (by omega) ho).1)]; exact hq⟩
  ·rename_i hm
   rw [if_neg hm] at h
   rcases h with ⟨Tr,h5,h⟩ | ⟨h5,h6,hS⟩
   ·exact .inl ⟨Tr,h5,by rw [run (h.Dw λ R H g hg=>(KW.run hg (by omega) ho).1)]; exact h⟩
   ·exact .inr ⟨h5,h6,hS.woken (hz.imp id λ z h0=>by omega)⟩
 | mn T =>
  obtain ⟨h1,h2,h3,y,n,h4,hn,h⟩:=h
  refine ⟨h1,h2,h3,y,n,h4,by omega,?_⟩
  rcases h with ⟨Tr,h5,h⟩ | ⟨h5,h6,hS⟩
  ·exact .inl ⟨Tr,h5,by rw [run (h.Dw λ R H g hg=>(KM.run hg (by omega)).1)]; exact h⟩
  ·exact .inr ⟨h5,h6,hS.woken (hz.imp id λ z h0=>by omega)⟩
theorem MI.at(h:MI F Q T0 D m js s th mu dd gs w t)(d:Nat):MI F Q T0 D m js s th mu dd gs (w.at d) t:=⟨h.mem.at d,h.tr,h.w7,h.out,h.bk⟩
theorem MI.nb(h:MI F Q T0 D m js s th mu dd gs w t)(i:Nat):∀ k j T,D i = .wk k j T→qK F.N T:=λ k j T hd=>(h.bk.nb i k j T hd).1
theorem MI.te(h:MI F Q T0 D m js s th mu dd gs w t)(hi:gs[i]? = some g){x:Ab}{m':Ms}{jh:Mp}{iV:Nat→Nat}{jJ:Nat→Option Th}{mu':Nat→Bool}{dd':Nat→Nat}{g':Goroutine}{w':World}{t':Trace}
  (hz:(mayWake F.P g=true∧g'.status ≠ .blocked∧g'.status ≠ .waiting)∨(s'.ms≤s.ms∧s'.ws≤s.ws))
  (hM:MM F Q (cj D i x) s' gs.size≤MM F Q D s gs.size) (hm:fq F.B jJ (gK F s' iV (cnt (cj D i x) gs.size).hl) w') (ht:cQ (some (am F)) (some (aw F)) jJ mu' dd' [F.bm,F.bw] (qC F (cnt (cj D i x) gs.size).hl) w'.heap.size t')
  (hs:qp F (MM F Q (cj D i x) s' gs.size) s' i m' (jJ i) (mu' i) (dd' i) g' x) (ho:∀ j,j≠i→jJ j=th j∧mu' j=mu j∧dd' j=dd j) (hb:Bk F Q jh (cj D i x) iV s' gs.size) :
  MI F Q jh (cj D i x) (mJ m i m') iV s' jJ mu' dd' ((gs.map (Conc.woken F.P g g' w')).setIfInBounds i g') w' t':=by
 have bK:=CN hi
 have fN:((gs.map (Conc.woken F.P g g' w')).setIfInBounds i g').size=gs.size:=by simp
 refine ⟨by rw [fN]; exact hm,by rw [fN]; exact ht,λ j y hj=>?_,λ j hj=>?_,by rw [fN]; exact hb⟩
 ·rw [fN]
  by_cases fZ:j=i
  ·subst fZ
   rw [Array.getElem?_setIfInBounds_self_of_lt (by simpa using bK)] at hj; cases hj
   rw [jL,K7]; exact hs
  ·rw [Array.getElem?_setIfInBounds_ne (Ne.symm fZ),Array.getElem?_map] at hj
   obtain ⟨z,WG,rfl⟩:=Option.map_eq_some_iff.1 hj
   obtain ⟨e1,e2,e3⟩:=ho j fZ
   rw [fC fZ,Gx fZ,e1,e2,e3]
   exact (h.w7 j z WG).woken h.bk.sU (h.nb j) hM hz
 ·rw [fN] at hj
  obtain ⟨e1,e2,e3⟩:=ho j (by omega)
  rw [e1,e2,e3]; exact h.out j hj
theorem aEf{D:Nat→Ab}{i:Nat}{x:Ab}(h:D i=x):cj D i x=D:=by
 funext j; unfold cj; split
 ·rename_i e; subst e; exact h.symm
 ·rfl
theorem MI.still(h:MI F Q T0 D m js s th mu dd gs w t)(hi:gs[i]? = some g){m':Ms}{jJ:Nat→Option Th}{dd':Nat→Nat}{g':Goroutine}{w':World}{t':Trace}(hm:fq F.B jJ (gK F s js (cnt D gs.size).hl) w')(ht:cQ (some (am F)) (some (aw F)) jJ mu dd' [F.bm,F.bw] (qC F (cnt D gs.size).hl) w'.heap.size t')
  (hs:qp F (MM F Q D s gs.size) s i m' (jJ i) (mu i) (dd' i) g' (D i)) (ho:∀ j,j≠i→jJ j=th j∧dd' j=dd j) :
  MI F Q T0 D (mJ m i m') js s jJ mu dd' ((gs.map (Conc.woken F.P g g' w')).setIfInBounds i g') w' t':=by
 have e:=aEf (D:=D) (i:=i) rfl
 have:=h.te (x:=D i) (m':=m') (jh:=T0) (iV:=js) (s':=s) (jJ:=jJ) (mu':=mu) (dd':=dd') (g':=g') (w':=w') (t':=t') hi (.inr ⟨Nat.le_refl _,Nat.le_refl _⟩) (by rw [e]; exact Nat.le_refl _) (by rw [e]; exact hm) (by rw [e]; exact ht) (by rw [e]; exact hs) (λ j hj=>⟨(ho j hj).1,rfl,(ho j hj).2⟩) (by rw [e]; exact h.bk)
 rwa [e] at this
end
end Go.Lg
namespace Go.Lg
open Go.Conc Go.ConcN
theorem abV{t u:Trace}{g:Nat}:∀ {r:Nat},r≤u.size→(t++u).deaf g (t.size+r)=(u.toList.take r).foldl (deafStep g) (Deaf t g)
 | 0,_=>by simp only [Nat.add_zero,List.take_zero,List.foldl_nil]; exact deaf_old (Nat.le_refl _)
 | r+1,h=>by
  have ih:=abV (t:=t) (u:=u) (g:=g) (r:=r) (by omega)
  have hr:r < u.size:=by omega
  have hu:(t++u)[t.size+r]? = some u[r]:=by
   rw [Array.getElem?_append_right (by omega),Nat.add_sub_cancel_left,Array.getElem?_eq_getElem hr]
  rw [← Nat.add_assoc,deaf_succ hu,ih]
  have:u.toList.take (r+1)=u.toList.take r++[u[r]]:=by
   rw [List.take_add_one]
   simp [hr]
  rw [this,List.foldl_append]
  rfl
theorem abW{g:Nat}:∀ {l:List MemOp} {d:Nat},(∀ op∈l,op.act ≠ .mark .enable)→d≤l.foldl (deafStep g) d
 | [],_,_=>Nat.le_refl _
 | y::l,d,h=>by
  have h1:d≤deafStep g d y:=by
   unfold deafStep
   split
   ·split <;> omega
   ·rename_i e; exact absurd e (h y (by simp))
   ·exact Nat.le_refl _
  exact Nat.le_trans h1 (abW λ op au=>h op (List.mem_cons_of_mem _ au))
section
variable {F:Fx} {th:Nat→Option Th} {mu:Nat→Bool} {dd:Nat→Nat} {s:Sh} {js:Nat→Nat} {hl i:Nat} {w:World} {t:Trace} {fn:FuncId} {pos:String} {es:Array Event} {R:az} {H:an}
theorem ad1(h:fq F.B th (gK F s js hl) w):F.bm < w.heap.size:=lE (h.n9 _ _ (zR F s js hl))
theorem Oa(h:fq F.B th (gK F s js hl) w):F.bw < w.heap.size:=lE (h.n9 _ _ (zS F s js hl))
theorem al2(_:fq F.B th (gK F s js hl) w)(he:qn F es):∀ op∈MemOp.ofEvents i fn pos es,op.g=i∧(op.act = .mark .disable∨op.act = .mark .enable∨∃ a wr,op.act = .access ⟨.cell a,wr,true⟩∧(a.block=F.bm∨a.block=F.bw)):=by
 intro op au
 obtain ⟨e,oe,rfl⟩:=AF au
 refine ⟨rfl,?_⟩
 rcases he with he | ⟨a,ha,rfl⟩
 ·obtain ⟨a,wr,rfl,ha⟩:=he e oe
  exact .inr (.inr ⟨a,wr,by cases wr <;> rfl,ha⟩)
 ·simp only [semEvents,List.mem_toArray,List.mem_cons,List.not_mem_nil,or_false] at oe
  rcases oe with rfl | rfl | rfl | rfl
  ·exact .inl rfl
  ·exact .inr (.inr ⟨a,false,rfl,ha⟩)
  ·exact .inr (.inr ⟨a,true,rfl,ha⟩)
  ·exact .inr (.inl rfl)
theorem al1(he:qn F es)(d:Nat):deafBehind d es=d:=by
 rcases he with he | ⟨a,_,rfl⟩
 ·obtain ⟨l⟩:=es
  unfold deafBehind
  simp only [List.foldl_toArray']
  induction l with
  | nil=>rfl
  | cons e l ih =>
   obtain ⟨a,wr,rfl,_⟩:=he e (by simp)
   exact ih λ e' LH=>he e' (by simp at LH ⊢; exact .inr LH)
 ·simp [deafBehind,semEvents]
theorem cQ.Sf(hM:fq F.B th (gK F s js hl) w)(h:cQ (some (am F)) (some (aw F)) th mu dd [F.bm,F.bw] (qC F hl) w.heap.size t)(hi:th i=some ⟨R,H⟩)(he:qn F es)(hc:mu i=false∨1≤dd i) :
  cQ (some (am F)) (some (aw F)) th mu dd [F.bm,F.bw] (qC F hl) w.heap.size (t++MemOp.ofEvents i fn pos es):=by
 have Fi:=al2 (i:=i) (fn:=fn) (pos:=pos) hM he
 have:=cQ.app (u:=MemOp.ofEvents i fn pos es) (n':=w.heap.size) (R':=R) (H':=H) (d':=dd i) hM rfl (Iz F s js hl) (Iy F s js hl) h hi (λ op au=>(Fi op au).1) (λ op au a ha=>?_) (λ op au=>?_) (λ op au a=>?_) (by rw [Deaf_own,h.deaf i,al1 he]) ?_ (Nat.le_refl _) (λ _ _ x=>.inl x) (λ _ o x=>.inl ⟨o,x⟩)
 ·rwa [Dx hi,mK] at this
 ·rcases (Fi op au).2 with e | e | ⟨a',wr,e,hb⟩ <;> rw [e] at ha
  ·cases ha
  ·cases ha
  ·simp only [MemAct.touch?,Option.some.injEq] at ha
   subst ha
   exact .inr ⟨a'.block,rfl,by rcases hb with hb | hb <;> simp [hb],.inl rfl⟩
 ·rcases (Fi op au).2 with e | e | ⟨a',wr,e,hb⟩ <;> rw [e]
  ·trivial
  ·trivial
  ·show a'.block < _
   rcases hb with hb | hb <;> rw [hb]
   ·exact ad1 hM
   ·exact Oa hM
 ·rcases (Fi op au).2 with e | e | ⟨a',wr,e,hb⟩ <;> rw [e] <;> intro x <;> cases x
 ·refine hc.imp id λ hd k a hk Jk eU=>?_
  rcases eU with eU | ⟨g,hg,hz⟩
  ·obtain ⟨op,h1,h2⟩:=touch_of Jk
   rcases getElem?_append_cases h1 with ⟨bK,_⟩ | ⟨_,h3⟩
   ·omega
   ·rcases (Fi op h3).2 with e | e | ⟨a',wr,e,hb⟩ <;> rw [e] at h2
    ·cases h2
    ·cases h2
    ·simp only [MemAct.touch?,Option.some.injEq] at h2
     subst h2; exact eU rfl
  ·obtain ⟨op,h1,h2⟩:=touch_of Jk
   have bK:=lt_size_of_getElem? h1
   rw [Array.size_append] at bK
   have YW:g=i:=by
    rcases getElem?_append_cases h1 with ⟨bK,_⟩ | ⟨_,h3⟩
    ·omega
    ·rw [Trace.g?,h1] at hg
     simp only [Option.map_some,Option.some.injEq] at hg
     rw [← hg]; exact (Fi op h3).1
   subst YW
   obtain ⟨r,rfl⟩:∃ r,k=t.size+r:=⟨k - t.size,by omega⟩
   rw [abV (by omega),h.deaf g] at hz
   have hup:dd g≤((MemOp.ofEvents g fn pos es).toList.take r).foldl (deafStep g) (dd g):=by
    refine abW λ op' Uz=>?_
    rcases he with he | ⟨a',ha',rfl⟩
    ·have hm:op'∈MemOp.ofEvents g fn pos es:=by simpa using List.mem_of_mem_take Uz
     obtain ⟨e,oe,rfl⟩:=AF hm
     obtain ⟨a',wr,rfl,_⟩:=he e oe
     cases wr <;> (intro x; cases x)
    ·have hr:r≤3:=by simp [MemOp.ofEvents,semEvents] at bK; omega
     have e4:(MemOp.ofEvents g fn pos (semEvents a')).toList=[⟨g,fn,pos,.mark .disable⟩,⟨g,fn,pos,.access ⟨.cell a',false,true⟩⟩,⟨g,fn,pos,.access ⟨.cell a',true,true⟩⟩,⟨g,fn,pos,.mark .enable⟩]:=by simp [MemOp.ofEvents,semEvents,MemAct.ofEvent]
     rw [e4] at Uz
     have h3:op'∈[(⟨g,fn,pos,.mark .disable⟩:MemOp),⟨g,fn,pos,.access ⟨.cell a',false,true⟩⟩,⟨g,fn,pos,.access ⟨.cell a',true,true⟩⟩]:=by
      have:([(⟨g,fn,pos,.mark .disable⟩:MemOp),⟨g,fn,pos,.access ⟨.cell a',false,true⟩⟩,⟨g,fn,pos,.access ⟨.cell a',true,true⟩⟩,⟨g,fn,pos,.mark .enable⟩]).take r <+: ([(⟨g,fn,pos,.mark .disable⟩:MemOp),⟨g,fn,pos,.access ⟨.cell a',false,true⟩⟩,⟨g,fn,pos,.access ⟨.cell a',true,true⟩⟩,⟨g,fn,pos,.mark .enable⟩]).take 3:=List.take_prefix_take_left hr
      exact this.subset Uz
     simp only [List.mem_cons,List.not_mem_nil,or_false] at h3
     rcases h3 with rfl | rfl | rfl <;> (intro x; cases x)
   omega
theorem cQ.word{m:Mark}{am' aw':Option Addr}{sh:List Nat}{fr:Option Nat}{n:Nat}(h:cQ am' aw' th mu dd sh fr n t)(hm:m = .disable∨m = .enable) :
  cQ am' aw' th mu (gn dd i (deafBehind (dd i) (said m))) sh fr n (t++MemOp.ofEvents i fn pos (said m)):=by
 refine h.leaves λ e he=>?_
 simp only [said,List.mem_toArray,List.mem_cons,List.not_mem_nil,or_false] at he
 subst he
 rcases hm with rfl | rfl <;> rfl
end
end Go.Lg
namespace Go.Lg
open Go.Conc Go.ConcN
theorem MS(c:Lc):oR (hd c)=1:=by unfold hd; split <;> rfl
theorem amP(c:Lc):oR (jx c)=1:=by unfold jx; split <;> rfl
theorem abY(m:Wd):oR (hu m)=1:=by unfold hu; split <;> rfl
theorem Ot(c:Lc):km (hd c)=false:=by unfold hd; split <;> rfl
theorem aBx(c:Lc):km (jx c)=false:=by unfold jx; split <;> rfl
theorem aeo(m:Wd):km (hu m)=false:=by unfold hu; split <;> rfl
inductive L9 (F:Fx):Lp→Lp→Array Event→Prop
 | at {T T' es}:qn F es→oR T'=oR T→km T'=km T→L9 F T T' es
 | zU {T T'}:oR T=0→oR T'=1→km T'=km T→L9 F T T' (said .disable)
 | en {T T'}:oR T=1→oR T'=0→km T'=km T→L9 F T T' (said .enable)
theorem TY{c:Lc}{T:Lp}(h1:∀ c,T ≠ .sq c)(h2:∀ c,T ≠ .c2 c):hd c≠T:=by unfold hd; split <;> exact λ e=>by subst e; first | exact h1 _ rfl | exact h2 _ rfl
theorem XP{c:Lc}{T:Lp}(h1:∀ c,T ≠ .c1 c)(h2:∀ c,T ≠ .r1 c):jx c≠T:=by unfold jx; split <;> exact λ e=>by subst e; first | exact h1 _ rfl | exact h2 _ rfl
theorem V5{m:Wd}{T:Lp}(h1:T ≠ .ue)(h2:∀ c,T ≠ .uc c):hu m≠T:=by unfold hu; split <;> exact λ e=>by subst e; first | exact h1 rfl | exact h2 _ rfl
theorem di.inv{s s':Sh}{T T':Lp}(h:di T s T' s'):(∀ js,T' = .ul js→T = .la)∧(T' = .ud→gM T=true)∧(T' = .quit→T = .d1∨T = .d4):=by
 have k1:∀ c,(∀ js,hd c = .ul js→T = .la)∧(hd c = .ud→gM T=true)∧(hd c = .quit→T = .d1∨T = .d4):=λ c=>⟨λ js e=>absurd e (TY (by simp) (by simp)),λ e=>absurd e (TY (by simp) (by simp)),λ e=>absurd e (TY (by simp) (by simp))⟩
 have k2:∀ c,(∀ js,jx c = .ul js→T = .la)∧(jx c = .ud→gM T=true)∧(jx c = .quit→T = .d1∨T = .d4):=λ c=>⟨λ js e=>absurd e (XP (by simp) (by simp)),λ e=>absurd e (XP (by simp) (by simp)),λ e=>absurd e (XP (by simp) (by simp))⟩
 have k3:∀ c,(∀ js,hu c = .ul js→T = .la)∧(hu c = .ud→gM T=true)∧(hu c = .quit→T = .d1∨T = .d4):=λ c=>⟨λ js e=>absurd e (V5 (by simp) (by simp)),λ e=>absurd e (V5 (by simp) (by simp)),λ e=>absurd e (V5 (by simp) (by simp))⟩
 cases h
 case r0=>exact k1 _
 case r1=>exact k1 _
 case r3=>exact k1 _
 case yC=>exact k1 _
 case yL=>exact k2 _
 case yM=>exact k3 _
 case ux=>exact k3 _
 case xF c _ _=>cases c.ws <;> simp
 case s1 c _ _=>cases c.sv <;> simp
 all_goals simp [gM]
theorem KR(i:Nat)(fn:FuncId)(pos:String)(m:Mark):MemOp.ofEvents i fn pos (said m)=#[⟨i,fn,pos,.mark m⟩]:=by simp [MemOp.ofEvents,said,MemAct.ofEvent]
section
variable {F:Fx} {Q:Nat} {T0:Mp} {D:Nat→Ab} {m:Nat→Ms} {js:Nat→Nat} {s s':Sh} {th:Nat→Option Th} {mu:Nat→Bool} {dd:Nat→Nat} {gs:Array Goroutine} {w w':World} {t:Trace} {sl:Option (Nat × Nat)} {i k j:Nat} {g g':Goroutine} {T T':Lp}
theorem di.Ym(h:di T s T' s'):(T = .us∨T = .d4)∨(s'.ms≤s.ms∧s'.ws≤s.ws):=by
 cases h
 case us=>exact .inl (.inl rfl)
 case d4=>exact .inl (.inr rfl)
 case s1 c m h=>exact .inr ⟨by simp only; omega,Nat.le_refl _⟩
 all_goals exact .inr ⟨Nat.le_refl _,Nat.le_refl _⟩
theorem gz.Ym{T T':Mp}(h:gz T s T' s'):s'.ms≤s.ms∧s'.ws≤s.ws:=by
 cases h
 case w3 m h=>exact ⟨Nat.le_refl _,by simp only; omega⟩
 all_goals exact ⟨Nat.le_refl _,Nat.le_refl _⟩
theorem evK(dq:di T s T' s'){es:Array Event}(he:E2 F T es)(h1:T ≠ .la)(h2:gM T=false)(h3:T ≠ .wr)(hq:T' ≠ .quit):L9 F T T' es:=by
 cases dq
 case ld=>rw [show es=said .disable from he]; exact .zU rfl rfl rfl
 case ud=>rw [show es=said .disable from he]; exact .zU rfl rfl rfl
 case le=>rw [show es=said .enable from he]; exact .en rfl rfl rfl
 case Pb=>rw [show es=said .enable from he]; exact .en rfl rfl rfl
 case Pd=>rw [show es=said .enable from he]; exact .en rfl rfl rfl
 case wk=>rw [show es=said .disable from he]; exact .zU rfl rfl rfl
 case la=>exact absurd rfl h1
 case ur=>cases h2
 case wr=>exact absurd rfl h3
 case ID=>exact absurd rfl hq
 case d4=>exact absurd rfl hq
 case r0=>exact .at he (MS _) (Ot _)
 case r1=>exact .at he (MS _) (Ot _)
 case r3=>exact .at he (MS _) (Ot _)
 case yC=>exact .at he (MS _) (Ot _)
 case yL=>exact .at he (amP _) (aBx _)
 case xF c _ _=>exact .at he (by cases c.ws <;> rfl) (by cases c.ws <;> rfl)
 case s1 c _ _=>exact .at he (by cases c.sv <;> rfl) (by cases c.sv <;> rfl)
 case yM=>exact .at he (abY _) (aeo _)
 case ux=>exact .at he (abY _) (aeo _)
 all_goals exact .at he rfl rfl
theorem aBB{K:Nat→Lp→az→an→Goroutine→Prop}{R:az}{H:an}(dq:di T s T' s')(h1:T ≠ .la)(h2:gM T=false)(hq:T' ≠ .quit)(h:xB F K k j T T' R H g') :
  if km T' then ∃ q,BD F.P (K j T' R H) q g' else Own F.P F.B false (K j T') R H g':=by
 cases hT:T' with
 | quit=>exact absurd hT hq
 | ul js=>exact absurd (dq.inv.1 js hT) h1
 | ud=>rw [dq.inv.2.1 hT] at h2; cases h2
 | _=>subst hT; exact h
theorem amL(h:MI F Q T0 D m js s th mu dd gs w t)(hi:gs[i]? = some g)(hd:D i = .wk k j T):0 < i∧dd i=oR T∧mu i=km T:=by
 have:=h.w7 i g hi
 rw [hd] at this
 exact ⟨this.1,this.2.1,this.2.2.1⟩
theorem MI.work(h:MI F Q T0 D m js s th mu dd gs w t)(hi:gs[i]? = some g)(hd:D i = .wk k j T){y:Th}(hy:th i=some y){n:Nat}(hn:MM F Q D s gs.size≤n)(hK:KW F n k j T y.R y.H g) :
  ((∃ c,T = .s1 c)∧s.ms=0∧stepG F.P false g w = .go { g with status:=.blocked } w #[]) ∨
  ∃ iR w' ops D' m' iV s' jJ mu' dd',(∀ sl,runT F.P (crowd gs w sl) i=(.next (crowd iR w' sl),ops))∧iR.size=gs.size∧MI F Q T0 D' m' iV s' jJ mu' dd' iR w' (t++ops)∧MM F Q D' s' iR.size < MM F Q D s gs.size:=by
 have bK:=CN hi
 obtain ⟨iN,j4,dn⟩:=amL h hi hd
 have xW:(i == 0)=false:=by simp; omega
 obtain ⟨ot,oj,oh,ok,on⟩:=h.bk.nb i k j T hd
 have hle:=EV (D:=D) bK
 rw [hd] at hle
 have hMp:=h.bk.sU
 obtain ⟨n',rfl⟩:∃ n',n=n'+1:=⟨n - 1,by omega⟩
 obtain ⟨kJ,aOk,atc,cG⟩:=hK ot
 obtain ⟨R,H⟩:=y
 rcases cG w s (h.mem.fits i _ hy) (RE h.mem) (h.bk.sA.Dd hle) (h.bk.aig.okW hle) with hb | ⟨g',w',es,T',s',dq,Ao,j5,cG,mX,Ny⟩
 ·exact .inl hb
 right
 have hr:∀ sl,runT F.P (crowd gs w sl) i=(.next (crowd ((gs.map (Conc.woken F.P g g' w')).setIfInBounds i g') w' sl),MemOp.ofEvents i g.frame.fn g.frame.place es):=λ sl=>runT_crowd_go hi (by rw [xW]; exact cG)
 have fN:((gs.map (Conc.woken F.P g g' w')).setIfInBounds i g').size=gs.size:=by simp
 have Qi:=ad1 h.mem
 have hbw:=Oa h.mem
 have wk:(g'.status = .running∨g'.status = .finished)→(mayWake F.P g=true∧g'.status ≠ .blocked∧g'.status ≠ .waiting)∨(s'.ms≤s.ms∧s'.ws≤s.ws):=λ hs=>by
  rcases dq.Ym with hx | hx
  ·exact .inl ⟨atc hx,by rcases hs with e | e <;> rw [e] <;> simp,by rcases hs with e | e <;> rw [e] <;> simp⟩
  ·exact .inr hx
 have other:∀ (x1:Option Th) (x2:Bool) (x3:Nat),∀ j,j≠i→fW th i x1 j=th j∧oD mu i x2 j=mu j∧gn dd i x3 j=dd j:=λ x1 x2 x3 j hj=>⟨eo hj,X4 hj,tf hj⟩
 have Ou:oD mu i (mu i)=mu:=by funext j; unfold oD; split <;> simp [*]
 by_cases hq:T' = .quit
 ·
  subst hq
  obtain ⟨q,hq⟩:=Ny
  have Ae:(T = .d1∨T = .d4):=dq.inv.2.2 rfl
  have hjJ:j=F.J:=by rcases Ae with rfl | rfl <;> exact oj
  have ate:mu i=true:=by rw [dn]; rcases Ae with rfl | rfl <;> rfl
  have hd1:dd i=1:=by rw [j4]; rcases Ae with rfl | rfl <;> rfl
  have j0:qn F es:=by rcases Ae with rfl | rfl <;> exact j5
  obtain ⟨mN,oa⟩:=h.bk.quit hd bK dq hjJ (by rcases Ae with rfl | rfl <;> rfl)
  have eU:(cnt (cj D i .no) gs.size).hl=(cnt D gs.size).hl:=by
   have:=(vV (D:=D) bK .no).hl
   rw [hd] at this
   rcases Ae with rfl | rfl <;> simpa [cA,cW,Cn.busy,Cn.zero] using this
  have mZ:=(cQ.Sf (fn:=g.frame.fn) (pos:=g.frame.place) h.mem h.tr hy j0 (.inr (by omega))).die ate
  rw [← mX.size] at mZ
  refine ⟨_,_,_,_,mJ m i (some (rM q)),js,s',fW th i none,oD mu i (mu i),gn dd i (dd i),hr,fN,h.te hi (wk hq.status) (Nat.le_of_lt oa) (by rw [eU]; exact fq.drop (h.mem.put mX)) (by rw [eU,Ou,mK]; exact mZ) ?_ (other _ _ _) mN,by rw [fN]; exact oa⟩
  rw [fl,ti,hd1]
  exact ⟨rfl,iN,q,rfl,hq⟩
 by_cases Jm:T = .la
 ·
  subst Jm
  cases dq
  obtain ⟨T2,uu⟩:=Ny js ok
  obtain ⟨mN,oa⟩:=h.bk.work (T':=.ul js) hd bK .la trivial rfl rfl (by simp)
  have Nx:=mN.sU
  have xY:MM F Q (cj D i (.wk k j (.ul js))) s gs.size≤n':=by omega
  have Nw:(cnt D gs.size).hl=0:=by
   have:=h.bk.sA.ow; have:=h.bk.sA.l1
   have:=hle.ow
   simp only [cA,cW,Cn.busy,Cn.zero] at this
   omega
  have tA:(cnt (cj D i (.wk k j (.ul js))) gs.size).hl=1:=by
   have:=(vV (D:=D) bK (.wk k j (.ul js))).hl
   rw [hd] at this
   simp only [cA,cW,Cn.busy,Cn.zero] at this
   omega
  have e1:es=said (.acquire (am F)):=j5
  subst e1
  have hm:=h.mem
  have ht:=h.tr
  rw [Nw] at hm ht
  have qF:dd i=0:=by rw [j4]; rfl
  have mZ:=cQ.acquire (b:=F.bo) (o:=F.cont js) (y:=⟨i,g.frame.fn,g.frame.place,.mark (.acquire (am F))⟩) ht hy rfl rfl qF Qi
  rw [← mX.size,← KR] at mZ
  refine ⟨_,_,_,_,mJ m i (some T2),js,s,fW th i (some ⟨R,(F.bo,F.cont js)::H⟩),oD mu i (mu i),gn dd i 0,hr,fN,h.te hi (wk (.inl (uu.Dw λ R H g hg=>(KW.run hg (by omega) trivial).1))) (Nat.le_of_lt oa) (by rw [tA]; exact fq.take (hm.put mX) hy (by omega)) (by rw [tA,Ou,show gn dd i 0=dd by rw [← qF]; exact mK _ _]; exact mZ) ?_ (other _ _ _) mN,by rw [fN]; exact oa⟩
  rw [fl,ti,Pe,dn]
  exact ⟨iN,rfl,rfl,_,n',rfl,xY,.inl ⟨T2,rfl,uu⟩⟩
 by_cases hur:gM T=true
 ·
  cases T with
  | ur js0 =>
   have hjj:js0=js:=oh
   subst hjj
   cases dq
   obtain ⟨js1,H',e1,e2,T2,uu⟩:=Ny
   cases e1
   subst e2
   obtain ⟨mN,oa⟩:=h.bk.ur hd bK
   have Nx:=mN.sU
   have xY:MM F Q (cj D i (.wk k (j+1) .ud)) s gs.size≤n':=by omega
   have tA:(cnt D gs.size).hl≠0:=by
    have:=hle.hl
    simp only [cA,cW,Cn.busy,Cn.zero] at this
    omega
   have Nw:(cnt (cj D i (.wk k (j+1) .ud)) gs.size).hl=0:=by
    have:=(vV (D:=D) bK (.wk k (j+1) .ud)).hl
    rw [hd] at this
    simp only [cA,cW,Cn.busy,Cn.zero] at this
    have:=h.bk.sA.ow; have:=h.bk.sA.l1
    omega
   have e1:es=said (.releaseMerge (am F)):=j5
   subst e1
   have qF:dd i=0:=by rw [j4]; rfl
   have ht:=h.tr
   rw [show qC F (cnt D gs.size).hl=none by simp [qC,tA]] at ht
   have mZ:=cQ.release (H':=H') (y:=⟨i,g.frame.fn,g.frame.place,.mark (.releaseMerge (am F))⟩) ht hy (List.mem_cons_self) (λ x hx=>List.mem_cons_of_mem _ hx) rfl rfl qF Qi
   rw [← mX.size,← KR] at mZ
   refine ⟨_,_,_,_,mJ m i (some T2),gn js0 k (j+1),s,fW th i (some ⟨R,H'⟩),oD mu i (mu i),gn dd i 0,hr,fN,h.te hi (wk (.inl (uu.Dw λ R H g hg=>(KW.run hg (by omega) trivial).1))) (Nat.le_of_lt oa) (by rw [Nw]; exact fq.apU (h.mem.put mX) tA hy) (by rw [Nw,Ou,show gn dd i 0=dd by rw [← qF]; exact mK _ _]; exact mZ) ?_ (other _ _ _) mN,by rw [fN]; exact oa⟩
   rw [fl,ti,Pe,dn]
   exact ⟨iN,rfl,rfl,_,n',rfl,xY,.inl ⟨T2,rfl,uu⟩⟩
  | _=>cases hur
 have NN:gM T=false:=by simpa using hur
 have V6:AH js T':=by
  cases dq
  case la=>exact absurd rfl Jm
  case ul=>exact oh
  case r0=>exact OB _
  case r1=>exact OB _
  case r3=>exact OB _
  case yC=>exact OB _
  case yL=>exact aBI _
  case xF c _ _=>cases c.ws <;> trivial
  case s1 c _ _=>cases c.sv <;> trivial
  case yM=>exact aew _
  case ux=>exact aew _
  all_goals trivial
 obtain ⟨mN,oa⟩:=h.bk.work hd bK dq Ao V6 NN hq
 have Nx:=mN.sU
 have xY:MM F Q (cj D i (.wk k j T')) s' gs.size≤n':=by omega
 have Am:=aBB dq Jm NN hq Ny
 have oT':qK F.N T':=by
  have:=mN.nb i k j T' (jL _ _ _)
  exact this.1
 have eU:(cnt (cj D i (.wk k j T')) gs.size).hl=(cnt D gs.size).hl:=by
  have:=(vV (D:=D) bK (.wk k j T')).hl
  rw [hd] at this
  have e:(cW T').hl=(cW T).hl:=by
   cases dq
   case la=>exact absurd rfl Jm
   case ur=>cases NN
   case r0=>rw [sF]; rfl
   case r1=>rw [sF]; rfl
   case r3=>rw [sF]; rfl
   case yC=>rw [sF]; rfl
   case yL=>rw [SL]; rfl
   case xF c _ _=>cases c.ws <;> rfl
   case s1 c _ _=>cases c.sv <;> rfl
   case K0 c _=>generalize (c.sv && _)=b; cases b <;> rfl
   case a1 b=>cases b <;> rfl
   case yM=>unfold hu; split <;> rfl
   case ux=>unfold hu; split <;> rfl
   all_goals rfl
  simp only [cA] at this
  omega
 have T9:g'.status = .running:=by
  cases hm:km T' with
  | true =>
   simp only [hm,if_true] at Am
   obtain ⟨q,hq⟩:=Am
   exact hq.run λ g hg=>(hg.run (by omega) oT').1
  | false =>
   simp only [hm,Bool.false_eq_true,if_false] at Am
   obtain ⟨T2,uu⟩:=Am
   exact uu.Dw λ R H g hg=>(KW.run hg (by omega) oT').1
 obtain ⟨m',UL⟩:∃ m',qp F (MM F Q (cj D i (.wk k j T')) s' gs.size) s' i m' (some ⟨R,H⟩) (km T') (oR T') g' (.wk k j T'):=by
  cases hm:km T' with
  | true =>
   simp only [hm,if_true] at Am
   obtain ⟨q,hq⟩:=Am
   exact ⟨some (rM q),iN,rfl,hm.symm,_,n',rfl,xY,by rw [if_pos hm]; exact ⟨q,rfl,hq⟩⟩
  | false =>
   simp only [hm,Bool.false_eq_true,if_false] at Am
   obtain ⟨T2,uu⟩:=Am
   exact ⟨some T2,iN,rfl,hm.symm,_,n',rfl,xY,by rw [if_neg (by simp [hm])]; exact .inl ⟨T2,rfl,uu⟩⟩
 have mZ:cQ (some (am F)) (some (aw F)) th (oD mu i (km T')) (gn dd i (oR T')) [F.bm,F.bw] (qC F (cnt D gs.size).hl) w.heap.size (t++MemOp.ofEvents i g.frame.fn g.frame.place es):=by
  by_cases wx:T = .wr
  ·subst wx
   cases dq
   have e1:es=said (.releaseMerge (aw F)):=j5
   subst e1
   have qF:dd i=0:=by rw [j4]; rfl
   have:=cQ.aFe (y:=⟨i,g.frame.fn,g.frame.place,.mark (.releaseMerge (aw F))⟩) (i:=i) h.tr rfl rfl qF hbw
   rw [show gn dd i (oR .wk)=dd by rw [show oR .wk=dd i from qF.symm]; exact mK _ _,KR]
   exact this
  ·have Xh:km T'=km T→oD mu i (km T')=mu:=λ e=>by rw [e,← dn]; exact Ou
   cases evK dq j5 Jm NN wx hq with
   | «at» ha e1 e2 =>
    rw [Xh e2,e1,← j4,mK]
    refine cQ.Sf h.mem h.tr hy ha ?_
    rw [dn,j4]
    cases dq <;> first | exact .inl rfl | exact .inr (Nat.le_refl _) | (cases e1)
   | zU e1 e2 e3 =>
    have:=cQ.word (i:=i) (fn:=g.frame.fn) (pos:=g.frame.place) h.tr (m:=.disable) (.inl rfl)
    rw [Xh e3,e2]
    rwa [show deafBehind (dd i) (said .disable)=1 by rw [j4,e1]; rfl] at this
   | en e1 e2 e3 =>
    have:=cQ.word (i:=i) (fn:=g.frame.fn) (pos:=g.frame.place) h.tr (m:=.enable) (.inr rfl)
    rw [Xh e3,e2]
    rwa [show deafBehind (dd i) (said .enable)=0 by rw [j4,e1]; rfl] at this
 rw [← mX.size] at mZ
 refine ⟨_,_,_,_,mJ m i m',js,s',fW th i (some ⟨R,H⟩),oD mu i (km T'),gn dd i (oR T'),hr,fN,h.te hi (wk (.inl T9)) (Nat.le_of_lt oa) (by rw [eU,Dx hy]; exact h.mem.put mX) (by rw [eU,Dx hy]; exact mZ) (by rw [fl,Pe,ti]; exact UL) (other _ _ _) mN,by rw [fN]; exact oa⟩
end
end Go.Lg
namespace Go.Lg
open Go.Conc Go.ConcN
section
variable {F:Fx} {Q:Nat} {T0:Mp} {D:Nat→Ab} {m:Nat→Ms} {js:Nat→Nat} {s s':Sh} {th:Nat→Option Th} {mu:Nat→Bool} {dd:Nat→Nat} {gs:Array Goroutine} {w w':World} {t:Trace} {sl:Option (Nat × Nat)} {i k j:Nat} {g g':Goroutine} {R:az} {H:an} {hl:Nat} {fn:FuncId} {pos:String}
theorem cQ.aDm{mk:Mark}(hM:fq F.B th (gK F s js hl) w)(h:cQ (some (am F)) (some (aw F)) th mu dd [F.bm,F.bw] (qC F hl) w.heap.size t)(hi:th 0=some ⟨R,H⟩)(hm:mk = .read (rh F)∨mk = .write (rh F))(hc:mu 0=false) :
  cQ (some (am F)) (some (aw F)) th mu dd [F.bm,F.bw] (qC F hl) w.heap.size (t++MemOp.ofEvents 0 fn pos (said mk)):=by
 rw [KR]
 have hd:Deaf (t++#[⟨0,fn,pos,.mark mk⟩]) 0=dd 0:=by
  rw [Deaf_push]
  unfold deafStep
  rcases hm with rfl | rfl <;> exact h.deaf 0
 have:=cQ.app (u:=#[⟨0,fn,pos,.mark mk⟩]) (n':=w.heap.size) (R':=R) (H':=H) (d':=dd 0) hM rfl (Iz F s js hl) (Iy F s js hl) h hi (λ op au=>by rw [yx au]) (λ op au a ha=>?_) (λ op au=>?_) (λ op au a=>?_) hd (.inl hc) (Nat.le_refl _) (λ _ _ x=>.inl x) (λ _ o x=>.inl ⟨o,x⟩)
 ·rwa [Dx hi,mK] at this
 ·rw [yx au] at ha
  refine .inr ⟨F.bw,?_,by simp,.inr ⟨?_,rfl⟩⟩ <;> rcases hm with rfl | rfl <;> (simp only [MemAct.touch?,Option.some.injEq] at ha; subst ha; rfl)
 ·rw [yx au]
  rcases hm with rfl | rfl <;> exact Oa hM
 ·rw [yx au]
  rcases hm with rfl | rfl <;> (intro x; cases x)
theorem qp.mono{μ Ls:Nat}{mm:Ms}{x:Option Th}{b:Bool}{d:Nat}{A:Ab}(h:qp F μ s i mm x b d g A)(hle:Ls≤μ):qp F Ls s i mm x b d g A:=by
 cases A with
 | no=>exact h
 | wk k j T =>
  obtain ⟨h1,h2,h3,y,n,h4,hn,h⟩:=h
  exact ⟨h1,h2,h3,y,n,h4,by omega,h⟩
 | mn T =>
  obtain ⟨h1,h2,h3,y,n,h4,hn,h⟩:=h
  exact ⟨h1,h2,h3,y,n,h4,by omega,h⟩
inductive HY (F:Fx):Mp→Mp→Array Event→Prop
 | at {T T' es}:qn F es→pO T'=pO T→HY F T T' es
 | zU {T T'}:pO T=0→pO T'=1→HY F T T' (said .disable)
 | en {T T'}:pO T=1→pO T'=0→HY F T T' (said .enable)
 | sd {T T' mk}:pO T'=pO T→mk = .read (rh F)∨mk = .write (rh F)→HY F T T' (said mk)
theorem evN{T T':Mp}(dq:gz T s T' s'){es:Array Event}(he:BU F T es)(h1:T ≠ .wq):HY F T T' es:=by
 cases dq
 case ka=>rw [show es=said .disable from he]; exact .zU rfl rfl
 case wa=>rw [show es=said .disable from he]; exact .zU rfl rfl
 case ke=>rw [show es=said .enable from he]; exact .en rfl rfl
 case we=>rw [show es=said .enable from he]; exact .en rfl rfl
 case kd=>rw [show es=said (.read (rh F)) from he]; exact .sd rfl (.inl rfl)
 case wW=>rw [show es=said (.write (rh F)) from he]; exact .sd rfl (.inr rfl)
 case wq=>exact absurd rfl h1
 all_goals exact .at he rfl
theorem abT(h:MI F Q T0 D m js s th mu dd gs w t)(hi:gs[0]? = some g):dd 0=pO T0∧mu 0=false:=by
 have:=h.w7 0 g hi
 rw [h.bk.d0] at this
 exact ⟨this.2.1,this.2.2.1⟩
theorem KM.go_{n r:Nat}(h:KM F (n+1) (.go r) R H g):∀ w s,Fits F.B R H w→fA F s w→qg F.N (.go r) s→∃ g' child,stepG F.P true g w = .spawn g' child w #[]∧Own F.P F.B false (KW F n (F.N - (r+1)) 0 .ld) R [] child∧Own F.P F.B true (KM F n (kN r)) R H g':=h.2.2
theorem KM.wq_{n:Nat}(h:KM F (n+1) .wq R H g):∀ w s,Fits F.B R H w→fA F s w→qg F.N .wq s→∃ g' w',stepG F.P true g w = .go g' w' (said (.acquire (aw F)))∧b9 F s w w'∧∀ js,(∀ k,k < F.N→js k=F.J)→F.mj R ((F.bo,F.cont js)::H) g':=h.2.2
theorem KM.other{n:Nat}{T:Mp}(h:KM F (n+1) T R H g)(h1:∀ r,T ≠ .go r)(h2:T ≠ .wq):∀ w s,Fits F.B R H w→fA F s w→qg F.N T s→(T = .w3∧s.ws=0∧stepG F.P true g w = .go { g with status:=.blocked } w #[]) ∨
  ∃ g' w' es T' s',gz T s T' s'∧BU F T es∧stepG F.P true g w = .go g' w' es∧b9 F s' w w'∧Own F.P F.B true (KM F n T') R H g':=by
 cases T <;> first | exact absurd rfl (h1 _) | exact absurd rfl h2 | exact h.2.2
theorem MI.main(h:MI F Q T0 D m js s th mu dd gs w t)(hi:gs[0]? = some g){y:Th}(hy:th 0=some y){n:Nat}(hn:MM F Q D s gs.size≤n)(hK:KM F n T0 y.R y.H g)(h2:T0 ≠ .wq) :
  (T0 = .w3∧s.ws=0∧stepG F.P true g w = .go { g with status:=.blocked } w #[]) ∨
  ∃ jh iR w' ops D' m' iV s' jJ mu' dd',(∀ sl,runT F.P (crowd gs w sl) 0=(.next (crowd iR w' sl),ops))∧MI F Q jh D' m' iV s' jJ mu' dd' iR w' (t++ops)∧MM F Q D' s' iR.size < MM F Q D s gs.size:=by
 have bK:=CN hi
 obtain ⟨j4,dn⟩:=abT h hi
 have hMp:=h.bk.sU
 obtain ⟨n',rfl⟩:∃ n',n=n'+1:=⟨n - 1,by omega⟩
 obtain ⟨R,H⟩:=y
 have hf:=h.mem.fits 0 _ hy
 have bf:=RE h.mem
 have gJ:=h.bk.aig.qg
 by_cases h1:∃ r,T0 = .go r
 ·
  right
  obtain ⟨r,rfl⟩:=h1
  obtain ⟨g',child,cG,⟨T1,hc⟩,⟨T2,hg⟩⟩:=hK.go_ w s hf bf gJ
  obtain ⟨mN,oa⟩:=h.bk.spawn
  have Nx:=mN.sU
  obtain ⟨o1,o2,o3⟩:=h.out gs.size (Nat.le_refl _)
  have fN:((gs.setIfInBounds 0 g').push child).size=gs.size+1:=by simp
  have hh:(cnt (cj (cj D gs.size (.wk (F.N - (r+1)) 0 .ld)) 0 (.mn (kN r))) (gs.size+1)).hl=(cnt D gs.size).hl:=by
   have:=(abR (D:=D) h.bk.pos (.mn (kN r)) (.wk (F.N - (r+1)) 0 .ld) rfl (by rw [h.bk.d0]; rfl)).hl
   simpa [cA,cW,Cn.busy,Cn.zero] using this
  have hr:∀ sl,runT F.P (crowd gs w sl) 0=(.next (crowd ((gs.setIfInBounds 0 g').push child) w sl),#[⟨0,g.frame.fn,g.frame.place,.go gs.size⟩,⟨gs.size,child.frame.fn,g.frame.place,.start⟩]):=λ sl=>by
   have:=runT_crowd_spawn (P:=F.P) (sl:=sl) hi (show stepG F.P (0 == 0) g w=_ from cG)
   rw [this]
   simp [MemOp.ofEvents]
  have qF:dd 0=0:=by rw [j4]; rfl
  have mZ:=h.tr.spawn (c:=gs.size) (x:=⟨0,g.frame.fn,g.frame.place,.go gs.size⟩) (y:=⟨gs.size,child.frame.fn,g.frame.place,.start⟩) hy (aT.refl R) o1 ⟨rfl,rfl⟩ ⟨rfl,rfl⟩ qF o3 (by omega) o2
  have lS:=h.mem.add (c:=gs.size) hy (aT.refl R)
  refine ⟨kN r,_,w,_,_,mJ (mJ m gs.size (some T1)) 0 (some T2),js,s,_,mu,gn dd 0 (pO (kN r)),hr,⟨by rw [fN,hh]; exact lS,?_,λ a x ha=>?_,λ a ha=>?_,by rw [fN]; exact mN⟩,by rw [fN]; exact oa⟩
  ·rw [fN,hh]
   have:gn dd 0 (pO (kN r))=dd:=by
    rw [show pO (kN r)=dd 0 by rw [qF]; cases r <;> rfl]; exact mK _ _
   rw [this]; exact mZ
  ·rw [fN]
   by_cases sK:a=0
   ·subst sK
    rw [Array.getElem?_push,if_neg (by simp; omega),Array.getElem?_setIfInBounds_self_of_lt bK] at ha
    cases ha
    rw [jL,K7,ti,eo (by omega),hy,dn]
    exact ⟨rfl,rfl,rfl,_,n',rfl,by omega,.inl ⟨T2,rfl,hg⟩⟩
   ·by_cases Nn:a=gs.size
    ·subst Nn
     rw [Array.getElem?_push,if_pos (by simp)] at ha
     cases ha
     rw [fC (by omega),jL,Gx (by omega),K7,tf (by omega),fl,o2,o3]
     exact ⟨by omega,rfl,rfl,_,n',rfl,by omega,by rw [if_neg (by simp [km])]; exact .inl ⟨T1,rfl,hc⟩⟩
    ·rw [Array.getElem?_push,if_neg (by simp; omega),Array.getElem?_setIfInBounds_ne (by omega)] at ha
     rw [fC sK,fC Nn,Gx sK,Gx Nn,tf sK,eo Nn]
     exact (h.w7 a x ha).mono (Nat.le_of_lt oa)
  ·rw [fN] at ha
   rw [eo (by omega),tf (by omega)]
   exact h.out a (by omega)
 have y9:∀ r,T0 ≠ .go r:=λ r e=>h1 ⟨r,e⟩
 rcases hK.other y9 h2 w s hf bf gJ with hb | ⟨g',w',es,T',s',dq,j5,cG,mX,T2,uu⟩
 ·exact .inl hb
 right
 have arT:T' ≠ .fin:=λ e=>by subst e; cases dq; exact h2 rfl
 have hr:∀ sl,runT F.P (crowd gs w sl) 0=(.next (crowd ((gs.map (Conc.woken F.P g g' w')).setIfInBounds 0 g') w' sl),MemOp.ofEvents 0 g.frame.fn g.frame.place es):=λ sl=>runT_crowd_go hi (show stepG F.P (0 == 0) g w=_ from cG)
 have fN:((gs.map (Conc.woken F.P g g' w')).setIfInBounds 0 g').size=gs.size:=by simp
 obtain ⟨mN,oa⟩:=h.bk.aBm dq arT
 have Nx:=mN.sU
 have eU:(cnt (cj D 0 (.mn T')) gs.size).hl=(cnt D gs.size).hl:=by
  have:=(vV (D:=D) bK (.mn T')).hl
  rw [h.bk.d0] at this
  simpa [cA,Cn.zero] using this
 have mZ:cQ (some (am F)) (some (aw F)) th mu (gn dd 0 (pO T')) [F.bm,F.bw] (qC F (cnt D gs.size).hl) w.heap.size (t++MemOp.ofEvents 0 g.frame.fn g.frame.place es):=by
  cases evN dq j5 h2 with
  | «at» ha e1 =>
   rw [e1,← j4,mK]
   exact cQ.Sf h.mem h.tr hy ha (.inl dn)
  | zU e1 e2 =>
   have:=cQ.word (i:=0) (fn:=g.frame.fn) (pos:=g.frame.place) h.tr (m:=.disable) (.inl rfl)
   rw [e2]
   rwa [show deafBehind (dd 0) (said .disable)=1 by rw [j4,e1]; rfl] at this
  | en e1 e2 =>
   have:=cQ.word (i:=0) (fn:=g.frame.fn) (pos:=g.frame.place) h.tr (m:=.enable) (.inr rfl)
   rw [e2]
   rwa [show deafBehind (dd 0) (said .enable)=0 by rw [j4,e1]; rfl] at this
  | sd e1 e2 =>
   rw [e1,← j4,mK]
   exact cQ.aDm h.mem h.tr hy e2 dn
 rw [← mX.size] at mZ
 refine ⟨T',_,_,_,_,mJ m 0 (some T2),js,s',fW th 0 (some ⟨R,H⟩),oD mu 0 (mu 0),gn dd 0 (pO T'),hr,h.te hi (.inr dq.Ym) (Nat.le_of_lt oa) (by rw [eU,Dx hy]; exact h.mem.put mX) ?_ ?_ (λ j hj=>⟨eo hj,X4 hj,tf hj⟩) mN,by rw [fN]; exact oa⟩
 ·rw [eU,Dx hy,show oD mu 0 (mu 0)=mu by funext j; unfold oD; split <;> simp [*]]; exact mZ
 ·rw [fl,Pe,ti,dn]
  exact ⟨rfl,rfl,rfl,_,n',rfl,by omega,.inl ⟨T2,rfl,uu⟩⟩
theorem MI.aD7(h:MI F Q .wq D m js s th mu dd gs w t)(hi:gs[0]? = some g){y:Th}(hy:th 0=some y){n:Nat}(hn:MM F Q D s gs.size≤n)(hK:KM F n .wq y.R y.H g) :
  ∃ iR g' w' ops q dd' R' H',(∀ sl,runT F.P (crowd gs w sl) 0=(.next (crowd iR w' sl),ops))∧iR[0]? = some g'∧F.mj R' H' g'∧xx F.P F.B R' H' iR w' (t++ops) q dd':=by
 have bK:=CN hi
 obtain ⟨j4,dn⟩:=abT h hi
 have hMp:=h.bk.sU
 obtain ⟨n',rfl⟩:∃ n',n=n'+1:=⟨n - 1,by omega⟩
 obtain ⟨R,H⟩:=y
 obtain ⟨g',w',cG,mX,og⟩:=hK.wq_ w s (h.mem.fits 0 _ hy) (RE h.mem) h.bk.aig.qg
 have hwg:=h.bk.aig.wg
 obtain ⟨_,_,_,hlv,hdw,Y7⟩:=hwg
 have heq:=h.bk.aig.eq
 have aOn:(cnt D gs.size).jK=0:=by omega
 have aeu:∀ a k j T,D a ≠ .wk k j T:=λ a k j T e=>by
  have ha:a < gs.size:=by
   apply Classical.byContradiction
   intro hn
   rw [h.bk.out a (by omega)] at e; cases e
  have hle:=EV (D:=D) ha
  rw [e] at hle
  have hq:T ≠ .quit:=λ e'=>by
   have:=(h.bk.nb a k j T e).2.1
   subst e'; exact this
  have e1:=hle.lv
  have e2:=hle.dw
  have e3:=hle.d4
  simp only [cA] at e1 e2 e3
  cases T <;> simp only [cW,Cn.busy,Cn.zero] at e1 e2 e3 <;> first | omega | skip
  case a1 b=>cases b <;> simp only [Bool.false_eq_true,if_false,if_true] at e1 <;> omega
  case quit=>exact hq rfl
 have R7:∀ a,a≠0→D a = .no:=λ a ha=>by
  cases hd:D a with
  | no=>rfl
  | wk k j T=>exact absurd hd (aeu a k j T)
  | mn T=>exact absurd (h.bk.main a T hd) ha
 have hhl:(cnt D gs.size).hl=0:=by
  have:∀ n,dc n (λ a=>(cA (D a)).hl)=0:=λ n=>by
   have e:dc n (λ a=>(cA (D a)).hl)=dc n (λ _=>0):=K6 λ a _=>by
    by_cases ha:a=0
    ·subst ha; rw [h.bk.d0]; rfl
    ·rw [R7 a ha]; rfl
   rw [e]
   have hz:∀ n,dc n (λ _=>0)=0:=by intro n; induction n with | zero=>rfl | succ n ih=>simp only [dc,ih]
   exact hz n
  exact this _
 have V4:th=only ⟨R,H⟩:=by
  funext a
  unfold only
  split
  ·rename_i e; subst e; exact hy
  ·rename_i e
   rcases Nat.lt_or_ge a gs.size with hl | hg
   ·have:=h.w7 a _ (Array.getElem?_eq_getElem hl)
    rw [R7 a e] at this
    exact this.1
   ·exact (h.out a hg).1
 have iC:∀ k,k < F.N→js k=F.J:=λ k hk=>by
  rcases h.bk.done k (by simpa [rem] using hk) with z | ⟨a,j,T,z⟩
  ·exact z
  ·exact absurd z (aeu a k j T)
 have qF:dd 0=0:=by rw [j4]; rfl
 have hm:=h.mem.put mX
 have ht:=h.tr
 rw [hhl,V4] at hm ht
 have Ca:F.bo < w.heap.size:=by rw [← mX.size]; exact lE (hm.n9 F.bo (F.cont js) (by simp [gK]))
 have mZ:=cQ.aEY (b:=F.bo) (o:=F.cont js) (y:=⟨0,g.frame.fn,g.frame.place,.mark (.acquire (aw F))⟩) ht Ca rfl rfl qF dn (Oa h.mem)
 rw [← mX.size,← KR] at mZ
 have lS:=fq.take (hl':=1) hm (i:=0) rfl (by omega)
 rw [OF] at lS
 have hr:∀ sl,runT F.P (crowd gs w sl) 0=(.next (crowd ((gs.map (Conc.woken F.P g g' w')).setIfInBounds 0 g') w' sl),MemOp.ofEvents 0 g.frame.fn g.frame.place (said (.acquire (aw F)))):=λ sl=>runT_crowd_go hi (show stepG F.P (0 == 0) g w=_ from cG)
 have fN:((gs.map (Conc.woken F.P g g' w')).setIfInBounds 0 g').size=gs.size:=by simp
 refine ⟨_,g',w',_,λ a=>match m a with | some T=>Classical.epsilon λ q=>m a=some (rM q)∧∀ x,gs[a]? = some x→QuitsD F.P q (dd a) x | none=>0,dd,R,(F.bo,F.cont js)::H,hr,Array.getElem?_setIfInBounds_self_of_lt (by simpa using bK),og js iC,⟨⟨lS.fits,lS.apart,λ c o hc=>(by cases hc),λ c o hc=>(by cases hc)⟩,mZ,qF,λ a ha=>(h.out a (by simpa using ha)).2.2,λ a x ha hx=>?_⟩⟩
 rw [Array.getElem?_setIfInBounds_ne (by omega),Array.getElem?_map] at hx
 obtain ⟨z,hz,rfl⟩:=Option.map_eq_some_iff.1 hx
 have hs:=h.w7 a z hz
 rw [R7 a (by omega)] at hs
 obtain ⟨_,_,q,hq,hQ⟩:=hs
 rw [woken_quitsD hQ]
 have hex:∃ q,m a=some (rM q)∧∀ x,gs[a]? = some x→QuitsD F.P q (dd a) x:=⟨q,hq,λ x hx=>by rw [hz] at hx; cases hx; exact hQ⟩
 have:=(Classical.epsilon_spec hex).2 z hz
 simp only [hq] at this ⊢
 exact this
def O1(m:Nat→Ms)(gs:Array Goroutine):Nat:=dc gs.size λ a=>if (m a).isNone∧(gs[a]?.map (·.status))=some .running then 1 else 0
def H8(a b:Nat × List Ms × Nat):Prop:=a.1 < b.1∨(a.1=b.1∧(One pH a.2.1 b.2.1∨(a.2.1=b.2.1∧a.2.2 < b.2.2)))
theorem H8.wf:WellFounded H8:=by
 have key:∀ p l r,Acc H8 (p,l,r):=by
  intro p
  induction p using Nat.strongRecOn with
  | ind p ihp =>
   intro l
   induction l using One.wf.induction with
   | _ l WK =>
    intro r
    induction r using Nat.strongRecOn with
    | ind r ihr =>
     refine ⟨_,λ y hy=>?_⟩
     obtain ⟨q,l',r'⟩:=y
     rcases hy with h | ⟨h1,h2 | ⟨h2,h3⟩⟩
     ·exact ihp q h l' r'
     ·simp only at h1; subst h1; exact WK l' h2 r'
     ·simp only at h1 h2; subst h1 h2; exact ihr r' h3
 exact ⟨λ ⟨p,l,r⟩=>key p l r⟩
def F9(F:Fx)(Q:Nat)(D:Nat→Ab)(m:Nat→Ms)(s:Sh)(gs:Array Goroutine):Nat × List Ms × Nat:=(MM F Q D s gs.size,(List.range gs.size).map m,O1 m gs)
theorem Xg{m:Nat→Ms}{n i:Nat}{a b:Ms}(hi:i < n)(hb:m i=b)(hl:pH a b):One pH ((List.range n).map (mJ m i a)) ((List.range n).map m):=by
 have e:(List.range n).map (mJ m i a)=((List.range n).map m).set i a:=by
  apply List.ext_getElem?
  intro j
  rw [List.getElem?_set]
  by_cases hj:i=j
  ·subst hj; simp [hi,K7]
  ·simp only [hj,if_false,List.getElem?_map]
   cases hr:(List.range n)[j]? with
   | none=>rfl
   | some k =>
    have hk:k=j:=by
     obtain ⟨_,h2⟩:=List.getElem?_eq_some_iff.1 hr
     simpa using h2.symm
    subst hk
    simp [Gx (Ne.symm hj)]
 rw [e]
 exact One.set (by simp [hi,hb]) hl
end
end Go.Lg
namespace Go.Lg
open Go.Conc Go.ConcN
theorem XY{f:Nat→Nat}:∀ {n:Nat},0 < dc n f→∃ i,i < n∧0 < f i
 | n+1,h=>by
  simp only [dc] at h
  rcases Nat.eq_zero_or_pos (f n) with hz | hp
  ·obtain ⟨i,hi,h2⟩:=XY (n:=n) (f:=f) (by omega)
   exact ⟨i,by omega,h2⟩
  ·exact ⟨n,by omega,hp⟩
section
variable {F:Fx} {Post:Value→World→Prop} {Q:Nat} {T0:Mp} {D:Nat→Ab} {m:Nat→Ms} {js:Nat→Nat} {s s':Sh} {th:Nat→Option Th} {mu:Nat→Bool} {dd:Nat→Nat} {gs:Array Goroutine} {w w':World} {t:Trace} {sl:Option (Nat × Nat)} {i k j:Nat} {g g':Goroutine}
theorem MI.look(h:MI F Q T0 D m js s th mu dd gs w t)(hi:gs[i]? = some g):(g.status = .running)∨(g.status = .finished∧D i = .no)∨(g.status = .blocked∧m i=none∧((∃ k j c,D i = .wk k j (.s1 c)∧s.ms=0)∨(D i = .mn .w3∧s.ws=0))) :=
 (h.w7 i g hi).look h.bk.sU (h.nb i)
theorem MI.awake(h:MI F Q T0 D m js s th mu dd gs w t):∀ x∈gs,awake x:=by
 intro x hx
 obtain ⟨i,hi,rfl⟩:=Array.mem_iff_getElem.1 hx
 rcases h.look (Array.getElem?_eq_getElem hi) with e | ⟨e,_⟩ | ⟨e,_⟩
 ·exact awake_of (.inl e)
 ·exact awake_of (.inr (.inr e))
 ·exact awake_of (.inr (.inl e))
theorem MI.afh(h:MI F Q T0 D m js s th mu dd gs w t):∃ (i:Nat) (g:Goroutine),gs[i]? = some g∧g.status = .running:=by
 apply Classical.byContradiction
 intro Cf
 have wkr:∀ i,i < gs.size→∀ k j T,D i = .wk k j T→∃ c,T = .s1 c∧s.ms=0:=λ i hi k j T hd=>by
  rcases h.look (Array.getElem?_eq_getElem hi) with e | ⟨_,e⟩ | ⟨_,_,⟨k',j',c,e,hz⟩ | ⟨e,_⟩⟩
  ·exact absurd ⟨i,_,Array.getElem?_eq_getElem hi,e⟩ Cf
  ·rw [hd] at e; cases e
  ·rw [hd] at e; cases e; exact ⟨c,rfl,hz⟩
  ·rw [hd] at e; cases e
 have uZ:∀ f:Cn→Nat,f .zero=0→(∀ c,f (cW (.s1 c))=0)→dc gs.size (λ i=>f (cA (D i)))=0:=λ f h0 h1=>by
  apply Classical.byContradiction
  intro hp
  obtain ⟨i,hi,tJ⟩:=XY (n:=gs.size) (f:=λ i=>f (cA (D i))) (by omega)
  cases hd:D i with
  | no=>rw [hd] at tJ; simp only [cA] at tJ; omega
  | mn T=>rw [hd] at tJ; simp only [cA] at tJ; omega
  | wk k j T =>
   obtain ⟨c,rfl,_⟩:=wkr i hi k j T hd
   rw [hd] at tJ; simp only [cA,h1] at tJ; omega
 have hw3:T0 = .w3∧s.ws=0:=by
  have hi:=Array.getElem?_eq_getElem h.bk.pos
  rcases h.look hi with e | ⟨_,e⟩ | ⟨_,_,⟨k',j',c,e,hz⟩ | ⟨e,hz⟩⟩
  ·exact absurd ⟨0,_,hi,e⟩ Cf
  ·rw [h.bk.d0] at e; cases e
  ·rw [h.bk.d0] at e; cases e
  ·rw [h.bk.d0] at e; cases e; exact ⟨rfl,hz⟩
 obtain ⟨rfl,kK⟩:=hw3
 have hdw:(cnt D gs.size).dw=0:=uZ (·.dw) rfl λ _=>rfl
 have Y7:(cnt D gs.size).d4=0:=uZ (·.d4) rfl λ _=>rfl
 have mG:(cnt D gs.size).ow=0:=uZ (·.ow) rfl λ _=>rfl
 have hhl:(cnt D gs.size).hl=0:=uZ (·.hl) rfl λ _=>rfl
 have hpu:(cnt D gs.size).pu=0:=uZ (·.pu) rfl λ _=>rfl
 have hpc:(cnt D gs.size).pc=0:=uZ (·.pc) rfl λ _=>rfl
 have hal:(cnt D gs.size).al=0:=uZ (·.al) rfl λ _=>rfl
 have ha1:(cnt D gs.size).a1=0:=uZ (·.a1) rfl λ _=>rfl
 have hak:(cnt D gs.size).ak=0:=uZ (·.ak) rfl λ _=>rfl
 have hux:(cnt D gs.size).ux=0:=uZ (·.ux) rfl λ _=>rfl
 have hwk:(cnt D gs.size).wk=0:=uZ (·.wk) rfl λ _=>rfl
 have hlv:0 < (cnt D gs.size).lv:=by
  rcases h.bk.aig.wg with ⟨_,_,_,h4,⟨_,h6⟩ | ⟨h5,_⟩⟩ | ⟨_,_,_,_,h5⟩
  ·omega
  ·omega
  ·omega
 have heq:=h.bk.aig.eq
 unfold Cn.jK at heq
 have hz:0 < (cnt D gs.size).z:=by omega
 obtain ⟨i,hi,tJ⟩:=XY (n:=gs.size) (f:=λ i=>(cA (D i)).z) hz
 have Ff:s.ms=0:=by
  cases hd:D i with
  | no=>rw [hd] at tJ; simp [cA,Cn.zero] at tJ
  | mn T=>rw [hd] at tJ; simp [cA,Cn.zero] at tJ
  | wk k j T=>exact (wkr i hi k j T hd).choose_spec.2
 have a1:=h.bk.sA.ow
 have a2:=h.bk.sA.md
 have a3:=h.bk.sA.i4
 omega
theorem aBq{gs:Array Goroutine}{g:Goroutine}{w:World}:gs.map (Conc.woken F.P g { g with status:=.blocked } w)=gs:=by
 have:Conc.woken F.P g { g with status:=.blocked } w=id:=by funext o; simp [Conc.woken]
 rw [this,Array.map_id]
theorem MI.ghost(h:MI F Q T0 D m js s th mu dd gs w t)(hi:gs[i]? = some g){m':Ms}{x:Th}{R:az}{H:an}(V4:th i=some ⟨R,H⟩)(hu:fP F.B R H w x.R x.H w)(hs:qp F (MM F Q D s gs.size) s i m' (some x) (mu i) (dd i) g (D i)) :
  MI F Q T0 D (mJ m i m') js s (fW th i (some x)) mu dd gs w t:=by
 obtain ⟨hm,ht⟩:=acS h.mem (Iz F s js _) (Iy F s js _) h.tr V4 hu
 have bK:=CN hi
 refine ⟨hm,ht,λ a y ha=>?_,λ a ha=>?_,h.bk⟩
 ·by_cases e:a=i
  ·subst e
   rw [hi] at ha; cases ha
   rw [K7,fl]; exact hs
  ·rw [Gx e,eo e]; exact h.w7 a y ha
 ·rw [eo (by omega)]; exact h.out a ha
theorem MI.aCy(og:F.mj=jg F.P F.B Post):∀ (μ:Nat × List Ms × Nat) (gs:Array Goroutine) (w:World) (sl:Option (Nat × Nat)) (t:Trace) (T0:Mp) (D:Nat→Ab) (m:Nat→Ms) (js:Nat→Nat) (s:Sh) (th:Nat→Option Th) (mu:Nat→Bool) (dd:Nat→Nat),
  MI F Q T0 D m js s th mu dd gs w t→F9 F Q D m s gs=μ→∀ i g,gs[i]? = some g→g.status = .running→∀ m0,stepT F.P m0=runT F.P (crowd gs w sl) i→lx F.P Post m0 t:=by
 intro μ
 induction μ using H8.wf.induction with
 | _ μ ih =>
  intro gs w sl t T0 D m js s th mu dd h WH i g hi kJ m0 Fe
  subst WH
  have bK:=CN hi
  have next:∀ (iR:Array Goroutine) (w':World) (qM:Option (Nat × Nat)) (t':Trace) (jh:Mp) (D':Nat→Ab) (m':Nat→Ms) (iV:Nat→Nat) (s':Sh) (jJ:Nat→Option Th) (mu':Nat→Bool) (dd':Nat→Nat),MI F Q jh D' m' iV s' jJ mu' dd' iR w' t' →
    H8 (F9 F Q D' m' s' iR) (F9 F Q D m s gs)→lx F.P Post (crowd iR w' qM) t':=by
   intro iR w' qM t' jh D' m' iV s' jJ mu' dd' h' hl
   obtain ⟨a,ga,d,XN,ha,Ci,cG⟩:=crowd_pick (P:=F.P) (gs:=iR) (w:=w') (sl:=qM) h'.awake h'.afh
   exact ih _ hl iR (w'.at d) XN t' jh D' m' iV s' jJ mu' dd' (h'.at d) rfl a ga ha Ci _ cG
  have hs:=h.w7 i g hi
  have go:∀ (m':Ms) (x:Option Th) (d':Nat) (g':Goroutine) (w':World) (es:Array Event),stepG F.P (i == 0) g w = .go g' w' es→fq F.B (fW th i x) (gK F s js (cnt D gs.size).hl) w' →
    cQ (some (am F)) (some (aw F)) (fW th i x) mu (gn dd i d') [F.bm,F.bw] (qC F (cnt D gs.size).hl) w'.heap.size (t++MemOp.ofEvents i g.frame.fn g.frame.place es) →
    qp F (MM F Q D s gs.size) s i m' x (mu i) d' g' (D i)→(pH m' (m i)∨(m'=m i∧m i=none∧g'={ g with status:=.blocked }))→lx F.P Post m0 t:=by
   intro m' x d' g' w' es cG hm ht UL Ff
   have hr:=runT_crowd_go (P:=F.P) (sl:=sl) hi cG
   have hP:=h.still hi (m':=m') (jJ:=fW th i x) (dd':=gn dd i d') (g':=g') (w':=w') hm ht (by rw [fl,ti]; exact UL) (λ a ha=>⟨eo ha,tf ha⟩)
   refine lx.step (Fe.trans hr) (next _ _ _ _ _ _ _ _ _ _ _ _ hP ?_)
   have fN:((gs.map (Conc.woken F.P g g' w')).setIfInBounds i g').size=gs.size:=by simp
   unfold F9
   rw [fN]
   rcases Ff with hl | ⟨e1,e2,e3⟩
   ·exact .inr ⟨rfl,.inl (Xg bK rfl hl)⟩
   ·subst e3
    have em:mJ m i m'=m:=by funext a; unfold mJ; split <;> simp [*]
    refine .inr ⟨rfl,.inr ⟨by rw [em],?_⟩⟩
    show O1 _ _ < O1 _ _
    rw [em]
    unfold O1
    rw [fN,aBq]
    have:=Du (f:=λ a=>if (m a).isNone∧(gs[a]?.map (·.status))=some .running then 1 else 0) (g:=λ a=>if (m a).isNone∧(((gs.setIfInBounds i { g with status:=.blocked })[a]?).map (·.status))=some .running then 1 else 0) bK (λ a ha=>by
     simp only [Array.getElem?_setIfInBounds_ne (Ne.symm ha)])
    simp only [e2,hi,Option.isNone_none,Option.map_some,kJ,true_and,if_true,Array.getElem?_setIfInBounds_self_of_lt bK] at this
    simp at this
    simp
    omega
  have AV:∀ x,th i=x→fW th i x=th:=λ x hx=>Dx hx
  have nx:(∃ iR w' ops D' m' iV s' jJ mu' dd',(∀ sl,runT F.P (crowd gs w sl) i=(.next (crowd iR w' sl),ops))∧iR.size=gs.size∧MI F Q T0 D' m' iV s' jJ mu' dd' iR w' (t++ops)∧MM F Q D' s' iR.size < MM F Q D s gs.size)→lx F.P Post m0 t:=by
   rintro ⟨iR,w',ops,D',m',iV,s',jJ,mu',dd',hr,_,hP,hl⟩
   exact lx.step (Fe.trans (hr sl)) (next _ _ _ _ _ _ _ _ _ _ _ _ hP (.inl hl))
  cases hd:D i with
  | no =>
   rw [hd] at hs
   obtain ⟨hn,iN,q,hq,hQ⟩:=hs
   have xW:(i == 0)=false:=by simp; omega
   cases q with
   | zero=>rw [hQ.1] at kJ; cases kJ
   | succ q =>
    rcases hQ with e | ⟨_,g',es,oe,cG,hQ⟩
    ·rw [e.1] at kJ; cases kJ
    ·refine go (some (rM q)) none (deafBehind (dd i) es) g' w es (by rw [xW]; exact cG w) ?_ ?_ ?_ (.inl (by rw [hq]; exact aeq q))
     ·rw [AV _ hn]; exact h.mem
     ·rw [AV _ hn]; exact h.tr.leaves oe
     ·rw [hd]; exact ⟨rfl,iN,q,rfl,hQ⟩
  | wk k j T =>
   rw [hd] at hs
   obtain ⟨iN,j4,dn,y,n,hy,hn,hs⟩:=hs
   have xW:(i == 0)=false:=by simp; omega
   have stop:KW F n k j T y.R y.H g→lx F.P Post m0 t:=by
    intro hK
    rcases h.work hi hd hy hn hK with ⟨⟨c,rfl⟩,hz,cG⟩ | hN
    ·refine go none (some y) (dd i) _ w #[] (by rw [xW]; exact cG) ?_ ?_ ?_ ?_
     ·rw [AV _ hy]; exact h.mem
     ·rw [AV _ hy,mK,ofEvents_none,Array.append_empty]; exact h.tr
     ·rw [hd]
      have ho:=h.nb i k j _ hd
      have hp:=h.bk.sU
      exact ⟨iN,j4,dn,y,n,rfl,hn,by rw [if_neg (by simp [km])]; exact .inr ⟨rfl,⟨c,rfl⟩,g,hK,kJ,(KW.run hK (by omega) ho).2,.inr ⟨rfl,hz⟩⟩⟩
     ·cases hmi:m i with
      | none=>exact .inr ⟨rfl,rfl,rfl⟩
      | some T'=>exact .inl .none
    ·exact nx hN
   by_cases Fg:km T=true
   ·rw [if_pos Fg] at hs
    obtain ⟨q,hq,hQ⟩:=hs
    cases q with
    | zero=>exact stop hQ
    | succ q =>
     rcases hQ with hK | ⟨_,g',cG,hQ⟩
     ·exact stop hK
     ·refine go (some (rM q)) (some y) (dd i) g' w #[] (by rw [xW]; exact cG w) ?_ ?_ ?_ (.inl (by rw [hq]; exact aeq q))
      ·rw [AV _ hy]; exact h.mem
      ·rw [AV _ hy,mK,ofEvents_none,Array.append_empty]; exact h.tr
      ·rw [hd]; exact ⟨iN,j4,dn,y,n,rfl,hn,by rw [if_pos Fg]; exact ⟨q,rfl,hQ⟩⟩
   ·rw [if_neg Fg] at hs
    have hmf:mu i=false:=by rw [dn]; simpa using Fg
    rcases hs with ⟨Tr,I2,hO⟩ | ⟨hm,⟨c,rfl⟩,g0,hK,hr0,om,hg⟩
    ·obtain ⟨ι,f⟩:=Tr
     obtain ⟨R,H⟩:=y
     rcases hO with hK | ⟨_,cG⟩ | ⟨R',H',a,Ua,hO⟩
     ·exact stop hK
     ·obtain ⟨g',w',es,R',H',a,h1,h2,h3,h4⟩:=cG w (h.mem.fits i _ hy)
      obtain ⟨hm,ht⟩:=KU h.mem (Iz F s js _) (Iy F s js _) h.tr hy (.inl hmf) h2 (.inl hmf) h3 g.frame.fn g.frame.place
      refine go (some (f a)) (some ⟨R',H'⟩) (dd i) g' w' es (by rw [xW]; exact h1) hm (by rw [mK]; exact ht) ?_ (.inl (by rw [I2]; exact .some (.mk f a)))
      rw [hd]; exact ⟨iN,j4,dn,_,n,rfl,hn,by rw [if_neg Fg]; exact .inl ⟨f a,rfl,h4⟩⟩
     ·have hP:=h.ghost (x:=⟨R',H'⟩) (m':=some (f a)) hi hy (Ua w (h.mem.fits i _ hy)) (by rw [hd]; exact ⟨iN,j4,dn,_,n,rfl,hn,by rw [if_neg Fg]; exact .inl ⟨f a,rfl,hO⟩⟩)
      exact ih (F9 F Q D (mJ m i (some (f a))) s gs) (.inr ⟨rfl,.inl (Xg bK I2 (.some (.mk f a)))⟩) gs w sl t _ _ _ _ _ _ _ _ hP rfl i g hi kJ m0 Fe
    ·rcases hg with rfl | ⟨rfl,_⟩
     ·exact stop hK
     ·cases kJ
  | mn T =>
   have h0:i=0:=h.bk.main i T hd
   subst h0
   have Ae:T=T0:=by have:=h.bk.d0; rw [hd] at this; cases this; rfl
   subst Ae
   rw [hd] at hs
   obtain ⟨_,j4,dn,y,n,hy,hn,hs⟩:=hs
   have stop:KM F n T y.R y.H g→lx F.P Post m0 t:=by
    intro hK
    by_cases hwq:T = .wq
    ·subst hwq
     obtain ⟨iR,g',w',ops,q,dd',R',H',hr,T9,hJ,hA⟩:=h.aD7 hi hy hn hK
     rw [og] at hJ
     exact lx.step (Fe.trans (hr sl)) (hJ iR w' sl _ q dd' T9 hA)
    ·rcases h.main hi hy hn hK hwq with ⟨rfl,hz,cG⟩ | ⟨jh,iR,w',ops,D',m',iV,s',jJ,mu',dd',hr,hP,hl⟩
     ·refine go none (some y) (dd 0) _ w #[] cG ?_ ?_ ?_ ?_
      ·rw [AV _ hy]; exact h.mem
      ·rw [AV _ hy,mK,ofEvents_none,Array.append_empty]; exact h.tr
      ·rw [hd]
       have hp:=h.bk.sU
       exact ⟨rfl,j4,dn,y,n,rfl,hn,.inr ⟨rfl,rfl,g,hK,kJ,(KM.run hK (by omega)).2,.inr ⟨rfl,hz⟩⟩⟩
      ·cases hmi:m 0 with
       | none=>exact .inr ⟨rfl,rfl,rfl⟩
       | some T'=>exact .inl .none
     ·exact lx.step (Fe.trans (hr sl)) (next _ _ _ _ _ _ _ _ _ _ _ _ hP (.inl hl))
   rcases hs with ⟨Tr,I2,hO⟩ | ⟨hm,rfl,g0,hK,hr0,om,hg⟩
   ·obtain ⟨ι,f⟩:=Tr
    obtain ⟨R,H⟩:=y
    rcases hO with hK | ⟨_,cG⟩ | ⟨R',H',a,Ua,hO⟩
    ·exact stop hK
    ·obtain ⟨g',w',es,R',H',a,h1,h2,h3,h4⟩:=cG w (h.mem.fits 0 _ hy)
     obtain ⟨hm,ht⟩:=KU h.mem (Iz F s js _) (Iy F s js _) h.tr hy (.inl dn) h2 (.inl dn) h3 g.frame.fn g.frame.place
     refine go (some (f a)) (some ⟨R',H'⟩) (dd 0) g' w' es h1 hm (by rw [mK]; exact ht) ?_ (.inl (by rw [I2]; exact .some (.mk f a)))
     rw [hd]; exact ⟨rfl,j4,dn,_,n,rfl,hn,.inl ⟨f a,rfl,h4⟩⟩
    ·have hP:=h.ghost (x:=⟨R',H'⟩) (m':=some (f a)) hi hy (Ua w (h.mem.fits 0 _ hy)) (by rw [hd]; exact ⟨rfl,j4,dn,_,n,rfl,hn,.inl ⟨f a,rfl,hO⟩⟩)
     exact ih (F9 F Q D (mJ m 0 (some (f a))) s gs) (.inr ⟨rfl,.inl (Xg bK I2 (.some (.mk f a)))⟩) gs w sl t _ _ _ _ _ _ _ _ hP rfl 0 g hi kJ m0 Fe
   ·rcases hg with rfl | ⟨rfl,_⟩
    ·exact stop hK
    ·cases kJ
theorem MI.runs(og:F.mj=jg F.P F.B Post)(h:MI F Q T0 D m js s th mu dd gs w t):lx F.P Post (crowd gs w sl) t:=by
 obtain ⟨a,ga,d,XN,ha,Ci,cG⟩:=crowd_pick (P:=F.P) (gs:=gs) (w:=w) (sl:=sl) h.awake h.afh
 exact MI.aCy og _ gs (w.at d) XN t T0 D m js s th mu dd (h.at d) rfl a ga ha Ci _ cG
end
end Go.Lg
