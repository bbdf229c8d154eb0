/- A mutex that any number of goroutines share; the machine of workers behind a mutex and a wait group: it runs to its end. Conditions: none. -/
import Derived.Test.YtihapemckcdicaaGreatDoorQXLgB
import Derived.Conc.MarkLaws
namespace Go.Lg
structure Wd where
 l:Nat
 w:Nat
 s:Nat
 n:Nat
 deriving DecidableEq
def Wd.val(m:Wd):Int:=m.l+2 * m.w+4 * m.s+8 * m.n
def Wd.ok(N:Nat)(m:Wd):Prop:=m.l≤1∧m.w≤1∧m.s≤1∧m.n≤N
def Wd.zero:Wd:=⟨0,0,0,0⟩
theorem Wd.val_inj{N N':Nat}{a b:Wd}(ha:a.ok N)(hb:b.ok N')(h:a.val=b.val):a=b:=by
 obtain ⟨l,w,s,n⟩:=a
 obtain ⟨l',w',s',n'⟩:=b
 simp only [Wd.ok,Wd.val,Wd.mk.injEq] at *
 omega
structure Sh where
 mu:Wd
 ms:Nat
 v:Nat
 w:Nat
 ws:Nat
structure Lc where
 old:Wd
 aw:Bool
 sv:Bool
 it:Nat
 ws:Bool
inductive Lp
 | ld | l0 | r0 | sq (c:Lc) | c1 (c:Lc) | r1 (c:Lc) | c2 (c:Lc) | r3 (c:Lc) | t1 (c:Lc) | s1 (c:Lc) | t2 (c:Lc) | r2 (c:Lc) | a1 (keep:Bool)
 | le | lc | la | ul (js:Nat→Nat) | uv (js:Nat→Nat) | ur (js:Nat→Nat) | ud | u0 | uc (old:Wd) | ux | us | ue
 | wv | wr | wk | d1 | d2 | d3 | d4 | quit
def hd(c:Lc):Lp:=if c.old.l=1∧c.old.s=0 then .sq c else .c2 c
def nw(c:Lc):Wd:={ l:=if c.old.s=0 then 1 else c.old.l,w:=if c.aw then 0 else c.old.w,s:=if c.sv∧c.old.l=1 then 1 else c.old.s,n:=if c.old.l=1∨c.old.s=1 then c.old.n+1 else c.old.n }
def hu(m:Wd):Lp:=if m.n=0∨m.l=1∨m.w=1∨m.s=1 then .ue else .uc m
def j4(c:Lc):Lp:=if c.aw=false∧c.old.w=0∧c.old.n≠0 then .c1 c else .r1 c
inductive dK:Lp→Sh→Lp→Sh→Prop
 | ld {s}:dK .ld s .l0 s
 | ahw {s}:s.mu = .zero→dK .l0 s .le { s with mu:=⟨1,0,0,0⟩ }
 | ahv {s}:s.mu ≠ .zero→dK .l0 s .r0 s
 | r0 {s}:dK .r0 s (hd ⟨s.mu,false,false,0,false⟩) s
 | Sy {s c}:dK (.sq c) s (.c2 c) s
 | Ao {s c}:c.it < 4→dK (.sq c) s (j4 c) s
 | UQ {s c}:s.mu=c.old→dK (.c1 c) s (.r1 { c with aw:=true }) { s with mu:={ c.old with w:=1 } }
 | UP {s c}:s.mu≠c.old→dK (.c1 c) s (.r1 c) s
 | r1 {s c}:dK (.r1 c) s (hd { c with old:=s.mu,it:=c.it+1 }) s
 | UW {s c}:s.mu=c.old→c.old.l=0→c.old.s=0→dK (.c2 c) s .le { s with mu:=nw c }
 | yT {s c}:s.mu=c.old→(c.old.l=1∨c.old.s=1)→dK (.c2 c) s (if c.ws then .s1 c else .t1 c) { s with mu:=nw c }
 | UX {s c}:s.mu≠c.old→dK (.c2 c) s (.r3 c) s
 | r3 {s c}:dK (.r3 c) s (hd { c with old:=s.mu }) s
 | t1 {s c} (b:Bool):dK (.t1 c) s (.s1 { c with ws:=b }) s
 | s1 {s c m}:s.ms=m+1→dK (.s1 c) s (if c.sv then .r2 c else .t2 c) { s with ms:=m }
 | t2 {s c} (b:Bool):dK (.t2 c) s (.r2 { c with sv:=b }) s
 | Nd {s c}:s.mu.s=1→dK (.r2 c) s (.a1 (c.sv && s.mu.n != 1)) s
 | Af {s c}:s.mu.s=0→dK (.r2 c) s (hd { c with old:=s.mu,aw:=true,it:=0 }) s
 | a1 {s b}:dK (.a1 b) s .le { s with mu:=⟨1,s.mu.w,if b then s.mu.s else 0,s.mu.n - 1⟩ }
 | le {s}:dK .le s .lc s
 | lc {s}:dK .lc s .la s
 | la {s js}:dK .la s (.ul js) s
 | ul {s js}:dK (.ul js) s (.uv js) s
 | uv {s js}:dK (.uv js) s (.ur js) s
 | ur {s js}:dK (.ur js) s .ud s
 | ud {s}:dK .ud s .u0 s
 | u0z {s}:s.mu.w=0→s.mu.s=0→s.mu.n=0→dK .u0 s .ue { s with mu:={ s.mu with l:=0 } }
 | Ap {s}:¬ (s.mu.w=0∧s.mu.s=0∧s.mu.n=0)→s.mu.s=0→dK .u0 s (hu { s.mu with l:=0 }) { s with mu:={ s.mu with l:=0 } }
 | u0h {s}:s.mu.s=1→dK .u0 s .us { s with mu:={ s.mu with l:=0 } }
 | akp {s m}:s.mu=m→dK (.uc m) s .us { s with mu:={ m with w:=1,n:=m.n - 1 } }
 | ab1 {s m}:s.mu≠m→dK (.uc m) s .ux s
 | ux {s}:dK .ux s (hu s.mu) s
 | us {s}:dK .us s .ue { s with ms:=s.ms+1 }
 | SH {s}:dK .ue s .ld s
 | SJ {s}:dK .ue s .wv s
 | wv {s}:dK .wv s .wr s
 | wr {s}:dK .wr s .wk s
 | wk {s}:dK .wk s .d1 s
 | Kt {s}:(s.v≠1∨s.w=0)→dK .d1 s .quit { s with v:=s.v - 1 }
 | Vb {s}:s.v=1→s.w=1→dK .d1 s .d2 { s with v:=0 }
 | d2 {s}:dK .d2 s .d3 s
 | d3 {s}:dK .d3 s .d4 { s with v:=0,w:=0 }
 | d4 {s}:dK .d4 s .quit { s with ws:=s.ws+1 }
structure Cn where
 ow:Nat
 hl:Nat
 pu:Nat
 pc:Nat
 al:Nat
 z:Nat
 a1:Nat
 ak:Nat
 ux:Nat
 wk:Nat
 lv:Nat
 dw:Nat
 d4:Nat
def u6(c:Lc):Nat:=if c.aw then 1 else 0
def Cn.zero:Cn:=⟨0,0,0,0,0,0,0,0,0,0,0,0,0⟩
def Cn.busy:Cn:={ Cn.zero with wk:=1,lv:=1 }
def cW:Lp→Cn
 | .le | .lc | .la | .ud | .u0=>{ Cn.busy with ow:=1 }
 | .ul _ | .uv _ | .ur _=>{ Cn.busy with hl:=1 }
 | .us=>{ Cn.busy with pu:=1 }
 | .t2 _ | .r2 _=>{ Cn.busy with wk:=0,pc:=1 }
 | .a1 b=>if b then { Cn.busy with wk:=0,ak:=1 } else { Cn.busy with wk:=0,a1:=1 }
 | .sq c | .c1 c | .r1 c | .c2 c | .r3 c=>{ Cn.busy with al:=u6 c }
 | .t1 _ | .s1 _=>{ Cn.busy with wk:=0,z:=1 }
 | .uc _ | .ux=>{ Cn.busy with ux:=1 }
 | .d2 | .d3=>{ Cn.zero with wk:=1,dw:=1 }
 | .d4=>{ Cn.zero with wk:=1,d4:=1 }
 | .quit=>Cn.zero
 | _=>Cn.busy
structure Cn.Ba (c x y c':Cn):Prop where
 ow:c'.ow+x.ow=c.ow+y.ow
 hl:c'.hl+x.hl=c.hl+y.hl
 pu:c'.pu+x.pu=c.pu+y.pu
 pc:c'.pc+x.pc=c.pc+y.pc
 al:c'.al+x.al=c.al+y.al
 z:c'.z+x.z=c.z+y.z
 a1:c'.a1+x.a1=c.a1+y.a1
 ak:c'.ak+x.ak=c.ak+y.ak
 ux:c'.ux+x.ux=c.ux+y.ux
 wk:c'.wk+x.wk=c.wk+y.wk
 lv:c'.lv+x.lv=c.lv+y.lv
 dw:c'.dw+x.dw=c.dw+y.dw
 d4:c'.d4+x.d4=c.d4+y.d4
structure Cn.Le (x c:Cn):Prop where
 ow:x.ow≤c.ow
 hl:x.hl≤c.hl
 pu:x.pu≤c.pu
 pc:x.pc≤c.pc
 al:x.al≤c.al
 z:x.z≤c.z
 a1:x.a1≤c.a1
 ak:x.ak≤c.ak
 ux:x.ux≤c.ux
 wk:x.wk≤c.wk
 lv:x.lv≤c.lv
 dw:x.dw≤c.dw
 d4:x.d4≤c.d4
structure dG (N:Nat) (c:Cn) (s:Sh):Prop where
 l1:s.mu.l≤1
 w1:s.mu.w≤1
 s1:s.mu.w+s.mu.s≤1
 ow:c.ow+c.hl=s.mu.l
 al:c.al≤s.mu.w
 md:((s.mu.s=0∨s.mu.l=1)∧c.pu+c.pc+c.al+s.ms=s.mu.w∧c.a1+c.ak=0∧s.mu.n+c.pu+s.ms=c.z)∨(s.mu.s=1∧s.mu.l=0∧c.pu+c.pc+c.a1+c.ak+c.al+s.ms=1∧s.mu.n=c.z+c.pc+c.a1+c.ak)
 ak:2 * c.ak≤s.mu.n
 sn:s.mu.s=0∨1≤s.mu.n
 i4:s.mu.l=1∨s.mu.w=1∨s.mu.s=1∨s.mu.n=0∨1≤c.ux
 wN:c.wk+c.z+c.pc+c.a1+c.ak≤N
def rN(N:Nat):Lp→Prop
 | .sq c=>c.old.ok N∧c.it≤4∧(c.sv=true→c.aw=true)∧(c.aw=true→c.old.w=1)∧c.old.l=1∧c.old.s=0
 | .c1 c=>c.old.ok N∧c.it < 4∧c.sv=false∧c.aw=false∧c.old.l=1∧c.old.s=0∧c.old.w=0∧c.old.n≠0
 | .r1 c=>c.old.ok N∧c.it < 4∧(c.sv=true→c.aw=true)
 | .c2 c=>c.old.ok N∧c.it≤4∧(c.sv=true→c.aw=true)∧(c.aw=true→c.old.w=1)
 | .r3 c=>c.old.ok N∧c.it≤4∧(c.sv=true→c.aw=true)
 | .t1 c=>c.ws=false
 | .t2 c=>c.sv=false
 | .uc m=>m.ok N∧m.l=0∧m.w=0∧m.s=0∧m.n≠0
 | _=>True
def FH(N:Nat)(T:Lp)(s:Sh):Prop:=s.mu.ok N∧(match T with
 | .r1 c | .r3 c=>c.aw=true→s.mu.w=1
 | .r2 _=>(s.mu.s=1∧s.mu.l=0∧s.mu.w=0∧s.mu.n≠0)∨(s.mu.s=0∧s.mu.w=1)
 | .a1 b=>s.mu.s=1∧s.mu.l=0∧s.mu.w=0∧s.mu.n≠0∧(b=true→2≤s.mu.n)
 | .u0=>s.mu.l=1
 | .us=>s.ms=0
 | _=>True)
theorem GX{c:Lc}(h:c.aw=true):u6 c=1:=by simp [u6,h]
theorem J5{c:Lc}(h:c.aw=false):u6 c=0:=by simp [u6,h]
section
variable {N:Nat} {c c':Cn} {s s':Sh} {T T':Lp}
theorem dG.FH(h:dG N c s)(hle:(cW T).Le c):FH N T s:=by
 obtain ⟨h1,h2,h3,h4,h5,h6,h8,h9,Bu,KG⟩:=h
 obtain ⟨e1,e2,e3,e4,e5,e6,e7,e8,e9,fa,fb,eD,fc⟩:=hle
 refine ⟨⟨h1,h2,by omega,by omega⟩,?_⟩
 cases T <;> simp only [cW,Cn.busy,Cn.zero] at * <;> first | trivial | skip
 case r1 c=>intro ha; rw [GX ha] at e5; omega
 case r3 c=>intro ha; rw [GX ha] at e5; omega
 case r2 c=>omega
 case a1 b =>
  cases b
  ·simp only [l6,if_false] at e7 e8
   exact ⟨by omega,by omega,by omega,by omega,λ hb=>by cases hb⟩
  ·simp only [if_true] at e7 e8
   exact ⟨by omega,by omega,by omega,by omega,λ _=>by omega⟩
 case u0=>omega
 case us=>omega
theorem tP(c:Lc):cW (hd c)={ Cn.busy with al:=u6 c }:=by unfold hd; split <;> rfl
theorem U7(c:Lc):cW (j4 c)={ Cn.busy with al:=u6 c }:=by unfold j4; split <;> rfl
theorem RU{c:Lc}(h1:c.old.ok N)(h2:c.it≤4)(h3:c.sv=true→c.aw=true)(h4:c.aw=true→c.old.w=1):rN N (hd c):=by
 unfold hd; split
 ·exact ⟨h1,h2,h3,h4,by omega,by omega⟩
 ·exact ⟨h1,h2,h3,h4⟩
set_option maxHeartbeats 2000000 in
theorem dG.step(h:dG N c s)(hT:rN N T)(hle:(cW T).Le c)(dQ:dK T s T' s')(hc:c.Ba (cW T) (cW T') c'):dG N c' s'∧rN N T':=by
 have hS:=h.FH hle
 obtain ⟨h1,h2,h3,h4,h5,h6,h8,h9,Bu,KG⟩:=h
 obtain ⟨g1,g2,g3,g4,g5,g6,g7,g8,g9,dt,c7,c8,c9⟩:=hc
 obtain ⟨e1,e2,e3,e4,e5,e6,e7,e8,e9,fa,fb,eD,fc⟩:=hle
 obtain ⟨⟨q1,q2,q3,q4⟩,hS⟩:=hS
 obtain ⟨⟨ml,mw,mz,mn⟩,ms,v,w,ws⟩:=s
 obtain ⟨ow,hl,pu,pc,al',z,a1,ak,ux,wk,lv,dw,d4⟩:=c
 obtain ⟨eQ,hl',eS,eR,eL,z',eJ,eK,eU,eV,eO,eN,eM⟩:=c'
 dsimp only at h1 h2 h3 h4 h5 h6 h8 h9 Bu KG g1 g2 g3 g4 g5 g6 g7 g8 g9 dt c7 c8 c9 e1 e2 e3 e4 e5 e6 e7 e8 e9 fa fb eD fc q1 q2 q3 q4 hS
 cases dQ with
 | ld =>
  simp only [cW,Cn.busy,Cn.zero] at g1 g2 g3 g4 g5 g6 g7 g8 g9 dt c7 c8 c9 e1 e2 e3 e4 e5 e6 e7 e8 e9 fa fb eD fc
  exact ⟨(by show dG N ⟨eQ,hl',eS,eR,eL,z',eJ,eK,eU,eV,eO,eN,eM⟩ ⟨⟨ml,mw,mz,mn⟩,ms,v,w,ws⟩; constructor <;> dsimp only <;> omega),trivial⟩
 | ahw hm =>
  simp only [Wd.zero,Wd.mk.injEq] at hm
  obtain ⟨rfl,rfl,rfl,rfl⟩:=hm
  simp only [cW,Cn.busy,Cn.zero] at g1 g2 g3 g4 g5 g6 g7 g8 g9 dt c7 c8 c9 e1 e2 e3 e4 e5 e6 e7 e8 e9 fa fb eD fc
  exact ⟨(by show dG N ⟨eQ,hl',eS,eR,eL,z',eJ,eK,eU,eV,eO,eN,eM⟩ ⟨⟨1,0,0,0⟩,ms,v,w,ws⟩; constructor <;> dsimp only <;> omega),trivial⟩
 | ahv hm =>
  simp only [cW,Cn.busy,Cn.zero] at g1 g2 g3 g4 g5 g6 g7 g8 g9 dt c7 c8 c9 e1 e2 e3 e4 e5 e6 e7 e8 e9 fa fb eD fc
  exact ⟨(by show dG N ⟨eQ,hl',eS,eR,eL,z',eJ,eK,eU,eV,eO,eN,eM⟩ ⟨⟨ml,mw,mz,mn⟩,ms,v,w,ws⟩; constructor <;> dsimp only <;> omega),trivial⟩
 | r0 =>
  simp only [tP] at g1 g2 g3 g4 g5 g6 g7 g8 g9 dt c7 c8 c9
  simp only [cW,Cn.busy,Cn.zero] at g1 g2 g3 g4 g5 g6 g7 g8 g9 dt c7 c8 c9 e1 e2 e3 e4 e5 e6 e7 e8 e9 fa fb eD fc
  rw [J5 rfl] at g5
  exact ⟨(by show dG N ⟨eQ,hl',eS,eR,eL,z',eJ,eK,eU,eV,eO,eN,eM⟩ ⟨⟨ml,mw,mz,mn⟩,ms,v,w,ws⟩; constructor <;> dsimp only <;> omega),RU ⟨q1,q2,q3,q4⟩ (by simp) (by simp) (by simp)⟩
 | @Sy _ c =>
  simp only [cW,Cn.busy,Cn.zero] at g1 g2 g3 g4 g5 g6 g7 g8 g9 dt c7 c8 c9 e1 e2 e3 e4 e5 e6 e7 e8 e9 fa fb eD fc
  exact ⟨(by show dG N ⟨eQ,hl',eS,eR,eL,z',eJ,eK,eU,eV,eO,eN,eM⟩ ⟨⟨ml,mw,mz,mn⟩,ms,v,w,ws⟩; constructor <;> dsimp only <;> omega),hT.1,hT.2.1,hT.2.2.1,hT.2.2.2.1⟩
 | @Ao _ c hi =>
  obtain ⟨t1,t2,t3,t4,t5,t6⟩:=hT
  simp only [U7] at g1 g2 g3 g4 g5 g6 g7 g8 g9 dt c7 c8 c9
  simp only [cW,Cn.busy,Cn.zero] at g1 g2 g3 g4 g5 g6 g7 g8 g9 dt c7 c8 c9 e1 e2 e3 e4 e5 e6 e7 e8 e9 fa fb eD fc
  refine ⟨(by show dG N ⟨eQ,hl',eS,eR,eL,z',eJ,eK,eU,eV,eO,eN,eM⟩ ⟨⟨ml,mw,mz,mn⟩,ms,v,w,ws⟩; constructor <;> dsimp only <;> omega),?_⟩
  unfold j4; split
  ·rename_i hx
   refine ⟨t1,hi,?_,hx.1,t5,t6,hx.2.1,hx.2.2⟩
   cases Yf:c.sv with
   | false=>rfl
   | true=>rw [t3 Yf] at hx; cases hx.1
  ·exact ⟨t1,hi,t3⟩
 | @UQ _ c hm =>
  obtain ⟨old,aw,sv,it,wz⟩:=c
  cases hm
  obtain ⟨⟨o1,o2,o3,o4⟩,t2,t3,t4,t5,t6,t7,t8⟩:=hT
  simp only at t2 t3 t4 t5 t6 t7 t8
  subst t4
  simp only [cW,Cn.busy,Cn.zero] at g1 g2 g3 g4 g5 g6 g7 g8 g9 dt c7 c8 c9 e1 e2 e3 e4 e5 e6 e7 e8 e9 fa fb eD fc
  rw [J5 rfl,GX rfl] at g5
  rw [J5 rfl] at e5
  exact ⟨(by show dG N ⟨eQ,hl',eS,eR,eL,z',eJ,eK,eU,eV,eO,eN,eM⟩ ⟨⟨ml,1,mz,mn⟩,ms,v,w,ws⟩; constructor <;> dsimp only <;> omega),⟨o1,o2,o3,o4⟩,t2,λ _=>rfl⟩
 | @UP _ c hm =>
  simp only [cW,Cn.busy,Cn.zero] at g1 g2 g3 g4 g5 g6 g7 g8 g9 dt c7 c8 c9 e1 e2 e3 e4 e5 e6 e7 e8 e9 fa fb eD fc
  exact ⟨(by show dG N ⟨eQ,hl',eS,eR,eL,z',eJ,eK,eU,eV,eO,eN,eM⟩ ⟨⟨ml,mw,mz,mn⟩,ms,v,w,ws⟩; constructor <;> dsimp only <;> omega),hT.1,hT.2.1,λ hx=>by rw [hT.2.2.1] at hx; cases hx⟩
 | @r1 _ c =>
  simp only [tP] at g1 g2 g3 g4 g5 g6 g7 g8 g9 dt c7 c8 c9
  simp only [cW,Cn.busy,Cn.zero] at g1 g2 g3 g4 g5 g6 g7 g8 g9 dt c7 c8 c9 e1 e2 e3 e4 e5 e6 e7 e8 e9 fa fb eD fc
  have ea:u6 { c with old:=⟨ml,mw,mz,mn⟩,it:=c.it+1 }=u6 c:=rfl
  rw [ea] at g5
  exact ⟨(by show dG N ⟨eQ,hl',eS,eR,eL,z',eJ,eK,eU,eV,eO,eN,eM⟩ ⟨⟨ml,mw,mz,mn⟩,ms,v,w,ws⟩; constructor <;> dsimp only <;> omega),RU ⟨q1,q2,q3,q4⟩ (by have:=hT.2.1; simp only; omega) hT.2.2 hS⟩
 | @UW _ c hm hl hs =>
  obtain ⟨old,aw,sv,it,wz⟩:=c
  cases hm
  simp only at hl hs
  subst hl hs
  obtain ⟨⟨o1,o2,o3,o4⟩,t2,t3,t4⟩:=hT
  simp only at t3 t4
  simp only [cW,Cn.busy,Cn.zero] at g1 g2 g3 g4 g5 g6 g7 g8 g9 dt c7 c8 c9 e1 e2 e3 e4 e5 e6 e7 e8 e9 fa fb eD fc
  have en:nw ⟨⟨0,mw,0,mn⟩,aw,sv,it,wz⟩=⟨1,if aw then 0 else mw,0,mn⟩:=by simp [nw]
  rw [en]
  cases aw
  ·rw [J5 rfl] at g5 e5
   exact ⟨(by show dG N ⟨eQ,hl',eS,eR,eL,z',eJ,eK,eU,eV,eO,eN,eM⟩ ⟨⟨1,mw,0,mn⟩,ms,v,w,ws⟩; constructor <;> dsimp only <;> omega),trivial⟩
  ·rw [GX rfl] at g5 e5
   have:=t4 rfl
   exact ⟨(by show dG N ⟨eQ,hl',eS,eR,eL,z',eJ,eK,eU,eV,eO,eN,eM⟩ ⟨⟨1,0,0,mn⟩,ms,v,w,ws⟩; constructor <;> dsimp only <;> omega),trivial⟩
 | @yT _ c hm hq =>
  obtain ⟨old,aw,sv,it,wz⟩:=c
  cases hm
  obtain ⟨⟨o1,o2,o3,o4⟩,t2,t3,t4⟩:=hT
  simp only at t3 t4 hq
  have ez:cW (if wz=true then Lp.s1 ⟨⟨ml,mw,mz,mn⟩,aw,sv,it,wz⟩ else Lp.t1 ⟨⟨ml,mw,mz,mn⟩,aw,sv,it,wz⟩)={ Cn.busy with wk:=0,z:=1 }:=by cases wz <;> rfl
  simp only at g1 g2 g3 g4 g5 g6 g7 g8 g9 dt c7 c8 c9
  simp only [ez] at g1 g2 g3 g4 g5 g6 g7 g8 g9 dt c7 c8 c9
  simp only [cW,Cn.busy,Cn.zero] at g1 g2 g3 g4 g5 g6 g7 g8 g9 dt c7 c8 c9 e1 e2 e3 e4 e5 e6 e7 e8 e9 fa fb eD fc
  refine ⟨?_,by cases wz <;> first | rfl | trivial⟩
  cases aw
  ·cases sv
   ·rw [J5 rfl] at g5 e5
    by_cases hz:mz=0
    ·subst hz
     have tY:ml=1:=by omega
     subst tY
     have en:nw ⟨⟨1,mw,0,mn⟩,false,false,it,wz⟩=⟨1,mw,0,mn+1⟩:=by simp [nw]
     rw [en]
     exact (by show dG N ⟨eQ,hl',eS,eR,eL,z',eJ,eK,eU,eV,eO,eN,eM⟩ ⟨⟨1,mw,0,mn+1⟩,ms,v,w,ws⟩; constructor <;> dsimp only <;> omega)
    ·have hz1:mz=1:=by omega
     subst hz1
     have en:nw ⟨⟨ml,mw,1,mn⟩,false,false,it,wz⟩=⟨ml,mw,1,mn+1⟩:=by simp [nw]
     rw [en]
     exact (by show dG N ⟨eQ,hl',eS,eR,eL,z',eJ,eK,eU,eV,eO,eN,eM⟩ ⟨⟨ml,mw,1,mn+1⟩,ms,v,w,ws⟩; constructor <;> dsimp only <;> omega)
   ·exact absurd (t3 rfl) (by simp)
  ·rw [GX rfl] at g5 e5
   have hw:=t4 rfl
   have hz:mz=0:=by omega
   have tY:ml=1:=by omega
   subst hz tY hw
   cases sv
   ·have en:nw ⟨⟨1,1,0,mn⟩,true,false,it,wz⟩=⟨1,0,0,mn+1⟩:=by simp [nw]
    rw [en]
    exact (by show dG N ⟨eQ,hl',eS,eR,eL,z',eJ,eK,eU,eV,eO,eN,eM⟩ ⟨⟨1,0,0,mn+1⟩,ms,v,w,ws⟩; constructor <;> dsimp only <;> omega)
   ·have en:nw ⟨⟨1,1,0,mn⟩,true,true,it,wz⟩=⟨1,0,1,mn+1⟩:=by simp [nw]
    rw [en]
    exact (by show dG N ⟨eQ,hl',eS,eR,eL,z',eJ,eK,eU,eV,eO,eN,eM⟩ ⟨⟨1,0,1,mn+1⟩,ms,v,w,ws⟩; constructor <;> dsimp only <;> omega)
 | @UX _ c hm =>
  simp only [cW,Cn.busy,Cn.zero] at g1 g2 g3 g4 g5 g6 g7 g8 g9 dt c7 c8 c9 e1 e2 e3 e4 e5 e6 e7 e8 e9 fa fb eD fc
  exact ⟨(by show dG N ⟨eQ,hl',eS,eR,eL,z',eJ,eK,eU,eV,eO,eN,eM⟩ ⟨⟨ml,mw,mz,mn⟩,ms,v,w,ws⟩; constructor <;> dsimp only <;> omega),hT.1,hT.2.1,hT.2.2.1⟩
 | @r3 _ c =>
  simp only [tP] at g1 g2 g3 g4 g5 g6 g7 g8 g9 dt c7 c8 c9
  simp only [cW,Cn.busy,Cn.zero] at g1 g2 g3 g4 g5 g6 g7 g8 g9 dt c7 c8 c9 e1 e2 e3 e4 e5 e6 e7 e8 e9 fa fb eD fc
  have ea:u6 { c with old:=⟨ml,mw,mz,mn⟩ }=u6 c:=rfl
  rw [ea] at g5
  exact ⟨(by show dG N ⟨eQ,hl',eS,eR,eL,z',eJ,eK,eU,eV,eO,eN,eM⟩ ⟨⟨ml,mw,mz,mn⟩,ms,v,w,ws⟩; constructor <;> dsimp only <;> omega),RU ⟨q1,q2,q3,q4⟩ hT.2.1 hT.2.2 hS⟩
 | @t1 _ c b =>
  simp only [cW,Cn.busy,Cn.zero] at g1 g2 g3 g4 g5 g6 g7 g8 g9 dt c7 c8 c9 e1 e2 e3 e4 e5 e6 e7 e8 e9 fa fb eD fc
  exact ⟨(by show dG N ⟨eQ,hl',eS,eR,eL,z',eJ,eK,eU,eV,eO,eN,eM⟩ ⟨⟨ml,mw,mz,mn⟩,ms,v,w,ws⟩; constructor <;> dsimp only <;> omega),trivial⟩
 | @s1 _ c m hm =>
  have ez:cW (if c.sv=true then Lp.r2 c else Lp.t2 c)={ Cn.busy with wk:=0,pc:=1 }:=by cases c.sv <;> rfl
  simp only at hm
  simp only [ez] at g1 g2 g3 g4 g5 g6 g7 g8 g9 dt c7 c8 c9
  simp only [cW,Cn.busy,Cn.zero] at g1 g2 g3 g4 g5 g6 g7 g8 g9 dt c7 c8 c9 e1 e2 e3 e4 e5 e6 e7 e8 e9 fa fb eD fc
  refine ⟨(by show dG N ⟨eQ,hl',eS,eR,eL,z',eJ,eK,eU,eV,eO,eN,eM⟩ ⟨⟨ml,mw,mz,mn⟩,m,v,w,ws⟩; constructor <;> dsimp only <;> omega),?_⟩
  cases Yf:c.sv with
  | false=>exact Yf
  | true=>trivial
 | @t2 _ c b =>
  simp only [cW,Cn.busy,Cn.zero] at g1 g2 g3 g4 g5 g6 g7 g8 g9 dt c7 c8 c9 e1 e2 e3 e4 e5 e6 e7 e8 e9 fa fb eD fc
  exact ⟨(by show dG N ⟨eQ,hl',eS,eR,eL,z',eJ,eK,eU,eV,eO,eN,eM⟩ ⟨⟨ml,mw,mz,mn⟩,ms,v,w,ws⟩; constructor <;> dsimp only <;> omega),trivial⟩
 | @Nd _ c hm =>
  simp only at hm; subst hm
  simp only [cW,Cn.busy,Cn.zero] at g1 g2 g3 g4 g5 g6 g7 g8 g9 dt c7 c8 c9 e1 e2 e3 e4 e5 e6 e7 e8 e9 fa fb eD fc
  refine ⟨?_,trivial⟩
  cases hb:(c.sv && mn != 1) with
  | false =>
   simp only [hb,l6,if_false] at g1 g2 g3 g4 g5 g6 g7 g8 g9 dt c7 c8 c9
   exact (by show dG N ⟨eQ,hl',eS,eR,eL,z',eJ,eK,eU,eV,eO,eN,eM⟩ ⟨⟨ml,mw,1,mn⟩,ms,v,w,ws⟩; constructor <;> dsimp only <;> omega)
  | true =>
   have hn1:mn≠1:=by simp at hb; exact hb.2
   simp only [hb,if_true] at g1 g2 g3 g4 g5 g6 g7 g8 g9 dt c7 c8 c9
   exact (by show dG N ⟨eQ,hl',eS,eR,eL,z',eJ,eK,eU,eV,eO,eN,eM⟩ ⟨⟨ml,mw,1,mn⟩,ms,v,w,ws⟩; constructor <;> dsimp only <;> omega)
 | @Af _ c hm =>
  simp only at hm; subst hm
  simp only [tP] at g1 g2 g3 g4 g5 g6 g7 g8 g9 dt c7 c8 c9
  simp only [cW,Cn.busy,Cn.zero] at g1 g2 g3 g4 g5 g6 g7 g8 g9 dt c7 c8 c9 e1 e2 e3 e4 e5 e6 e7 e8 e9 fa fb eD fc
  rw [GX rfl] at g5
  exact ⟨(by show dG N ⟨eQ,hl',eS,eR,eL,z',eJ,eK,eU,eV,eO,eN,eM⟩ ⟨⟨ml,mw,0,mn⟩,ms,v,w,ws⟩; constructor <;> dsimp only <;> omega),RU ⟨q1,q2,q3,q4⟩ (by simp) (λ _=>rfl) (λ _=>by simp only; omega)⟩
 | @a1 _ b =>
  obtain ⟨r1,r2,r3,r4,r5⟩:=hS
  subst r1 r2 r3
  simp only [cW,Cn.busy,Cn.zero] at g1 g2 g3 g4 g5 g6 g7 g8 g9 dt c7 c8 c9 e1 e2 e3 e4 e5 e6 e7 e8 e9 fa fb eD fc
  cases b
  ·simp only [l6,if_false] at g1 g2 g3 g4 g5 g6 g7 g8 g9 dt c7 c8 c9 e1 e2 e3 e4 e5 e6 e7 e8 e9 fa fb eD fc
   exact ⟨(by show dG N ⟨eQ,hl',eS,eR,eL,z',eJ,eK,eU,eV,eO,eN,eM⟩ ⟨⟨1,0,0,mn - 1⟩,ms,v,w,ws⟩; constructor <;> dsimp only <;> omega),trivial⟩
  ·simp only [if_true] at g1 g2 g3 g4 g5 g6 g7 g8 g9 dt c7 c8 c9 e1 e2 e3 e4 e5 e6 e7 e8 e9 fa fb eD fc
   exact ⟨(by show dG N ⟨eQ,hl',eS,eR,eL,z',eJ,eK,eU,eV,eO,eN,eM⟩ ⟨⟨1,0,1,mn - 1⟩,ms,v,w,ws⟩; constructor <;> dsimp only <;> omega),trivial⟩
 | le =>
  simp only [cW,Cn.busy,Cn.zero] at g1 g2 g3 g4 g5 g6 g7 g8 g9 dt c7 c8 c9 e1 e2 e3 e4 e5 e6 e7 e8 e9 fa fb eD fc
  exact ⟨(by show dG N ⟨eQ,hl',eS,eR,eL,z',eJ,eK,eU,eV,eO,eN,eM⟩ ⟨⟨ml,mw,mz,mn⟩,ms,v,w,ws⟩; constructor <;> dsimp only <;> omega),trivial⟩
 | lc =>
  simp only [cW,Cn.busy,Cn.zero] at g1 g2 g3 g4 g5 g6 g7 g8 g9 dt c7 c8 c9 e1 e2 e3 e4 e5 e6 e7 e8 e9 fa fb eD fc
  exact ⟨(by show dG N ⟨eQ,hl',eS,eR,eL,z',eJ,eK,eU,eV,eO,eN,eM⟩ ⟨⟨ml,mw,mz,mn⟩,ms,v,w,ws⟩; constructor <;> dsimp only <;> omega),trivial⟩
 | la =>
  simp only [cW,Cn.busy,Cn.zero] at g1 g2 g3 g4 g5 g6 g7 g8 g9 dt c7 c8 c9 e1 e2 e3 e4 e5 e6 e7 e8 e9 fa fb eD fc
  exact ⟨(by show dG N ⟨eQ,hl',eS,eR,eL,z',eJ,eK,eU,eV,eO,eN,eM⟩ ⟨⟨ml,mw,mz,mn⟩,ms,v,w,ws⟩; constructor <;> dsimp only <;> omega),trivial⟩
 | ul =>
  simp only [cW,Cn.busy,Cn.zero] at g1 g2 g3 g4 g5 g6 g7 g8 g9 dt c7 c8 c9 e1 e2 e3 e4 e5 e6 e7 e8 e9 fa fb eD fc
  exact ⟨(by show dG N ⟨eQ,hl',eS,eR,eL,z',eJ,eK,eU,eV,eO,eN,eM⟩ ⟨⟨ml,mw,mz,mn⟩,ms,v,w,ws⟩; constructor <;> dsimp only <;> omega),trivial⟩
 | uv =>
  simp only [cW,Cn.busy,Cn.zero] at g1 g2 g3 g4 g5 g6 g7 g8 g9 dt c7 c8 c9 e1 e2 e3 e4 e5 e6 e7 e8 e9 fa fb eD fc
  exact ⟨(by show dG N ⟨eQ,hl',eS,eR,eL,z',eJ,eK,eU,eV,eO,eN,eM⟩ ⟨⟨ml,mw,mz,mn⟩,ms,v,w,ws⟩; constructor <;> dsimp only <;> omega),trivial⟩
 | ur =>
  simp only [cW,Cn.busy,Cn.zero] at g1 g2 g3 g4 g5 g6 g7 g8 g9 dt c7 c8 c9 e1 e2 e3 e4 e5 e6 e7 e8 e9 fa fb eD fc
  exact ⟨(by show dG N ⟨eQ,hl',eS,eR,eL,z',eJ,eK,eU,eV,eO,eN,eM⟩ ⟨⟨ml,mw,mz,mn⟩,ms,v,w,ws⟩; constructor <;> dsimp only <;> omega),trivial⟩
 | ud =>
  simp only [cW,Cn.busy,Cn.zero] at g1 g2 g3 g4 g5 g6 g7 g8 g9 dt c7 c8 c9 e1 e2 e3 e4 e5 e6 e7 e8 e9 fa fb eD fc
  exact ⟨(by show dG N ⟨eQ,hl',eS,eR,eL,z',eJ,eK,eU,eV,eO,eN,eM⟩ ⟨⟨ml,mw,mz,mn⟩,ms,v,w,ws⟩; constructor <;> dsimp only <;> omega),trivial⟩
 | u0z a b d =>
  simp only at a b d; subst a b d
  simp only [cW,Cn.busy,Cn.zero] at g1 g2 g3 g4 g5 g6 g7 g8 g9 dt c7 c8 c9 e1 e2 e3 e4 e5 e6 e7 e8 e9 fa fb eD fc
  exact ⟨(by show dG N ⟨eQ,hl',eS,eR,eL,z',eJ,eK,eU,eV,eO,eN,eM⟩ ⟨⟨0,0,0,0⟩,ms,v,w,ws⟩; constructor <;> dsimp only <;> omega),trivial⟩
 | Ap a b =>
  simp only at a b; subst b
  by_cases hx:mn=0∨(0:Nat)=1∨mw=1∨(0:Nat)=1
  ·have eh:hu ⟨0,mw,0,mn⟩ = .ue:=by simp only [hu,hx,if_true]
   simp only [eh] at g1 g2 g3 g4 g5 g6 g7 g8 g9 dt c7 c8 c9
   simp only [cW,Cn.busy,Cn.zero] at g1 g2 g3 g4 g5 g6 g7 g8 g9 dt c7 c8 c9 e1 e2 e3 e4 e5 e6 e7 e8 e9 fa fb eD fc
   rw [eh]
   exact ⟨(by show dG N ⟨eQ,hl',eS,eR,eL,z',eJ,eK,eU,eV,eO,eN,eM⟩ ⟨⟨0,mw,0,mn⟩,ms,v,w,ws⟩; constructor <;> dsimp only <;> omega),trivial⟩
  ·have eh:hu ⟨0,mw,0,mn⟩ = .uc ⟨0,mw,0,mn⟩:=by simp only [hu,hx,if_false]
   simp only [eh] at g1 g2 g3 g4 g5 g6 g7 g8 g9 dt c7 c8 c9
   simp only [cW,Cn.busy,Cn.zero] at g1 g2 g3 g4 g5 g6 g7 g8 g9 dt c7 c8 c9 e1 e2 e3 e4 e5 e6 e7 e8 e9 fa fb eD fc
   rw [eh]
   exact ⟨(by show dG N ⟨eQ,hl',eS,eR,eL,z',eJ,eK,eU,eV,eO,eN,eM⟩ ⟨⟨0,mw,0,mn⟩,ms,v,w,ws⟩; constructor <;> dsimp only <;> omega),⟨by simp,q2,by simp,q4⟩,rfl,by simp only; omega,rfl,by simp only; omega⟩
 | u0h a =>
  simp only at a; subst a
  simp only [cW,Cn.busy,Cn.zero] at g1 g2 g3 g4 g5 g6 g7 g8 g9 dt c7 c8 c9 e1 e2 e3 e4 e5 e6 e7 e8 e9 fa fb eD fc
  exact ⟨(by show dG N ⟨eQ,hl',eS,eR,eL,z',eJ,eK,eU,eV,eO,eN,eM⟩ ⟨⟨0,mw,1,mn⟩,ms,v,w,ws⟩; constructor <;> dsimp only <;> omega),trivial⟩
 | akp a =>
  cases a
  obtain ⟨⟨o1,o2,o3,o4⟩,t2,t3,t4,t5⟩:=hT
  simp only at t2 t3 t4 t5
  subst t2 t3 t4
  simp only [cW,Cn.busy,Cn.zero] at g1 g2 g3 g4 g5 g6 g7 g8 g9 dt c7 c8 c9 e1 e2 e3 e4 e5 e6 e7 e8 e9 fa fb eD fc
  exact ⟨(by show dG N ⟨eQ,hl',eS,eR,eL,z',eJ,eK,eU,eV,eO,eN,eM⟩ ⟨⟨0,1,0,mn - 1⟩,ms,v,w,ws⟩; constructor <;> dsimp only <;> omega),trivial⟩
 | ab1 a =>
  simp only [cW,Cn.busy,Cn.zero] at g1 g2 g3 g4 g5 g6 g7 g8 g9 dt c7 c8 c9 e1 e2 e3 e4 e5 e6 e7 e8 e9 fa fb eD fc
  exact ⟨(by show dG N ⟨eQ,hl',eS,eR,eL,z',eJ,eK,eU,eV,eO,eN,eM⟩ ⟨⟨ml,mw,mz,mn⟩,ms,v,w,ws⟩; constructor <;> dsimp only <;> omega),trivial⟩
 | ux =>
  by_cases hx:mn=0∨ml=1∨mw=1∨mz=1
  ·have eh:hu ⟨ml,mw,mz,mn⟩ = .ue:=by simp only [hu,hx,if_true]
   simp only [eh] at g1 g2 g3 g4 g5 g6 g7 g8 g9 dt c7 c8 c9
   simp only [cW,Cn.busy,Cn.zero] at g1 g2 g3 g4 g5 g6 g7 g8 g9 dt c7 c8 c9 e1 e2 e3 e4 e5 e6 e7 e8 e9 fa fb eD fc
   rw [eh]
   exact ⟨(by show dG N ⟨eQ,hl',eS,eR,eL,z',eJ,eK,eU,eV,eO,eN,eM⟩ ⟨⟨ml,mw,mz,mn⟩,ms,v,w,ws⟩; constructor <;> dsimp only <;> omega),trivial⟩
  ·have eh:hu ⟨ml,mw,mz,mn⟩ = .uc ⟨ml,mw,mz,mn⟩:=by simp only [hu,hx,if_false]
   simp only [eh] at g1 g2 g3 g4 g5 g6 g7 g8 g9 dt c7 c8 c9
   simp only [cW,Cn.busy,Cn.zero] at g1 g2 g3 g4 g5 g6 g7 g8 g9 dt c7 c8 c9 e1 e2 e3 e4 e5 e6 e7 e8 e9 fa fb eD fc
   rw [eh]
   exact ⟨(by show dG N ⟨eQ,hl',eS,eR,eL,z',eJ,eK,eU,eV,eO,eN,eM⟩ ⟨⟨ml,mw,mz,mn⟩,ms,v,w,ws⟩; constructor <;> dsimp only <;> omega),⟨q1,q2,q3,q4⟩,by simp only; omega,by simp only; omega,by simp only; omega,by simp only; omega⟩
 | us =>
  simp only [cW,Cn.busy,Cn.zero] at g1 g2 g3 g4 g5 g6 g7 g8 g9 dt c7 c8 c9 e1 e2 e3 e4 e5 e6 e7 e8 e9 fa fb eD fc
  exact ⟨(by show dG N ⟨eQ,hl',eS,eR,eL,z',eJ,eK,eU,eV,eO,eN,eM⟩ ⟨⟨ml,mw,mz,mn⟩,ms+1,v,w,ws⟩; constructor <;> dsimp only <;> omega),trivial⟩
 | SH =>
  simp only [cW,Cn.busy,Cn.zero] at g1 g2 g3 g4 g5 g6 g7 g8 g9 dt c7 c8 c9 e1 e2 e3 e4 e5 e6 e7 e8 e9 fa fb eD fc
  exact ⟨(by show dG N ⟨eQ,hl',eS,eR,eL,z',eJ,eK,eU,eV,eO,eN,eM⟩ ⟨⟨ml,mw,mz,mn⟩,ms,v,w,ws⟩; constructor <;> dsimp only <;> omega),trivial⟩
 | SJ =>
  simp only [cW,Cn.busy,Cn.zero] at g1 g2 g3 g4 g5 g6 g7 g8 g9 dt c7 c8 c9 e1 e2 e3 e4 e5 e6 e7 e8 e9 fa fb eD fc
  exact ⟨(by show dG N ⟨eQ,hl',eS,eR,eL,z',eJ,eK,eU,eV,eO,eN,eM⟩ ⟨⟨ml,mw,mz,mn⟩,ms,v,w,ws⟩; constructor <;> dsimp only <;> omega),trivial⟩
 | wv =>
  simp only [cW,Cn.busy,Cn.zero] at g1 g2 g3 g4 g5 g6 g7 g8 g9 dt c7 c8 c9 e1 e2 e3 e4 e5 e6 e7 e8 e9 fa fb eD fc
  exact ⟨(by show dG N ⟨eQ,hl',eS,eR,eL,z',eJ,eK,eU,eV,eO,eN,eM⟩ ⟨⟨ml,mw,mz,mn⟩,ms,v,w,ws⟩; constructor <;> dsimp only <;> omega),trivial⟩
 | wr =>
  simp only [cW,Cn.busy,Cn.zero] at g1 g2 g3 g4 g5 g6 g7 g8 g9 dt c7 c8 c9 e1 e2 e3 e4 e5 e6 e7 e8 e9 fa fb eD fc
  exact ⟨(by show dG N ⟨eQ,hl',eS,eR,eL,z',eJ,eK,eU,eV,eO,eN,eM⟩ ⟨⟨ml,mw,mz,mn⟩,ms,v,w,ws⟩; constructor <;> dsimp only <;> omega),trivial⟩
 | wk =>
  simp only [cW,Cn.busy,Cn.zero] at g1 g2 g3 g4 g5 g6 g7 g8 g9 dt c7 c8 c9 e1 e2 e3 e4 e5 e6 e7 e8 e9 fa fb eD fc
  exact ⟨(by show dG N ⟨eQ,hl',eS,eR,eL,z',eJ,eK,eU,eV,eO,eN,eM⟩ ⟨⟨ml,mw,mz,mn⟩,ms,v,w,ws⟩; constructor <;> dsimp only <;> omega),trivial⟩
 | Kt a =>
  simp only [cW,Cn.busy,Cn.zero] at g1 g2 g3 g4 g5 g6 g7 g8 g9 dt c7 c8 c9 e1 e2 e3 e4 e5 e6 e7 e8 e9 fa fb eD fc
  exact ⟨(by show dG N ⟨eQ,hl',eS,eR,eL,z',eJ,eK,eU,eV,eO,eN,eM⟩ ⟨⟨ml,mw,mz,mn⟩,ms,v - 1,w,ws⟩; constructor <;> dsimp only <;> omega),trivial⟩
 | Vb a b =>
  simp only [cW,Cn.busy,Cn.zero] at g1 g2 g3 g4 g5 g6 g7 g8 g9 dt c7 c8 c9 e1 e2 e3 e4 e5 e6 e7 e8 e9 fa fb eD fc
  exact ⟨(by show dG N ⟨eQ,hl',eS,eR,eL,z',eJ,eK,eU,eV,eO,eN,eM⟩ ⟨⟨ml,mw,mz,mn⟩,ms,0,w,ws⟩; constructor <;> dsimp only <;> omega),trivial⟩
 | d2 =>
  simp only [cW,Cn.zero] at g1 g2 g3 g4 g5 g6 g7 g8 g9 dt c7 c8 c9 e1 e2 e3 e4 e5 e6 e7 e8 e9 fa fb eD fc
  exact ⟨(by show dG N ⟨eQ,hl',eS,eR,eL,z',eJ,eK,eU,eV,eO,eN,eM⟩ ⟨⟨ml,mw,mz,mn⟩,ms,v,w,ws⟩; constructor <;> dsimp only <;> omega),trivial⟩
 | d3 =>
  simp only [cW,Cn.zero] at g1 g2 g3 g4 g5 g6 g7 g8 g9 dt c7 c8 c9 e1 e2 e3 e4 e5 e6 e7 e8 e9 fa fb eD fc
  exact ⟨(by show dG N ⟨eQ,hl',eS,eR,eL,z',eJ,eK,eU,eV,eO,eN,eM⟩ ⟨⟨ml,mw,mz,mn⟩,ms,0,0,ws⟩; constructor <;> dsimp only <;> omega),trivial⟩
 | d4 =>
  simp only [cW,Cn.zero] at g1 g2 g3 g4 g5 g6 g7 g8 g9 dt c7 c8 c9 e1 e2 e3 e4 e5 e6 e7 e8 e9 fa fb eD fc
  exact ⟨(by show dG N ⟨eQ,hl',eS,eR,eL,z',eJ,eK,eU,eV,eO,eN,eM⟩ ⟨⟨ml,mw,mz,mn⟩,ms,v,w,ws+1⟩; constructor <;> dsimp only <;> omega),trivial⟩
end
inductive Mp
 | ka (r:Nat) | kc (r:Nat) | kv (r:Nat) | kd (r:Nat) | ke (r:Nat) | go (r:Nat) | wa | w1 | w2 (v:Nat) | wV | wW | w3 | w4 | we | qv | wq | fin
def ln:Nat→Mp
 | 0=>.wa
 | r+1=>.ka r
inductive gV:Mp→Sh→Mp→Sh→Prop
 | ka {s r}:gV (.ka r) s (.kc r) s
 | kc1 {s r}:s.v=0→gV (.kc r) s (.kv r) { s with v:=1 }
 | kv {s r}:gV (.kv r) s (.kd r) s
 | kcn {s r}:s.v≠0→gV (.kc r) s (.ke r) { s with v:=s.v+1 }
 | kd {s r}:gV (.kd r) s (.ke r) s
 | ke {s r}:gV (.ke r) s (.go r) s
 | wa {s}:gV .wa s .w1 s
 | w1z {s}:s.v=0→gV .w1 s .we s
 | w1n {s}:s.v≠0→gV .w1 s (.w2 s.v) s
 | ak7 {s}:gV (.w2 s.v) s .wV { s with w:=1 }
 | wV {s}:gV .wV s .wW s
 | ak6 {s v}:s.v≠v→gV (.w2 v) s .w1 s
 | wW {s}:gV .wW s .w3 s
 | w3 {s m}:s.ws=m+1→gV .w3 s .w4 { s with ws:=m }
 | w4 {s}:gV .w4 s .we s
 | we {s}:gV .we s .qv s
 | qv {s}:gV .qv s .wq s
 | wq {s}:gV .wq s .fin s
def rem:Mp→Nat
 | .ka r | .kc r | .kv r | .kd r | .ke r | .go r=>r+1
 | _=>0
def Cn.km(c:Cn):Nat:=c.wk+c.z+c.pc+c.a1+c.ak
def lE(c:Cn)(s:Sh):Mp→Prop
 | .ka _ | .kc _ | .wa | .w1=>s.v=c.lv∧s.w=0∧s.ws=0∧c.dw=0∧c.d4=0
 | .w2 v=>s.v=c.lv∧s.w=0∧s.ws=0∧c.dw=0∧c.d4=0∧v≠0
 | .kv _ | .kd _ | .ke _ | .go _=>s.v=c.lv+1∧s.w=0∧s.ws=0∧c.dw=0∧c.d4=0
 | .wV | .wW | .w3=>(s.w=1∧s.ws=0∧c.d4=0∧s.v=c.lv∧((s.v=0∧c.dw=1)∨(1≤s.v∧c.dw=0)))∨(s.w=0∧s.v=0∧c.lv=0∧c.dw=0∧c.d4+s.ws=1)
 | _=>s.v=0∧s.w=0∧s.ws=0∧c.lv=0∧c.dw=0∧c.d4=0
structure pk (N:Nat) (T0:Mp) (c:Cn) (s:Sh):Prop where
 wg:lE c s T0
 eq:c.lv+c.dw+c.d4=c.km
 le:c.km+rem T0≤N
def okW(N:Nat):Lp→Sh→Prop
 | .d1,s=>1≤s.v∧s.v≤N∧s.w≤1
 | .d2,s=>s.v=0∧s.w=1
 | .d4,s=>s.ws=0
 | _,_=>True
def pR(N:Nat):Mp→Sh→Prop
 | .kc _,s=>s.w=0∧s.v+1≤N
 | .w1,s=>s.w=0∧s.v≤N
 | .w2 v,s=>s.w=0∧s.v≤N∧v≠0
 | .w4,s=>s.v=0∧s.w=0
 | .w3,s=>s.ws≤1
 | _,_=>True
section
variable {N:Nat} {c c':Cn} {s s':Sh} {T T':Lp} {T0 jE:Mp}
theorem U6(T:Lp):(cW T).lv+(cW T).dw+(cW T).d4=(cW T).km:=by
 cases T <;> simp [cW,Cn.busy,Cn.zero,Cn.km]
 case a1 b=>cases b <;> simp
theorem Cn.Ba.km{x y:Cn}(h:c.Ba x y c'):c'.km+x.km=c.km+y.km:=by
 have:=h.wk; have:=h.z; have:=h.pc; have:=h.a1; have:=h.ak
 unfold Cn.km; omega
theorem pk.okW(h:pk N T0 c s)(hle:(cW T).Le c):okW N T s:=by
 obtain ⟨h1,h2,h3⟩:=h
 have e1:=hle.lv
 have e2:=hle.dw
 have e3:=hle.d4
 cases T <;> simp only [cW,Cn.busy,Cn.zero] at e1 e2 e3 <;> first | trivial | skip
 all_goals
  show _
  cases T0 <;> simp only [lE,rem] at h1 h3 <;> simp only [Go.Lg.okW] <;> omega
theorem pk.pR(h:pk N T0 c s):pR N T0 s:=by
 obtain ⟨h1,h2,h3⟩:=h
 cases T0 <;> simp only [lE,rem] at h1 h3 <;> simp only [Go.Lg.pR] <;> omega
set_option maxHeartbeats 2000000 in
theorem pk.step(h:pk N T0 c s)(hle:(cW T).Le c)(dQ:dK T s T' s')(hc:c.Ba (cW T) (cW T') c'):pk N T0 c' s':=by
 obtain ⟨h1,h2,h3⟩:=h
 have q1:=U6 T
 have q2:=U6 T'
 have q3:=hc.km
 have c7:=hc.lv
 have c8:=hc.dw
 have c9:=hc.d4
 have e1:=hle.lv
 have e2:=hle.dw
 have e3:=hle.d4
 have same:(cW T').lv=(cW T).lv→(cW T').dw=(cW T).dw→(cW T').d4=(cW T).d4→s'.v=s.v→s'.w=s.w→s'.ws=s.ws→pk N T0 c' s':=by
  intro a1 a2 a3 a4 a5 a6
  refine ⟨?_,by omega,by omega⟩
  cases T0 <;> simp only [lE,a4,a5,a6] at h1 ⊢ <;> omega
 cases dQ
 case Kt a =>
  refine ⟨?_,by omega,by simp only [cW,Cn.busy,Cn.zero,Cn.km] at q3; unfold Cn.km at h3 ⊢; omega⟩
  simp only [cW,Cn.busy,Cn.zero] at c7 c8 c9 e1 e2 e3
  clear q1 q2 q3 h2 h3 same hc hle
  have wt:lE c s .w3→lE c' { s with v:=s.v - 1 } .w3:=λ h=>by
   simp only [lE] at h ⊢
   rcases h with ⟨a1,a2,a3,a4,a5⟩ | ⟨a1,a2,a3,a4,a5⟩
   ·rcases a5 with ⟨a5,a6⟩ | ⟨a5,a6⟩ <;> first | omega | (refine .inl ⟨a1,a2,by omega,by omega,.inr ⟨by omega,by omega⟩⟩)
   ·first | omega | (omega)
  cases T0 <;> first | exact wt h1 | (simp only [lE] at h1 ⊢; omega)
 case Vb a b =>
  refine ⟨?_,by omega,by simp only [cW,Cn.busy,Cn.zero,Cn.km] at q3; unfold Cn.km at h3 ⊢; omega⟩
  simp only [cW,Cn.busy,Cn.zero] at c7 c8 c9 e1 e2 e3
  clear q1 q2 q3 h2 h3 same hc hle
  have wt:lE c s .w3→lE c' { s with v:=0 } .w3:=λ h=>by
   simp only [lE] at h ⊢
   rcases h with ⟨a1,a2,a3,a4,a5⟩ | ⟨a1,a2,a3,a4,a5⟩
   ·rcases a5 with ⟨a5,a6⟩ | ⟨a5,a6⟩ <;> first | omega | (exact .inl ⟨a1,a2,by omega,by omega,.inl ⟨trivial,by omega⟩⟩)
   ·first | omega | (omega)
  cases T0 <;> first | exact wt h1 | (simp only [lE] at h1 ⊢; omega)
 case d3 =>
  refine ⟨?_,by omega,by simp only [cW,Cn.zero,Cn.km] at q3; unfold Cn.km at h3 ⊢; omega⟩
  simp only [cW,Cn.zero] at c7 c8 c9 e1 e2 e3
  clear q1 q2 q3 h2 h3 same hc hle
  have wt:lE c s .w3→lE c' { s with v:=0,w:=0 } .w3:=λ h=>by
   simp only [lE] at h ⊢
   rcases h with ⟨a1,a2,a3,a4,a5⟩ | ⟨a1,a2,a3,a4,a5⟩
   ·rcases a5 with ⟨a5,a6⟩ | ⟨a5,a6⟩ <;> first | omega | (exact .inr ⟨trivial,trivial,by omega,by omega,by omega⟩)
   ·first | omega | (omega)
  cases T0 <;> first | exact wt h1 | (simp only [lE] at h1 ⊢; omega)
 case d4 =>
  refine ⟨?_,by omega,by simp only [cW,Cn.zero,Cn.km] at q3; unfold Cn.km at h3 ⊢; omega⟩
  simp only [cW,Cn.zero] at c7 c8 c9 e1 e2 e3
  clear q1 q2 q3 h2 h3 same hc hle
  have wt:lE c s .w3→lE c' { s with ws:=s.ws+1 } .w3:=λ h=>by
   simp only [lE] at h ⊢
   rcases h with ⟨a1,a2,a3,a4,a5⟩ | ⟨a1,a2,a3,a4,a5⟩
   ·rcases a5 with ⟨a5,a6⟩ | ⟨a5,a6⟩ <;> first | omega | (omega)
   ·first | omega | (exact .inr ⟨a1,a2,by omega,by omega,by omega⟩)
  cases T0 <;> first | exact wt h1 | (simp only [lE] at h1 ⊢; omega)
 case r0=>refine same ?_ ?_ ?_ rfl rfl rfl <;> simp only [tP] <;> rfl
 case r1=>refine same ?_ ?_ ?_ rfl rfl rfl <;> simp only [tP] <;> rfl
 case r3=>refine same ?_ ?_ ?_ rfl rfl rfl <;> simp only [tP] <;> rfl
 case Af=>refine same ?_ ?_ ?_ rfl rfl rfl <;> simp only [tP] <;> rfl
 case Ao=>refine same ?_ ?_ ?_ rfl rfl rfl <;> simp only [U7] <;> rfl
 case yT c0 hm hq=>refine same ?_ ?_ ?_ rfl rfl rfl <;> cases c0.ws <;> rfl
 case s1 c0 m hm=>refine same ?_ ?_ ?_ rfl rfl rfl <;> cases c0.sv <;> rfl
 case Nd c0 hm=>refine same ?_ ?_ ?_ rfl rfl rfl <;> cases (c0.sv && s.mu.n != 1) <;> rfl
 case a1 b=>refine same ?_ ?_ ?_ rfl rfl rfl <;> cases b <;> rfl
 case Ap a b=>refine same ?_ ?_ ?_ rfl rfl rfl <;> simp only [hu] <;> split <;> rfl
 case ux=>refine same ?_ ?_ ?_ rfl rfl rfl <;> simp only [hu] <;> split <;> rfl
 all_goals exact same rfl rfl rfl rfl rfl rfl
theorem pk.main(h:pk N T0 c s)(dQ:gV T0 s jE s'):pk N jE c s':=by
 obtain ⟨h1,h2,h3⟩:=h
 cases dQ
 case ak7 =>
  obtain ⟨a1,a2,a3,a4,a5,a6⟩:=h1
  exact ⟨.inl ⟨rfl,a3,a5,a1,.inr ⟨by dsimp only; omega,a4⟩⟩,h2,by simp only [rem] at h3 ⊢; omega⟩
 case wV=>exact ⟨h1,h2,h3⟩
 case wW=>exact ⟨h1,h2,h3⟩
 all_goals refine ⟨?_,h2,?_⟩ <;> simp only [lE,rem] at h1 h3 ⊢ <;> omega
theorem dG.main(h:dG N c s)(dQ:gV T0 s jE s'):dG N c s':=by
 obtain ⟨h1,h2,h3,h4,h5,h6,h8,h9,Bu,KG⟩:=h
 cases dQ <;> exact ⟨h1,h2,h3,h4,h5,h6,h8,h9,Bu,KG⟩
theorem pk.spawn{r:Nat}(h:pk N (.go r) c s)(hc:c.Ba Cn.zero (cW .ld) c'):pk N (ln r) c' s:=by
 obtain ⟨h1,h2,h3⟩:=h
 have q1:=U6 .ld
 have q3:=hc.km
 have c7:=hc.lv
 have c8:=hc.dw
 have c9:=hc.d4
 cases r <;> refine ⟨?_,?_,?_⟩ <;> simp only [lE,rem,ln,cW,Cn.busy,Cn.zero,Cn.km] at * <;> omega
theorem dG.spawn{r:Nat}(h:dG N c s)(hg:pk N (.go r) c s)(hc:c.Ba Cn.zero (cW .ld) c'):dG N c' s:=by
 have hle:=hg.le
 obtain ⟨h1,h2,h3,h4,h5,h6,h8,h9,Bu,KG⟩:=h
 obtain ⟨g1,g2,g3,g4,g5,g6,g7,g8,g9,dt,c7,c8,c9⟩:=hc
 simp only [cW,Cn.busy,Cn.zero,Cn.km,rem] at *
 constructor <;> omega
end
def iZ:Lp→Nat
 | .ld | .l0 | .r0=>9
 | .sq c | .c1 c | .r1 c | .c2 c | .r3 c=>if c.aw then 8 else 9
 | .t1 _ | .s1 _=>6
 | .t2 _ | .r2 _ | .a1 _=>8
 | .le | .lc | .la | .ul _ | .uv _ | .ur _=>5
 | .ud | .u0=>16
 | .uc _ | .ux=>15
 | .us=>14
 | .ue=>10
 | .wv | .wr | .wk | .d1=>8
 | .d2 | .d3=>6
 | .d4=>5
 | .quit=>0
def kS(m:Wd):Lp→Nat
 | .ld=>31
 | .l0=>30
 | .r0=>29
 | .sq c=>(4 - c.it) * 5+(if c.old=m then 0 else 5)+3
 | .c1 c=>(4 - c.it) * 5+(if c.old=m then 0 else 5)+2
 | .r1 c=>(4 - c.it) * 5+1
 | .c2 c=>(4 - c.it) * 5+(if c.old=m then 0 else 5)+1
 | .r3 c=>(4 - c.it) * 5+5
 | .t1 _=>2
 | .s1 _=>1
 | .t2 _=>25
 | .r2 _=>24
 | .le=>5
 | .lc=>4
 | .la=>3
 | .ul _=>2
 | .uv _=>1
 | .ud=>1
 | .uc o=>if o=m then 0 else 3
 | .ux=>2
 | .wv=>3
 | .wr=>2
 | .wk=>1
 | .d2=>1
 | _=>0
def iq:Lp→Bool
 | .ur _=>true
 | _=>false
theorem aMr(m:Wd)(T:Lp):kS m T≤31:=by
 cases T <;> simp only [kS] <;> (try split) <;> omega
theorem SB(c:Lc):iZ (hd c)=if c.aw then 8 else 9:=by unfold hd; split <;> rfl
theorem Sr{c:Lc}{m:Wd}(h:c.old=m):kS m (hd c)≤(4 - c.it) * 5+3:=by unfold hd; split <;> simp only [kS,h,if_true] <;> omega
theorem dK.Ps{N:Nat}{s s':Sh}{T T':Lp}(hT:rN N T)(dQ:dK T s T' s') :
  iZ T'+3 * s'.ms+3 * s'.ws < iZ T+3 * s.ms+3 * s.ws+(if iq T then 20 else 0) ∨
  (iZ T'+3 * s'.ms+3 * s'.ws=iZ T+3 * s.ms+3 * s.ws∧iq T=false∧s'.mu=s.mu∧s'.v=s.v∧kS s.mu T' < kS s.mu T):=by
 cases dQ
 case r0=>right; have:=Sr (c:=⟨s.mu,false,false,0,false⟩) (m:=s.mu) rfl; rw [SB]; generalize kS s.mu (hd _)=x at this ⊢; exact ⟨rfl,rfl,rfl,rfl,by simp only [kS]; simp only at this; omega⟩
 case Sy c=>right; simp [iZ,kS,iq]
 case Ao c h=>right; unfold j4; split <;> simp [iZ,kS,iq]; omega
 case UQ c h=>left; obtain ⟨_,_,_,t4,_⟩:=hT; simp [iZ,t4,iq]
 case UP c h=>right; simp [iZ,kS,iq,Ne.symm h]
 case r1 c =>
  right; obtain ⟨_,t2,_⟩:=hT
  have:=Sr (c:={ c with old:=s.mu,it:=c.it+1 }) (m:=s.mu) rfl
  rw [SB]; generalize kS s.mu (hd _)=x at this ⊢; exact ⟨rfl,rfl,rfl,rfl,by simp only [kS]; simp only at this; omega⟩
 case UW c h _ _=>left; simp only [iZ,iq]; split <;> simp
 case yT c h _=>left; simp only [iq]; cases c.ws <;> cases hb:c.aw <;> simp [iZ,hb]
 case UX c h=>right; simp [iZ,kS,iq,Ne.symm h]
 case r3 c =>
  right
  have:=Sr (c:={ c with old:=s.mu }) (m:=s.mu) rfl
  rw [SB]; generalize kS s.mu (hd _)=x at this ⊢; exact ⟨rfl,rfl,rfl,rfl,by simp only [kS]; simp only at this; omega⟩
 case t1 c b=>right; simp [iZ,kS,iq]
 case s1 c m h=>left; cases c.sv <;> simp [iZ,iq,h] <;> omega
 case t2 c b=>right; simp [iZ,kS,iq]
 case Nd c h=>right; simp [iZ,kS,iq]
 case Af c h =>
  right
  have:=Sr (c:={ c with old:=s.mu,aw:=true,it:=0 }) (m:=s.mu) rfl
  rw [SB]; generalize kS s.mu (hd _)=x at this ⊢; exact ⟨rfl,rfl,rfl,rfl,by simp only [kS]; simp only at this; omega⟩
 case Ap a b=>left; unfold hu; split <;> simp [iZ,iq]
 case ab1 m h=>right; simp [iZ,kS,iq,Ne.symm h]
 case ux=>unfold hu; split <;> simp [iZ,kS,iq]
 case us=>left; simp [iZ,iq]; omega
 case d4=>left; simp [iZ,iq]; omega
 case ur=>left; simp [iZ,iq]; omega
 all_goals simp [iZ,kS,iq]
def stM(J:Nat):Mp→Nat
 | .ka r | .kc r=>(r+1) * (20 * J+20)+15
 | .kv r | .kd r | .ke r | .go r=>(r+1) * (20 * J+20)+14
 | .wa | .w1 | .w2 _=>10
 | .wV | .wW | .w3=>8
 | .w4 | .we | .qv | .wq=>6
 | .fin=>0
def CP(v:Nat):Mp→Nat
 | .ka _=>1
 | .kv _=>3
 | .kd _=>2
 | .ke _=>1
 | .wa=>6
 | .w1=>4
 | .w2 u=>if u=v then 1 else 5
 | .wV=>2
 | .wW=>1
 | .w4=>3
 | .we=>2
 | .qv=>1
 | _=>0
theorem aMq(v:Nat)(T:Mp):CP v T≤31:=by
 cases T <;> simp only [CP] <;> (try split) <;> omega
theorem gV.Ps{J:Nat}{s s':Sh}{T T':Mp}(dQ:gV T s T' s') :
  stM J T'+3 * s'.ms+3 * s'.ws < stM J T+3 * s.ms+3 * s.ws ∨
  (stM J T'+3 * s'.ms+3 * s'.ws=stM J T+3 * s.ms+3 * s.ws∧s'.mu=s.mu∧s'.v=s.v∧CP s.v T' < CP s.v T):=by
 cases dQ
 case w1n h=>right; simp [stM,CP]
 case ak6 v h=>right; simp [stM,CP,Ne.symm h]
 case w3 m h=>left; simp [stM,h]; omega
 all_goals simp [stM,CP]
theorem aMZ(J r:Nat):stM J (ln r)+(20 * J+iZ .ld) < stM J (.go r):=by
 cases r with
 | zero=>simp [ln,stM,iZ]; omega
 | succ r=>simp only [ln,stM,iZ,Nat.add_mul]; omega
open Go.Conc Go.ConcN
def Dx(P:Program)(K:Goroutine→Prop):Nat→Goroutine→Prop
 | 0,g=>K g
 | n+1,g=>K g∨(g.status = .running∧∃ g',(∀ w,stepG P false g w = .go g' w #[])∧Dx P K n g')
structure Fx where
 P:Program
 B:Base
 bm:Nat
 bw:Nat
 bo:Nat
 tm:TypeId
 tw:TypeId
 N:Nat
 J:Nat
 cont:(Nat→Nat)→Obj
 ho:bm≠bw∧bm≠bo∧bw≠bo
 hJ:0 < J
 hN:N≤4
 mj:az→ah→Goroutine→Prop
def qJ(tm:TypeId)(s:Sh):Obj:=.cells #[.int .i32 s.mu.val,.int .u32 (s.ms:Int)] tm (0,0)
def AG(s:Sh):Int:=4294967296 * s.v+s.w
def qU(tw:TypeId)(s:Sh):Obj:=.cells #[.int .u64 (AG s),.int .u32 (s.ws:Int)] tw (0,0)
variable (F:Fx)
structure fW (s:Sh) (w:World):Prop where
 m:w.heap[F.bm]? = some (qJ F.tm s)
 g:w.heap[F.bw]? = some (qU F.tw s)
structure cH (s':Sh) (w w':World):Prop where
 size:w'.heap.size=w.heap.size
 same:∀ b,b≠F.bm→b≠F.bw→w'.heap[b]? = w.heap[b]?
 sh:fW F s' w'
 os:F.B.os w.os→F.B.os w'.os
 tape:w'.tape=w.tape
 out:w'.output=w.output
def am:Addr:=⟨F.bm,0,none⟩
def aw:Addr:=⟨F.bw,0,none⟩
def rY:Addr:=⟨F.bw,1,none⟩
def q9(es:Array Event):Prop:=(∀ e∈es,∃ a wr,e=⟨.cell a,wr,true⟩∧(a.block=F.bm∨a.block=F.bw))∨∃ a,(a.block=F.bm∨a.block=F.bw)∧es=semEvents a
def said(m:Mark):Array Event:=#[⟨.mark m,false,true⟩]
def Hh:Lp→Array Event→Prop
 | .ld,es | .ud,es | .wk,es=>es=said .disable
 | .le,es | .ue,es=>es=said .enable
 | .la,es=>es=said (.acquire (am F))
 | .ur _,es=>es=said (.releaseMerge (am F))
 | .wr,es=>es=said (.releaseMerge (aw F))
 | _,es=>q9 F es
def DR:Mp→Array Event→Prop
 | .ka _,es | .wa,es=>es=said .disable
 | .ke _,es | .we,es=>es=said .enable
 | .kd _,es=>es=said (.read (rY F))
 | .wW,es=>es=said (.write (rY F))
 | .wq,es=>es=said (.acquire (aw F))
 | _,es=>q9 F es
def kQ:Lp→Bool
 | .wk | .d1 | .d2 | .d3 | .d4=>true
 | _=>false
def Aq(j:Nat):Lp→Lp→Prop
 | .ue,.ld=>j < F.J
 | .ue,.wv=>j=F.J
 | _,_=>True
def yO(K:Nat→Lp→az→ah→Goroutine→Prop)(k j:Nat)(T T':Lp)(R:az)(H:ah)(g':Goroutine):Prop :=
 match T' with
 | .quit=>∃ q,QuitsD F.P q 1 g'
 | .ul _=>∀ js,js k=j→Own F.P F.B false (K j (.ul js)) R ((F.bo,F.cont js)::H) g'
 | .ud=>∃ js H',T = .ur js∧H=(F.bo,F.cont (gS js k (j+1)))::H'∧Own F.P F.B false (K (j+1) .ud) R H' g'
 | T'=>if kQ T' then ∃ q,Dx F.P (K j T' R H) q g' else Own F.P F.B false (K j T') R H g'
def KW:Nat→Nat→Nat→Lp→az→ah→Goroutine→Prop
 | 0,_,_,_,_,_,_=>True
 | n+1,k,j,T,R,H,g=>rN F.N T→g.status = .running∧g.offers=none∧((T = .us∨T = .d4)→mayWake F.P g=true) ∧
   ∀ w s,Fits F.B R H w→fW F s w→FH F.N T s→okW F.N T s →
    ((∃ c,T = .s1 c)∧s.ms=0∧stepG F.P false g w = .go { g with status:=.blocked } w #[]) ∨
    ∃ g' w' es T' s',dK T s T' s'∧Aq F j T T'∧Hh F T es∧stepG F.P false g w = .go g' w' es∧cH F s' w w' ∧
     yO F (KW n k) k j T T' R H g'
def KM:Nat→Mp→az→ah→Goroutine→Prop
 | 0,_,_,_,_=>True
 | n+1,T,R,H,g=>g.status = .running∧g.offers=none ∧
   ∀ w s,Fits F.B R H w→fW F s w→pR F.N T s →
    match T with
    | .go r=>∃ g' child,stepG F.P true g w = .spawn g' child w #[]∧Own F.P F.B false (KW F n (F.N - (r+1)) 0 .ld) R [] child∧Own F.P F.B true (KM n (ln r)) R H g'
    | .wq=>∃ g' w',stepG F.P true g w = .go g' w' (said (.acquire (aw F)))∧cH F s w w'∧∀ js,(∀ k,k < F.N→js k=F.J)→F.mj R ((F.bo,F.cont js)::H) g'
    | T=>(T = .w3∧s.ws=0∧stepG F.P true g w = .go { g with status:=.blocked } w #[]) ∨
     ∃ g' w' es T' s',gV T s T' s'∧DR F T es∧stepG F.P true g w = .go g' w' es∧cH F s' w w'∧Own F.P F.B true (KM n T') R H g'
inductive Ab
 | no
 | wk (k j:Nat) (T:Lp)
 | mn (T:Mp)
def cA:Ab→Cn
 | .wk _ _ T=>cW T
 | _=>.zero
def cP:Ab→Nat
 | .no=>0
 | .wk _ j T=>20 * (F.J - j)+iZ T
 | .mn T=>stM F.J T
def o5(s:Sh):Ab→Nat
 | .no=>0
 | .wk _ _ T=>kS s.mu T
 | .mn T=>CP s.v T
def px:Lp→Nat
 | .ld | .lc | .la | .ul _ | .uv _ | .ur _ | .ud | .wv | .wr | .wk=>0
 | _=>1
def qk:Mp→Nat
 | .ka _ | .go _ | .wa | .qv | .wq | .fin=>0
 | _=>1
def cnt(D:Nat→Ab)(n:Nat):Cn where
 ow:=dE n λ i=>(cA (D i)).ow
 hl:=dE n λ i=>(cA (D i)).hl
 pu:=dE n λ i=>(cA (D i)).pu
 pc:=dE n λ i=>(cA (D i)).pc
 al:=dE n λ i=>(cA (D i)).al
 z:=dE n λ i=>(cA (D i)).z
 a1:=dE n λ i=>(cA (D i)).a1
 ak:=dE n λ i=>(cA (D i)).ak
 ux:=dE n λ i=>(cA (D i)).ux
 wk:=dE n λ i=>(cA (D i)).wk
 lv:=dE n λ i=>(cA (D i)).lv
 dw:=dE n λ i=>(cA (D i)).dw
 d4:=dE n λ i=>(cA (D i)).d4
def cO(D:Nat→Ab)(i:Nat)(x:Ab):Nat→Ab:=λ j=>if j=i then x else D j
def ni(D:Nat→Ms)(i:Nat)(x:Ms):Nat→Ms:=λ j=>if j=i then x else D j
def MM(Q:Nat)(D:Nat→Ab)(s:Sh)(n:Nat):Nat:=(dE n (λ i=>cP F (D i))+3 * s.ms+3 * s.ws) * Q+dE n (λ i=>o5 s (D i))
def FG(j:Nat):Lp→Prop
 | .ud | .u0 | .uc _ | .ux | .us | .ue=>j≤F.J
 | .wv | .wr | .wk | .d1 | .d2 | .d3 | .d4=>j=F.J
 | .quit=>False
 | _=>j < F.J
def CD(js:Nat→Nat):Lp→Prop
 | .ul j | .uv j | .ur j=>j=js
 | _=>True
def ik(s:Sh)(js:Nat→Nat)(hl:Nat):ah:=(F.bm,qJ F.tm s)::(F.bw,qU F.tw s)::(if hl=0 then [(F.bo,F.cont js)] else [])
def rz(hl:Nat):Option Nat:=if hl=0 then some F.bo else none
def JZ(K:Goroutine→Prop)(z:Prop)(g:Goroutine):Prop:=∃ g0,K g0∧g0.status = .running∧g0.offers=none∧(g=g0∨(g={ g0 with status:=.blocked }∧z))
def rf(μ:Nat)(s:Sh)(i:Nat)(m:Ms)(x:Option Th)(mu:Bool)(d:Nat)(g:Goroutine):Ab→Prop
 | .no=>x=none∧0 < i∧∃ q,m=some (s6 q)∧QuitsD F.P q d g
 | .wk k j T=>0 < i∧d=px T∧mu=kQ T∧∃ y n,x=some y∧μ≤n ∧
   if kQ T then ∃ q,m=some (s6 q)∧Dx F.P (KW F n k j T y.R y.H) q g
   else (∃ Tr,m=some Tr∧Dw F.P F.B false (KW F n k j T) Tr y.R y.H g)∨(m=none∧(∃ c,T = .s1 c)∧JZ (KW F n k j T y.R y.H) (s.ms=0) g)
 | .mn T=>i=0∧d=qk T∧mu=false∧∃ y n,x=some y∧μ≤n ∧
   ((∃ Tr,m=some Tr∧Dw F.P F.B true (KM F n T) Tr y.R y.H g)∨(m=none∧T = .w3∧JZ (KM F n T y.R y.H) (s.ws=0) g))
structure Bk (Q:Nat) (T0:Mp) (D:Nat→Ab) (js:Nat→Nat) (s:Sh) (n:Nat):Prop where
 d0:D 0 = .mn T0
 nf:T0 ≠ .fin
 pos:0 < n
 out:∀ i,n≤i→D i = .no
 main:∀ i T,D i = .mn T→i=0
 tK:dG F.N (cnt D n) s
 aig:pk F.N T0 (cnt D n) s
 nK:∀ i k j T,D i = .wk k j T→rN F.N T∧FG F j T∧CD js T∧js k=j∧k+rem T0 < F.N
 sZ:∀ i i' k j j' T T',D i = .wk k j T→D i' = .wk k j' T'→i=i'
 done:∀ k,k+rem T0 < F.N→js k=F.J∨∃ i j T,D i = .wk k j T
 RO:∀ k,F.N≤k+rem T0→js k=0
 Ke:31 * (n+rem T0) < Q
structure MI (Q:Nat) (T0:Mp) (D:Nat→Ab) (m:Nat→Ms) (js:Nat→Nat) (s:Sh) (th:Nat→Option Th) (mu:Nat→Bool) (dd:Nat→Nat) (gs:Array Goroutine) (w:World) (t:Trace):Prop where
 mem:fS F.B th (ik F s js (cnt D gs.size).hl) w
 tr:dk (some (am F)) (some (aw F)) th mu dd [F.bm,F.bw] (rz F (cnt D gs.size).hl) w.heap.size t
 yv:∀ i g,gs[i]? = some g→rf F (MM F Q D s gs.size) s i (m i) (th i) (mu i) (dd i) g (D i)
 out:∀ i,gs.size≤i→th i=none∧mu i=false∧dd i=0
 bk:Bk F Q T0 D js s gs.size
end Go.Lg
namespace Go.Lg
open Go.Conc Go.ConcN
theorem ko(D:Nat→Ab)(i:Nat)(x:Ab):cO D i x i=x:=by simp [cO]
theorem fY{D:Nat→Ab}{i j:Nat}{x:Ab}(h:j≠i):cO D i x j=D j:=by simp [cO,h]
theorem No(D:Nat→Ms)(i:Nat)(x:Ms):ni D i x i=x:=by simp [ni]
theorem I6{D:Nat→Ms}{i j:Nat}{x:Ms}(h:j≠i):ni D i x j=D j:=by simp [ni,h]
theorem F8{th:Nat→Option Th}{i:Nat}{x:Option Th}(h:th i=x):gA th i x=th:=by
 funext j; unfold gA; split
 ·rename_i e; subst e; exact h.symm
 ·rfl
theorem abV{f:Nat→Nat}{i:Nat}:∀ {n:Nat},i < n→f i≤dE n f
 | n+1,h=>by
  simp only [dE]
  rcases Nat.lt_or_ge i n with bV | vw
  ·have:=abV (f:=f) bV; omega
  ·obtain rfl:i=n:=by omega
   omega
theorem SF{f:Nat→Nat}{b:Nat}(h:∀ i,f i≤b):∀ n,dE n f≤b * n
 | 0=>by simp [dE]
 | n+1=>by have:=SF h n; have:=h n; simp only [dE,Nat.mul_succ]; omega
theorem xi{D:Nat→Ab}{i n:Nat}(hi:i < n)(x:Ab):(cnt D n).Ba (cA (D i)) (cA x) (cnt (cO D i x) n):=by
 have key:∀ f:Cn→Nat,dE n (λ j=>f (cA (cO D i x j)))+f (cA (D i))=dE n (λ j=>f (cA (D j)))+f (cA x):=λ f=>by
  have:=F5 (f:=λ j=>f (cA (D j))) (g:=λ j=>f (cA (cO D i x j))) hi (λ k hk=>by simp only [fY hk])
  simpa only [ko] using this
 exact ⟨key _,key _,key _,key _,key _,key _,key _,key _,key _,key _,key _,key _,key _⟩
theorem G9{D:Nat→Ab}{i n:Nat}(hi:i < n):(cA (D i)).Le (cnt D n):=by
 have key:∀ f:Cn→Nat,f (cA (D i))≤dE n (λ j=>f (cA (D j))):=λ f=>abV (f:=λ j=>f (cA (D j))) hi
 exact ⟨key _,key _,key _,key _,key _,key _,key _,key _,key _,key _,key _,key _,key _⟩
theorem aeG{D:Nat→Ab}{n:Nat}(hn:0 < n)(x:Ab)(y:Ab)(hx:cA x = .zero)(h0:cA (D 0) = .zero):(cnt D n).Ba .zero (cA y) (cnt (cO (cO D n y) 0 x) (n+1)):=by
 have key:∀ f:Cn→Nat,f .zero=0→dE (n+1) (λ j=>f (cA (cO (cO D n y) 0 x j)))+f .zero=dE n (λ j=>f (cA (D j)))+f (cA y):=λ f hf=>by
  simp only [dE]
  rw [fY (show n≠0 by omega),ko,hf]
  have:dE n (λ j=>f (cA (cO (cO D n y) 0 x j)))=dE n (λ j=>f (cA (D j))):=Nn λ j hj=>by
   by_cases h:j=0
   ·subst h; rw [ko,hx,h0]
   ·rw [fY h,fY (by omega)]
  omega
 exact ⟨key _ rfl,key _ rfl,key _ rfl,key _ rfl,key _ rfl,key _ rfl,key _ rfl,key _ rfl,key _ rfl,key _ rfl,key _ rfl,key _ rfl,key _ rfl⟩
section
variable {F:Fx} {D:Nat→Ab} {s s':Sh} {n i Q:Nat} {x:Ab}
theorem ajI(s:Sh)(a:Ab):o5 s a≤31:=by
 cases a
 ·exact Nat.zero_le _
 ·exact aMr _ _
 ·exact aMq _ _
theorem Oh(hi:i < n)(hQ:31 * n < Q)
  (h:cP F x+3 * s'.ms+3 * s'.ws < cP F (D i)+3 * s.ms+3 * s.ws∨(cP F x+3 * s'.ms+3 * s'.ws=cP F (D i)+3 * s.ms+3 * s.ws∧s'.mu=s.mu∧s'.v=s.v∧o5 s x < o5 s (D i))) :
  MM F Q (cO D i x) s' n < MM F Q D s n:=by
 have h1:=F5 (f:=λ j=>cP F (D j)) (g:=λ j=>cP F (cO D i x j)) hi (λ k hk=>by simp only [fY hk])
 simp only [ko] at h1
 unfold MM
 rcases h with h | ⟨h,hm,hv,hr⟩
 ·have h2:dE n (λ j=>o5 s' (cO D i x j))≤31 * n:=SF (λ j=>ajI s' _) n
  generalize dE n (λ j=>cP F (cO D i x j))=a' at *
  generalize dE n (λ j=>cP F (D j))=a at *
  generalize dE n (λ j=>o5 s' (cO D i x j))=r' at *
  have h3:a'+3 * s'.ms+3 * s'.ws+1≤a+3 * s.ms+3 * s.ws:=by omega
  have h4:=Nat.mul_le_mul_right Q h3
  rw [Nat.add_mul _ 1 Q,Nat.one_mul] at h4
  omega
 ·have er:∀ a,o5 s' a=o5 s a:=λ a=>by cases a <;> simp [o5,hm,hv]
  have h2:=F5 (f:=λ j=>o5 s (D j)) (g:=λ j=>o5 s (cO D i x j)) hi (λ k hk=>by simp only [fY hk])
  simp only [ko] at h2
  have e:(λ j=>o5 s' (cO D i x j))=λ j=>o5 s (cO D i x j):=by funext j; exact er _
  rw [e]
  have e2:dE n (λ j=>cP F (cO D i x j))+3 * s'.ms+3 * s'.ws=dE n (λ j=>cP F (D j))+3 * s.ms+3 * s.ws:=by omega
  rw [e2]
  omega
theorem amO{y:Ab}(hn:0 < n)(hQ:31 * (n+1) < Q)(h:cP F x+cP F y < cP F (D 0)):MM F Q (cO (cO D n y) 0 x) s (n+1) < MM F Q D s n:=by
 have h1:=F5 (f:=λ k=>cP F (D k)) (g:=λ k=>cP F (cO D 0 x k)) hn (λ k hk=>by simp only [fY hk])
 have h2:dE (n+1) (λ k=>cP F (cO (cO D n y) 0 x k))=dE n (λ k=>cP F (cO D 0 x k))+cP F y:=by
  simp only [dE]
  rw [fY (show n≠0 by omega),ko]
  congr 1
  exact Nn λ k hk=>by
   by_cases h0:k=0
   ·subst h0; rw [ko,ko]
   ·rw [fY h0,fY h0,fY (by omega)]
 simp only [ko] at h1
 have h3:dE (n+1) (λ j=>o5 s (cO (cO D n y) 0 x j))≤31 * (n+1):=SF (λ j=>ajI s _) _
 unfold MM
 rw [h2]
 generalize dE n (λ j=>cP F (cO D 0 x j))=a' at *
 generalize dE n (λ j=>cP F (D j))=a at *
 generalize dE (n+1) (λ j=>o5 s (cO (cO D n y) 0 x j))=r' at *
 have h4:a'+cP F y+3 * s.ms+3 * s.ws+1≤a+3 * s.ms+3 * s.ws:=by omega
 have h5:=Nat.mul_le_mul_right Q h4
 rw [Nat.add_mul _ 1 Q,Nat.one_mul] at h5
 omega
theorem amN(hi:i < n)(hQ:0 < Q)(h:0 < cP F (D i)):0 < MM F Q D s n:=by
 have:=abV (f:=λ j=>cP F (D j)) hi
 unfold MM
 have h2:0 < (dE n (λ j=>cP F (D j))+3 * s.ms+3 * s.ws) * Q:=Nat.mul_pos (by omega) hQ
 omega
end
section
variable {F:Fx} {B:Base} {th:Nat→Option Th} {s s':Sh} {js:Nat→Nat} {hl:Nat} {w w':World}
theorem Bh(F:Fx)(s:Sh)(js:Nat→Nat)(hl:Nat):(F.bm,qJ F.tm s)∈ik F s js hl:=by simp [ik]
theorem Bi(F:Fx)(s:Sh)(js:Nat→Nat)(hl:Nat):(F.bw,qU F.tw s)∈ik F s js hl:=by simp [ik]
theorem Kk(F:Fx)(s:Sh)(js:Nat→Nat)(hl:Nat):∀ b,b∈[F.bm,F.bw]→∃ o,(b,o)∈ik F s js hl:=λ b hb=>by
 simp only [fy,List.not_mem_nil,or_false] at hb
 rcases hb with rfl | rfl
 ·exact ⟨_,Bh F s js hl⟩
 ·exact ⟨_,Bi F s js hl⟩
theorem Kj(F:Fx)(s:Sh)(js:Nat→Nat)(hl:Nat):∀ b,rz F hl=some b→(∃ o,(b,o)∈ik F s js hl)∧b ∉ [F.bm,F.bw]:=λ b hb=>by
 unfold rz at hb
 split at hb
 ·cases hb
  rename_i h
  refine ⟨⟨F.cont js,by simp [ik,h]⟩,?_⟩
  have:=F.ho
  simp only [fy,List.not_mem_nil,or_false,not_or]
  exact ⟨λ e=>this.2.1 e.symm,λ e=>this.2.2 e.symm⟩
 ·cases hb
theorem FD{b:Nat}{o:Obj}(h:(b,o)∈ik F s js hl):(b=F.bm∧o=qJ F.tm s)∨(b=F.bw∧o=qU F.tw s)∨(b=F.bo∧o=F.cont js∧hl=0):=by
 unfold ik at h
 simp only [fy,Prod.mk.injEq] at h
 rcases h with h | h | h
 ·exact .inl h
 ·exact .inr (.inl h)
 ·split at h
  ·simp only [fy,Prod.mk.injEq,List.not_mem_nil,or_false] at h
   exact .inr (.inr ⟨h.1,h.2,‹_›⟩)
  ·cases h
theorem T3(h:fS B th (ik F s js hl) w):fW F s w:=⟨h.oF _ _ (Bh F s js hl),h.oF _ _ (Bi F s js hl)⟩
theorem fS.put(h:fS F.B th (ik F s js hl) w)(hp:cH F s' w w'):fS F.B th (ik F s' js hl) w':=by
 have ne:∀ b,(∃ j x,th j=some x∧((∃ o,x.R b=some o)∨∃ o,(b,o)∈x.H))→w'.heap[b]? = w.heap[b]? := by
  rintro b ⟨j,x,hx,hb⟩
  have h1:=h.mS _ _ (Bh F s js hl) j x hx
  have h2:=h.mS _ _ (Bi F s js hl) j x hx
  refine hp.same b (λ e=>?_) (λ e=>?_) <;> subst e
  ·rcases hb with ⟨o,ho⟩ | ⟨o,ho⟩
   ·exact nn h1.1 ho
   ·exact h1.2 o ho
  ·rcases hb with ⟨o,ho⟩ | ⟨o,ho⟩
   ·exact nn h2.1 ho
   ·exact h2.2 o ho
 refine ⟨λ j x hx=>?_,h.apart,λ b o hb=>?_,λ b o hb j x hx=>?_⟩
 ·have hf:=h.fits j x hx
  exact ⟨λ b o hb=>by rw [ne b ⟨j,x,hx,.inl ⟨o,hb⟩⟩]; exact hf.r b o hb,λ b o hb=>by rw [ne b ⟨j,x,hx,.inr ⟨o,hb⟩⟩]; exact hf.h b o hb,hf.nd,hf.dj,hp.os hf.os,hp.tape.trans hf.tape,hp.out.trans hf.out⟩
 ·rcases FD hb with ⟨rfl,rfl⟩ | ⟨rfl,rfl⟩ | ⟨rfl,rfl,hz⟩
  ·exact hp.sh.m
  ·exact hp.sh.g
  ·rw [hp.same _ (λ e=>F.ho.2.1 e.symm) (λ e=>F.ho.2.2 e.symm)]
   exact h.oF _ _ (by simp [ik,hz])
 ·rcases FD hb with ⟨rfl,rfl⟩ | ⟨rfl,rfl⟩ | ⟨rfl,rfl,hz⟩
  ·exact h.mS _ _ (Bh F s js hl) j x hx
  ·exact h.mS _ _ (Bi F s js hl) j x hx
  ·exact h.mS F.bo (F.cont js) (by simp [ik,hz]) j x hx
theorem fS.take{i hl':Nat}{R:az}{H:ah}(h:fS B th (ik F s js 0) w)(hi:th i=some ⟨R,H⟩)(hz:hl'≠0):fS B (gA th i (some ⟨R,(F.bo,F.cont js)::H⟩)) (ik F s js hl') w:=by
 have Ec:(F.bo,F.cont js)∈ik F s js 0:=by simp [ik]
 have hf:=h.fits i _ hi
 have kJ:=h.mS _ _ Ec
 have sub:∀ {b o},(b,o)∈ik F s js hl'→(b,o)∈ik F s js 0∧b≠F.bo:=λ {b o} hb=>by
  rcases FD hb with ⟨rfl,rfl⟩ | ⟨rfl,rfl⟩ | ⟨rfl,rfl,hx⟩
  ·exact ⟨Bh F s js 0,F.ho.2.1⟩
  ·exact ⟨Bi F s js 0,F.ho.2.2⟩
  ·exact absurd hx hz
 refine ⟨λ j x hx=>?_,λ j k x y oe hx hy b o hb=>?_,λ b o hb=>h.oF b o (sub hb).1,λ b o hb j x hx=>?_⟩
 ·by_cases hj:j=i
  ·subst hj; rw [fQ] at hx; cases hx
   refine ⟨hf.r,λ b o hb=>?_,?_,λ b o hb=>?_,hf.os,hf.tape,hf.out⟩
   ·rcases fy.1 hb with e | hb
    ·cases e; exact h.oF _ _ Ec
    ·exact hf.h b o hb
   ·rw [List.map_cons,List.nodup_cons]
    refine ⟨λ hm=>?_,hf.nd⟩
    obtain ⟨p,hp,he⟩:=List.mem_map.1 hm
    obtain ⟨b,o⟩:=p
    simp only at he
    subst he
    exact (kJ j _ hi).2 o hp
   ·rcases fy.1 hb with e | hb
    ·cases e; exact (kJ j _ hi).1
    ·exact hf.dj b o hb
  ·rw [eT hj] at hx; exact h.fits j x hx
 ·by_cases hj:j=i
  ·subst hj; rw [fQ] at hx; cases hx
   rw [eT (Ne.symm oe)] at hy
   rcases fy.1 hb with e | hb
   ·cases e; exact kJ k y hy
   ·exact h.apart j k _ _ oe hi hy b o hb
  ·rw [eT hj] at hx
   by_cases hk:k=i
   ·subst hk; rw [fQ] at hy; cases hy
    have:=h.apart j k _ _ oe hx hi b o hb
    refine ⟨this.1,λ o' fj=>?_⟩
    rcases fy.1 fj with e | fj
    ·cases e; exact (kJ j x hx).2 o hb
    ·exact this.2 o' fj
   ·rw [eT hk] at hy; exact h.apart j k x y oe hx hy b o hb
 ·by_cases hj:j=i
  ·subst hj; rw [fQ] at hx; cases hx
   have:=h.mS b o (sub hb).1 j _ hi
   refine ⟨this.1,λ o' fj=>?_⟩
   rcases fy.1 fj with e | fj
   ·cases e; exact (sub hb).2 rfl
   ·exact this.2 o' fj
  ·rw [eT hj] at hx; exact h.mS b o (sub hb).1 j x hx
theorem fS.asS{i:Nat}{R:az}{H:ah}{jq:Nat→Nat}(h:fS B th (ik F s js hl) w)(_:hl≠0)(hi:th i=some ⟨R,(F.bo,F.cont jq)::H⟩):fS B (gA th i (some ⟨R,H⟩)) (ik F s jq 0) w:=by
 have hf:=h.fits i _ hi
 have dR:=hf.nd
 rw [List.map_cons,List.nodup_cons] at dR
 have Ej:∀ o,(F.bo,o) ∉ H:=λ o ho=>dR.1 (List.mem_map.2 ⟨_,ho,rfl⟩)
 have key:∀ j x,gA th i (some ⟨R,H⟩) j=some x→∃ y,th j=some y∧x.R=y.R∧(∀ p,p∈x.H→p∈y.H):=λ j x hx=>by
  by_cases hj:j=i
  ·subst hj; rw [fQ] at hx; cases hx
   exact ⟨_,hi,rfl,λ p hp=>List.mem_cons_of_mem _ hp⟩
  ·rw [eT hj] at hx; exact ⟨x,hx,rfl,λ p hp=>hp⟩
 refine ⟨λ j x hx=>?_,λ j k x y oe hx hy b o hb=>?_,λ b o hb=>?_,λ b o hb j x hx=>?_⟩
 ·by_cases hj:j=i
  ·subst hj; rw [fQ] at hx; cases hx
   exact ⟨hf.r,λ b o hb=>hf.h b o (List.mem_cons_of_mem _ hb),dR.2,λ b o hb=>hf.dj b o (List.mem_cons_of_mem _ hb),hf.os,hf.tape,hf.out⟩
  ·rw [eT hj] at hx; exact h.fits j x hx
 ·obtain ⟨x',B4,e1,e2⟩:=key j x hx
  obtain ⟨y',ui,e3,e4⟩:=key k y hy
  have:=h.apart j k x' y' oe B4 ui b o (e2 _ hb)
  exact ⟨by rw [e3]; exact this.1,λ o' fj=>this.2 o' (e4 _ fj)⟩
 ·rcases FD hb with ⟨rfl,rfl⟩ | ⟨rfl,rfl⟩ | ⟨rfl,rfl,_⟩
  ·exact h.oF _ _ (Bh F s js hl)
  ·exact h.oF _ _ (Bi F s js hl)
  ·exact hf.h _ _ (by simp)
 ·obtain ⟨x',B4,e1,e2⟩:=key j x hx
  rcases FD hb with ⟨rfl,rfl⟩ | ⟨rfl,rfl⟩ | ⟨rfl,rfl,_⟩
  ·have:=h.mS _ _ (Bh F s js hl) j x' B4
   exact ⟨by rw [e1]; exact this.1,λ o' fj=>this.2 o' (e2 _ fj)⟩
  ·have:=h.mS _ _ (Bi F s js hl) j x' B4
   exact ⟨by rw [e1]; exact this.1,λ o' fj=>this.2 o' (e2 _ fj)⟩
  ·by_cases hj:j=i
   ·subst hj; rw [fQ] at hx; cases hx
    exact ⟨hf.dj F.bo (F.cont jq) (by simp),Ej⟩
   ·rw [eT hj] at hx
    have:=h.apart i j _ _ (Ne.symm hj) hi hx F.bo (F.cont jq) (by simp)
    exact this
end
theorem RS{F:Fx}{j:Nat}(c:Lc):FG F j (hd c)↔j < F.J:=by unfold hd; split <;> exact Iff.rfl
theorem aKM{F:Fx}{j:Nat}(c:Lc):FG F j (j4 c)↔j < F.J:=by unfold j4; split <;> exact Iff.rfl
theorem ai0{F:Fx}{j:Nat}(m:Wd):FG F j (hu m)↔j≤F.J:=by unfold hu; split <;> exact Iff.rfl
section
variable {F:Fx} {Q:Nat} {T0 jE:Mp} {D:Nat→Ab} {js:Nat→Nat} {s s':Sh} {n i k j:Nat} {T T':Lp}
theorem aKN(h:FG F j T)(dQ:dK T s T' s')(B2:Aq F j T T')(hu:iq T=false)(hq:T' ≠ .quit):FG F j T':=by
 cases dQ
 case ur=>cases hu
 case r0=>exact (RS _).2 h
 case r1=>exact (RS _).2 h
 case r3=>exact (RS _).2 h
 case Af=>exact (RS _).2 h
 case Ao=>exact (aKM _).2 h
 case yT c _ _=>cases c.ws <;> exact h
 case s1 c _ _=>cases c.sv <;> exact h
 case Ap=>exact (ai0 _).2 h
 case ux=>exact (ai0 _).2 h
 case SH=>exact B2
 case SJ=>exact B2
 case Kt=>exact absurd rfl hq
 case d4=>exact absurd rfl hq
 all_goals exact h
theorem RR{js:Nat→Nat}(c:Lc):CD js (hd c):=by unfold hd; split <;> trivial
theorem aKL{js:Nat→Nat}(c:Lc):CD js (j4 c):=by unfold j4; split <;> trivial
theorem aiZ{js:Nat→Nat}(m:Wd):CD js (hu m):=by unfold hu; split <;> trivial
theorem Bk.Nc(h:Bk F Q T0 D js s n):31 * n < Q:=by have:=h.Ke; omega
theorem aNc{J:Nat}{T:Mp}(h:T ≠ .fin):0 < stM J T:=by cases T <;> simp only [stM] <;> first | omega | exact absurd rfl h
theorem Bk.uy(h:Bk F Q T0 D js s n):0 < MM F Q D s n:=amN h.pos (by have:=h.Nc; omega) (by rw [h.d0]; exact aNc h.nf)
theorem Bk.uM(h:Bk F Q T0 D js s n)(hd:D i = .wk k j T)(hi:i < n)(dQ:dK T s T' s'){x:Ab}{jq:Nat→Nat}(hx:cA x=cW T')(hxm:∀ T,x ≠ .mn T)(hxw:∀ k' j' T1,x = .wk k' j' T1→k'=k∧T1=T'∧jq k=j'∧FG F j' T1)
  (iT:∀ k',k'≠k→jq k'=js k') (gY:∀ i' k' j' T1,i'≠i→D i' = .wk k' j' T1→CD jq T1) (ayd:CD jq T') (avb:jq k=F.J∨∃ j',x = .wk k j' T'):Bk F Q T0 (cO D i x) jq s' n:=by
 have h0:i≠0:=λ e=>by subst e; rw [h.d0] at hd; cases hd
 obtain ⟨ot,oj,oh,ok,on⟩:=h.nK i k j T hd
 have hle:=G9 (D:=D) hi
 have xC:=xi (D:=D) hi x
 rw [hd] at hle xC
 rw [hx] at xC
 obtain ⟨ha,jK⟩:=h.tK.step ot hle dQ xC
 have hg:=h.aig.step hle dQ xC
 refine ⟨by rw [fY (Ne.symm h0)]; exact h.d0,h.nf,h.pos,λ i' qx=>by rw [fY (by omega)]; exact h.out i' qx,λ i' T hT=>?_,ha,hg,λ i' k' j' T1 hT=>?_,λ i1 i2 k' j1 j2 T1 T2 h1 h2=>?_,λ k' ed=>?_,λ k' ed=>?_,h.Ke⟩
 ·by_cases e:i'=i
  ·subst e; rw [ko] at hT; exact absurd hT (hxm T)
  ·rw [fY e] at hT; exact h.main i' T hT
 ·by_cases e:i'=i
  ·subst e; rw [ko] at hT
   obtain ⟨rfl,rfl,h3,h4⟩:=hxw k' j' T1 hT
   exact ⟨jK,h4,ayd,h3,on⟩
  ·rw [fY e] at hT
   obtain ⟨a1,a2,a3,a4,a5⟩:=h.nK i' k' j' T1 hT
   have hkk:k'≠k:=λ e'=>by subst e'; exact e (h.sZ i' i k' j' j T1 T hT hd)
   exact ⟨a1,a2,gY i' k' j' T1 e hT,by rw [iT k' hkk]; exact a4,a5⟩
 ·have key:∀ i1 j1 T1,cO D i x i1 = .wk k' j1 T1→∃ j' T',D i1 = .wk k' j' T':=λ i1 j1 T1 h1=>by
   by_cases e:i1=i
   ·subst e; rw [ko] at h1
    obtain ⟨rfl,_⟩:=hxw k' j1 T1 h1
    exact ⟨_,_,hd⟩
   ·rw [fY e] at h1; exact ⟨_,_,h1⟩
  obtain ⟨_,_,e1⟩:=key i1 j1 T1 h1
  obtain ⟨_,_,e2⟩:=key i2 j2 T2 h2
  exact h.sZ _ _ _ _ _ _ _ e1 e2
 ·by_cases e:k'=k
  ·subst e
   rcases avb with hz | ⟨j',hz⟩
   ·exact .inl hz
   ·exact .inr ⟨i,j',T',by rw [ko]; exact hz⟩
  ·rcases h.done k' ed with hz | ⟨i',j',T1,hz⟩
   ·exact .inl (by rw [iT k' e]; exact hz)
   ·refine .inr ⟨i',j',T1,?_⟩
    rw [fY (λ e'=>by subst e'; rw [hd] at hz; cases hz; exact e rfl)]; exact hz
 ·have e:k'≠k:=λ e=>by subst e; omega
  rw [iT k' e]; exact h.RO k' ed
theorem Bk.work(h:Bk F Q T0 D js s n)(hd:D i = .wk k j T)(hi:i < n)(dQ:dK T s T' s')(B2:Aq F j T T')(Ez:CD js T')(hu:iq T=false)(hq:T' ≠ .quit) :
  Bk F Q T0 (cO D i (.wk k j T')) js s' n∧MM F Q (cO D i (.wk k j T')) s' n < MM F Q D s n:=by
 obtain ⟨ot,oj,oh,ok,on⟩:=h.nK i k j T hd
 refine ⟨h.uM hd hi dQ rfl (λ T=>by simp) (λ k' j' T1 e=>?_) (λ _ _=>rfl) (λ i' k' j' T1 _ e=>(h.nK i' k' j' T1 e).2.2.1) Ez (.inr ⟨j,rfl⟩),Oh hi h.Nc ?_⟩
 ·cases e; exact ⟨rfl,rfl,ok,aKN oj dQ B2 hu hq⟩
 ·rw [hd]
  have:=dQ.Ps ot
  simp only [hu,l6,if_false] at this
  simp only [cP,o5]
  rcases this with z | ⟨z1,_,z2,z3,z4⟩
  ·left; omega
  ·right; exact ⟨by omega,z2,z3,z4⟩
theorem Bk.ur(h:Bk F Q T0 D js s n)(hd:D i = .wk k j (.ur js))(hi:i < n) :
  Bk F Q T0 (cO D i (.wk k (j+1) .ud)) (gS js k (j+1)) s n∧MM F Q (cO D i (.wk k (j+1) .ud)) s n < MM F Q D s n:=by
 obtain ⟨ot,oj,oh,ok,on⟩:=h.nK i k j _ hd
 have oj':j < F.J:=oj
 refine ⟨h.uM hd hi .ur rfl (λ T=>by simp) (λ k' j' T1 e=>?_) (λ k' ed=>uN ed) (λ i' k' j' T1 da e=>?_) trivial (.inr ⟨_,rfl⟩),Oh hi h.Nc ?_⟩
 ·cases e; exact ⟨rfl,rfl,uO _ _ _,oj'⟩
 ·
  have hb:=h.tK
  have h1:=hb.ow
  have h2:=hb.l1
  have a1:(cA (D i)).hl=1:=by rw [hd]; rfl
  cases T1 with
  | ul z =>
   have a2:(cA (D i')).hl=1:=by rw [e]; rfl
   have:2≤(cnt D n).hl:=by
    have qx:i' < n:=by
     apply Classical.byContradiction
     intro hn
     rw [h.out i' (by omega)] at e; cases e
    have t1:=(xi (D:=D) hi .no).hl
    have t2:=(G9 (D:=cO D i .no) qx).hl
    rw [fY da,a2] at t2
    rw [a1] at t1
    simp only [cA,Cn.zero] at t1
    omega
   omega
  | uv z =>
   have a2:(cA (D i')).hl=1:=by rw [e]; rfl
   have:2≤(cnt D n).hl:=by
    have qx:i' < n:=by
     apply Classical.byContradiction
     intro hn
     rw [h.out i' (by omega)] at e; cases e
    have t1:=(xi (D:=D) hi .no).hl
    have t2:=(G9 (D:=cO D i .no) qx).hl
    rw [fY da,a2] at t2
    rw [a1] at t1
    simp only [cA,Cn.zero] at t1
    omega
   omega
  | ur z =>
   have a2:(cA (D i')).hl=1:=by rw [e]; rfl
   have:2≤(cnt D n).hl:=by
    have qx:i' < n:=by
     apply Classical.byContradiction
     intro hn
     rw [h.out i' (by omega)] at e; cases e
    have t1:=(xi (D:=D) hi .no).hl
    have t2:=(G9 (D:=cO D i .no) qx).hl
    rw [fY da,a2] at t2
    rw [a1] at t1
    simp only [cA,Cn.zero] at t1
    omega
   omega
  | _=>trivial
 ·rw [hd]
  left
  simp only [cP,iZ]
  have:F.J - j=(F.J - (j+1))+1:=by omega
  omega
theorem Bk.quit(h:Bk F Q T0 D js s n)(hd:D i = .wk k j T)(hi:i < n)(dQ:dK T s .quit s')(hj:j=F.J)(hu:iq T=false) :
  Bk F Q T0 (cO D i .no) js s' n∧MM F Q (cO D i .no) s' n < MM F Q D s n:=by
 obtain ⟨ot,oj,oh,ok,on⟩:=h.nK i k j T hd
 refine ⟨h.uM hd hi dQ rfl (λ T=>by simp) (λ k' j' T1 e=>by cases e) (λ _ _=>rfl) (λ i' k' j' T1 _ e=>(h.nK i' k' j' T1 e).2.2.1) trivial (.inl (ok.trans hj)),Oh hi h.Nc ?_⟩
 rw [hd]
 have:=dQ.Ps ot
 simp only [hu,l6,if_false] at this
 simp only [cP,o5]
 rcases this with z | ⟨z1,_,z2,z3,z4⟩
 ·left; omega
 ·right; have z5:iZ Lp.quit=0:=rfl; subst hj; exact ⟨by omega,z2,z3,z4⟩
theorem aL9(dQ:gV T0 s jE s')(h:jE ≠ .fin):rem jE=rem T0:=by cases dQ <;> rfl
theorem Bk.aKf(h:Bk F Q T0 D js s n)(dQ:gV T0 s jE s')(hf:jE ≠ .fin):Bk F Q jE (cO D 0 (.mn jE)) js s' n∧MM F Q (cO D 0 (.mn jE)) s' n < MM F Q D s n:=by
 have hr:=aL9 dQ hf
 have xC:=xi (D:=D) h.pos (.mn jE)
 rw [h.d0] at xC
 have ec:cnt (cO D 0 (.mn jE)) n=cnt D n:=by
  obtain ⟨g1,g2,g3,g4,g5,g6,g7,g8,g9,dt,c7,c8,c9⟩:=xC
  simp only [cA,Cn.zero,Nat.add_zero] at *
  generalize cnt (cO D 0 (.mn jE)) n=c' at *
  generalize cnt D n=c at *
  cases c; cases c'; simp only [Cn.mk.injEq] at *
  exact ⟨g1,g2,g3,g4,g5,g6,g7,g8,g9,dt,c7,c8,c9⟩
 have key:∀ i' k' j' T1,cO D 0 (.mn jE) i' = .wk k' j' T1→D i' = .wk k' j' T1:=λ i' k' j' T1 e=>by
  by_cases e0:i'=0
  ·subst e0; rw [ko] at e; cases e
  ·rwa [fY e0] at e
 refine ⟨⟨ko _ _ _,hf,h.pos,λ i' qx=>by rw [fY (by have:=h.pos; omega)]; exact h.out i' qx,λ i' T hT=>?_,by rw [ec]; exact h.tK.main dQ,by rw [ec]; exact h.aig.main dQ,λ i' k' j' T1 e=>by rw [hr]; exact h.nK i' k' j' T1 (key _ _ _ _ e),
  λ i1 i2 k' j1 j2 T1 T2 h1 h2=>h.sZ _ _ _ _ _ _ _ (key _ _ _ _ h1) (key _ _ _ _ h2),λ k' ed=>?_,λ k' ed=>h.RO k' (by rw [← hr]; exact ed),by rw [hr]; exact h.Ke⟩,Oh h.pos h.Nc ?_⟩
 ·by_cases e0:i'=0
  ·exact e0
  ·rw [fY e0] at hT; exact h.main i' T hT
 ·rcases h.done k' (by rw [← hr]; exact ed) with z | ⟨i',j',T1,z⟩
  ·exact .inl z
  ·exact .inr ⟨i',j',T1,by rw [fY (λ e=>by subst e; rw [h.d0] at z; cases z)]; exact z⟩
 ·rw [h.d0]; exact dQ.Ps
theorem Sq(r:Nat):rem (ln r)=r:=by cases r <;> rfl
theorem aKI(r:Nat):ln r ≠ .fin:=by cases r <;> simp [ln]
theorem Bk.spawn{r:Nat}(h:Bk F Q (.go r) D js s n):Bk F Q (ln r) (cO (cO D n (.wk (F.N - (r+1)) 0 .ld)) 0 (.mn (ln r))) js s (n+1)∧MM F Q (cO (cO D n (.wk (F.N - (r+1)) 0 .ld)) 0 (.mn (ln r))) s (n+1) < MM F Q D s n:=by
 have xC:=aeG (D:=D) h.pos (.mn (ln r)) (.wk (F.N - (r+1)) 0 .ld) rfl (by rw [h.d0]; rfl)
 have jS:=h.pos
 have hle:=h.aig.le
 simp only [rem] at hle
 have hrN:r+1≤F.N:=by omega
 have key:∀ i' k' j' T1,cO (cO D n (.wk (F.N - (r+1)) 0 .ld)) 0 (.mn (ln r)) i' = .wk k' j' T1→(i'=n∧k'=F.N - (r+1)∧j'=0∧T1 = .ld)∨D i' = .wk k' j' T1:=λ i' k' j' T1 e=>by
  by_cases e0:i'=0
  ·subst e0; rw [ko] at e; cases e
  ·rw [fY e0] at e
   by_cases en:i'=n
   ·subst en; rw [ko] at e; cases e; exact .inl ⟨rfl,rfl,rfl,rfl⟩
   ·rw [fY en] at e; exact .inr e
 refine ⟨⟨ko _ _ _,aKI r,by omega,λ i' qx=>by rw [fY (by omega),fY (by omega)]; exact h.out i' (by omega),λ i' T hT=>?_,h.tK.spawn h.aig xC,h.aig.spawn xC,λ i' k' j' T1 e=>?_,λ i1 i2 k' j1 j2 T1 T2 h1 h2=>?_,λ k' ed=>?_,λ k' ed=>?_,?_⟩,amO jS ?_ ?_⟩
 ·by_cases e0:i'=0
  ·exact e0
  ·rw [fY e0] at hT
   by_cases en:i'=n
   ·subst en; rw [ko] at hT; cases hT
   ·rw [fY en] at hT; exact h.main i' T hT
 ·rw [Sq]
  rcases key i' k' j' T1 e with ⟨rfl,rfl,rfl,rfl⟩ | z
  ·exact ⟨trivial,F.hJ,trivial,h.RO _ (by simp only [rem]; omega),by omega⟩
  ·obtain ⟨a1,a2,a3,a4,a5⟩:=h.nK i' k' j' T1 z
   simp only [rem] at a5
   exact ⟨a1,a2,a3,a4,by omega⟩
 ·rcases key i1 k' j1 T1 h1 with ⟨q1,e1,_,_⟩ | z1 <;> rcases key i2 k' j2 T2 h2 with ⟨q2,e2,_,_⟩ | z2
  ·exact q1.trans q2.symm
  ·have:=(h.nK i2 _ j2 T2 z2).2.2.2.2; simp only [rem] at this; omega
  ·have:=(h.nK i1 _ j1 T1 z1).2.2.2.2; simp only [rem] at this; omega
  ·exact h.sZ _ _ _ _ _ _ _ z1 z2
 ·rw [Sq] at ed
  by_cases e:k'+(r+1) < F.N
  ·rcases h.done k' e with z | ⟨i',j',T1,z⟩
   ·exact .inl z
   ·refine .inr ⟨i',j',T1,?_⟩
    rw [fY (λ e=>by rw [e,h.d0] at z; cases z),fY (λ e=>by rw [e,h.out n (dr _)] at z; cases z)]; exact z
  ·exact .inr ⟨n,0,.ld,by rw [fY (by omega),ko]; congr 1; omega⟩
 ·rw [Sq] at ed; exact h.RO k' (by simp only [rem]; omega)
 ·rw [Sq]; have:=h.Ke; simp only [rem] at this; omega
 ·have:=h.Ke; simp only [rem] at this; omega
 ·rw [h.d0]
  have:=aMZ F.J r
  simp only [cP]
  omega
end
theorem Dw.F7{P:Program}{B:Base}{main:Bool}{K:az→ah→Goroutine→Prop}{T:Tree}{R:az}{H:ah}{g:Goroutine}(h:Dw P B main K T R H g)(hs:∀ R H g,K R H g→g.status = .running):g.status = .running:=by
 induction T generalizing R H g with
 | node ι f ih =>
  rcases h with h | ⟨h,_⟩ | ⟨R',H',i,_,h⟩
  ·exact hs _ _ _ h
  ·exact h
  ·exact ih i h
theorem EX{gs:Array Goroutine}{i:Nat}{g:Goroutine}(h:gs[i]? = some g):i < gs.size:=(Array.getElem?_eq_some_iff.1 h).1
theorem JZ.woken{P:Program}{K:Goroutine→Prop}{z z':Prop}{a a' x:Goroutine}{w:World}(h:JZ K z x)(hz:(mayWake P a=true∧a'.status ≠ .blocked∧a'.status ≠ .waiting)∨(z→z')):JZ K z' (woken P a a' w x):=by
 obtain ⟨g0,hK,hr,ho,hg⟩:=h
 refine ⟨g0,hK,hr,ho,?_⟩
 rcases hg with rfl | ⟨rfl,hzz⟩
 ·left
  unfold Conc.woken
  split
  ·exact again_running _ (.inl hr)
  ·rfl
 ·rcases hz with ⟨h1,h2,h3⟩ | hz
  ·left
   unfold Conc.woken
   rw [if_pos (by simp [h1,h2,h3])]
   obtain ⟨f,c,st,d,o⟩:=g0
   simp only at hr ho
   subst hr ho
   rfl
  ·unfold Conc.woken
   split
   ·left
    obtain ⟨f,c,st,d,o⟩:=g0
    simp only at hr ho
    subst hr ho
    rfl
   ·right; exact ⟨rfl,hz hzz⟩
theorem Dx.run{P:Program}{K:Goroutine→Prop}(hK:∀ g,K g→g.status = .running):∀ {q:Nat} {g:Goroutine},Dx P K q g→g.status = .running
 | 0,_,h=>hK _ h
 | _+1,_,h=>h.elim (hK _) (·.1)
section
variable {F:Fx} {Q:Nat} {T0:Mp} {D:Nat→Ab} {m:Nat→Ms} {js:Nat→Nat} {s s':Sh} {th:Nat→Option Th} {mu:Nat→Bool} {dd:Nat→Nat} {gs:Array Goroutine} {w:World} {t:Trace} {sl:Option (Nat × Nat)} {i:Nat} {g:Goroutine}
theorem KW.run{n k j:Nat}{T:Lp}{R:az}{H:ah}(h:KW F n k j T R H g)(hn:0 < n)(ho:rN F.N T):g.status = .running∧g.offers=none:=by
 cases n with
 | zero=>omega
 | succ n=>have:=h ho; exact ⟨this.1,this.2.1⟩
theorem KM.run{n:Nat}{T:Mp}{R:az}{H:ah}(h:KM F n T R H g)(hn:0 < n):g.status = .running∧g.offers=none:=by
 cases n with
 | zero=>omega
 | succ n=>exact ⟨h.1,h.2.1⟩
theorem rf.look{μ:Nat}{mm:Ms}{x:Option Th}{b:Bool}{d:Nat}{A:Ab}(h:rf F μ s i mm x b d g A)(hμ:0 < μ)(hT:∀ k j T,A = .wk k j T→rN F.N T) :
  (g.status = .running)∨(g.status = .finished∧A = .no)∨(g.status = .blocked∧mm=none∧((∃ k j c,A = .wk k j (.s1 c)∧s.ms=0)∨(A = .mn .w3∧s.ws=0))):=by
 cases A with
 | no =>
  obtain ⟨_,_,q,_,hq⟩:=h
  rcases hq.status with x | x
  ·exact .inl x
  ·exact .inr (.inl ⟨x,rfl⟩)
 | wk k j T =>
  obtain ⟨_,_,_,y,n,_,hn,h⟩:=h
  have ho:=hT k j T rfl
  split at h
  ·obtain ⟨q,_,hq⟩:=h
   exact .inl (hq.run λ g hg=>(hg.run (by omega) ho).1)
  ·rcases h with ⟨Tr,_,h⟩ | ⟨rfl,⟨c,rfl⟩,g0,hK,hr,_,hg⟩
   ·exact .inl (h.F7 λ R H g hg=>(KW.run hg (by omega) ho).1)
   ·rcases hg with rfl | ⟨rfl,hz⟩
    ·exact .inl hr
    ·exact .inr (.inr ⟨rfl,rfl,.inl ⟨k,j,c,rfl,hz⟩⟩)
 | mn T =>
  obtain ⟨_,_,_,y,n,_,hn,h⟩:=h
  rcases h with ⟨Tr,_,h⟩ | ⟨rfl,rfl,g0,hK,hr,_,hg⟩
  ·exact .inl (h.F7 λ R H g hg=>(KM.run hg (by omega)).1)
  ·rcases hg with rfl | ⟨rfl,hz⟩
   ·exact .inl hr
   ·exact .inr (.inr ⟨rfl,rfl,.inr ⟨rfl,hz⟩⟩)
theorem rf.woken{μ NS:Nat}{mm:Ms}{x:Option Th}{b:Bool}{d:Nat}{A:Ab}{a a':Goroutine}{w':World}(h:rf F μ s i mm x b d g A)(hμ:0 < μ)(hT:∀ k j T,A = .wk k j T→rN F.N T)(hle:NS≤μ)
  (hz:(mayWake F.P a=true∧a'.status ≠ .blocked∧a'.status ≠ .waiting)∨(s'.ms≤s.ms∧s'.ws≤s.ws)):rf F NS s' i mm x b d (Conc.woken F.P a a' w' g) A:=by
 have run:g.status = .running→Conc.woken F.P a a' w' g=g:=λ hr=>by
  unfold Conc.woken
  split
  ·exact again_running _ (.inl hr)
  ·rfl
 cases A with
 | no =>
  obtain ⟨h1,h2,q,h3,hq⟩:=h
  exact ⟨h1,h2,q,h3,by rw [woken_quitsD hq]; exact hq⟩
 | wk k j T =>
  obtain ⟨h1,h2,h3,y,n,h4,hn,h⟩:=h
  have ho:=hT k j T rfl
  refine ⟨h1,h2,h3,y,n,h4,by omega,?_⟩
  split
  ·rename_i hm
   rw [if_pos hm] at h
   obtain ⟨q,h5,hq⟩:=h
   exact ⟨q,h5,by rw [run (hq.run λ g hg=>(hg.run (by omega) ho).1)]; exact hq⟩
  ·rename_i hm
   rw [if_neg hm] at h
   rcases h with ⟨Tr,h5,h⟩ | ⟨h5,h6,hS⟩
   ·exact .inl ⟨Tr,h5,by rw [run (h.F7 λ R H g hg=>(KW.run hg (by omega) ho).1)]; exact h⟩
   ·exact .inr ⟨h5,h6,hS.woken (hz.imp id λ z h0=>by omega)⟩
 | mn T =>
  obtain ⟨h1,h2,h3,y,n,h4,hn,h⟩:=h
  refine ⟨h1,h2,h3,y,n,h4,by omega,?_⟩
  rcases h with ⟨Tr,h5,h⟩ | ⟨h5,h6,hS⟩
  ·exact .inl ⟨Tr,h5,by rw [run (h.F7 λ R H g hg=>(KM.run hg (by omega)).1)]; exact h⟩
  ·exact .inr ⟨h5,h6,hS.woken (hz.imp id λ z h0=>by omega)⟩
theorem MI.at(h:MI F Q T0 D m js s th mu dd gs w t)(d:Nat):MI F Q T0 D m js s th mu dd gs (w.at d) t:=⟨h.mem.at d,h.tr,h.yv,h.out,h.bk⟩
theorem MI.nK(h:MI F Q T0 D m js s th mu dd gs w t)(i:Nat):∀ k j T,D i = .wk k j T→rN F.N T:=λ k j T hd=>(h.bk.nK i k j T hd).1
theorem MI.uM(h:MI F Q T0 D m js s th mu dd gs w t)(hi:gs[i]? = some g){x:Ab}{m':Ms}{jE:Mp}{jq:Nat→Nat}{kl:Nat→Option Th}{mu':Nat→Bool}{dd':Nat→Nat}{g':Goroutine}{w':World}{t':Trace}
  (hz:(mayWake F.P g=true∧g'.status ≠ .blocked∧g'.status ≠ .waiting)∨(s'.ms≤s.ms∧s'.ws≤s.ws))
  (hM:MM F Q (cO D i x) s' gs.size≤MM F Q D s gs.size) (hm:fS F.B kl (ik F s' jq (cnt (cO D i x) gs.size).hl) w') (ht:dk (some (am F)) (some (aw F)) kl mu' dd' [F.bm,F.bw] (rz F (cnt (cO D i x) gs.size).hl) w'.heap.size t')
  (hs:rf F (MM F Q (cO D i x) s' gs.size) s' i m' (kl i) (mu' i) (dd' i) g' x) (ho:∀ j,j≠i→kl j=th j∧mu' j=mu j∧dd' j=dd j) (hb:Bk F Q jE (cO D i x) jq s' gs.size) :
  MI F Q jE (cO D i x) (ni m i m') jq s' kl mu' dd' ((gs.map (Conc.woken F.P g g' w')).setIfInBounds i g') w' t':=by
 have bV:=EX hi
 have gp:((gs.map (Conc.woken F.P g g' w')).setIfInBounds i g').size=gs.size:=by simp
 refine ⟨by rw [gp]; exact hm,by rw [gp]; exact ht,λ j y hj=>?_,λ j hj=>?_,by rw [gp]; exact hb⟩
 ·rw [gp]
  by_cases gE:j=i
  ·subst gE
   rw [uT (by simpa using bV)] at hj; cases hj
   rw [ko,No]; exact hs
  ·rw [nq (Ne.symm gE),Array.getElem?_map] at hj
   obtain ⟨z,hzz,rfl⟩:=Option.map_eq_some_iff.1 hj
   obtain ⟨e1,e2,e3⟩:=ho j gE
   rw [fY gE,I6 gE,e1,e2,e3]
   exact (h.yv j z hzz).woken h.bk.uy (h.nK j) hM hz
 ·rw [gp] at hj
  obtain ⟨e1,e2,e3⟩:=ho j (by omega)
  rw [e1,e2,e3]; exact h.out j hj
theorem aNy{D:Nat→Ab}{i:Nat}{x:Ab}(h:D i=x):cO D i x=D:=by
 funext j; unfold cO; split
 ·rename_i e; subst e; exact h.symm
 ·rfl
theorem MI.still(h:MI F Q T0 D m js s th mu dd gs w t)(hi:gs[i]? = some g){m':Ms}{kl:Nat→Option Th}{dd':Nat→Nat}{g':Goroutine}{w':World}{t':Trace}(hm:fS F.B kl (ik F s js (cnt D gs.size).hl) w')(ht:dk (some (am F)) (some (aw F)) kl mu dd' [F.bm,F.bw] (rz F (cnt D gs.size).hl) w'.heap.size t')
  (hs:rf F (MM F Q D s gs.size) s i m' (kl i) (mu i) (dd' i) g' (D i)) (ho:∀ j,j≠i→kl j=th j∧dd' j=dd j) :
  MI F Q T0 D (ni m i m') js s kl mu dd' ((gs.map (Conc.woken F.P g g' w')).setIfInBounds i g') w' t':=by
 have e:=aNy (D:=D) (i:=i) rfl
 have:=h.uM (x:=D i) (m':=m') (jE:=T0) (jq:=js) (s':=s) (kl:=kl) (mu':=mu) (dd':=dd') (g':=g') (w':=w') (t':=t') hi (.inr ⟨dr _,dr _⟩) (by rw [e]; exact dr _) (by rw [e]; exact hm) (by rw [e]; exact ht) (by rw [e]; exact hs) (λ j hj=>⟨(ho j hj).1,rfl,(ho j hj).2⟩) (by rw [e]; exact h.bk)
 rwa [e] at this
end
theorem aeO{t u:Trace}{g:Nat}:∀ {r:Nat},r≤u.size→(t++u).deaf g (t.size+r)=(u.toList.take r).foldl (deafStep g) (Deaf t g)
 | 0,_=>by simp only [Nat.add_zero,List.take_zero,List.foldl_nil]; exact deaf_old (dr _)
 | r+1,h=>by
  have ih:=aeO (t:=t) (u:=u) (g:=g) (r:=r) (by omega)
  have hr:r < u.size:=by omega
  have hu:(t++u)[t.size+r]? = some u[r]:=by
   rw [Array.getElem?_append_right (by omega),Nat.add_sub_cancel_left,q6 hr]
  rw [← Nat.add_assoc,deaf_succ hu,ih]
  have:u.toList.take (r+1)=u.toList.take r++[u[r]]:=by
   rw [List.take_add_one]
   simp [hr]
  rw [this,List.foldl_append]
  rfl
theorem aeP{g:Nat}:∀ {l:List MemOp} {d:Nat},(∀ op∈l,op.act ≠ .mark .enable)→d≤l.foldl (deafStep g) d
 | [],_,_=>dr _
 | y::l,d,h=>by
  have h1:d≤deafStep g d y:=by
   unfold deafStep
   split
   ·split <;> omega
   ·rename_i e; exact absurd e (h y (by simp))
   ·exact dr _
  exact Nat.le_trans h1 (aeP λ op an=>h op (List.mem_cons_of_mem _ an))
section
variable {F:Fx} {th:Nat→Option Th} {mu:Nat→Bool} {dd:Nat→Nat} {s:Sh} {js:Nat→Nat} {hl i:Nat} {w:World} {t:Trace} {fn:FuncId} {pos:String} {es:Array Event} {R:az} {H:ah}
theorem ahW(h:fS F.B th (ik F s js hl) w):F.bm < w.heap.size:=mg (h.oF _ _ (Bh F s js hl))
theorem Rh(h:fS F.B th (ik F s js hl) w):F.bw < w.heap.size:=mg (h.oF _ _ (Bi F s js hl))
theorem aon(_:fS F.B th (ik F s js hl) w)(he:q9 F es):∀ op∈MemOp.ofEvents i fn pos es,op.g=i∧(op.act = .mark .disable∨op.act = .mark .enable∨∃ a wr,op.act = .access ⟨.cell a,wr,true⟩∧(a.block=F.bm∨a.block=F.bw)):=by
 intro op an
 obtain ⟨e,oN,rfl⟩:=Cz an
 refine ⟨rfl,?_⟩
 rcases he with he | ⟨a,ha,rfl⟩
 ·obtain ⟨a,wr,rfl,ha⟩:=he e oN
  exact .inr (.inr ⟨a,wr,by cases wr <;> rfl,ha⟩)
 ·simp only [semEvents,List.mem_toArray,fy,List.not_mem_nil,or_false] at oN
  rcases oN with rfl | rfl | rfl | rfl
  ·exact .inl rfl
  ·exact .inr (.inr ⟨a,false,rfl,ha⟩)
  ·exact .inr (.inr ⟨a,true,rfl,ha⟩)
  ·exact .inr (.inl rfl)
theorem aom(he:q9 F es)(d:Nat):deafBehind d es=d:=by
 rcases he with he | ⟨a,_,rfl⟩
 ·obtain ⟨l⟩:=es
  unfold deafBehind
  simp only [List.foldl_toArray']
  induction l with
  | nil=>rfl
  | cons e l ih =>
   obtain ⟨a,wr,rfl,_⟩:=he e (by simp)
   exact ih λ e' PS=>he e' (by simp at PS ⊢; exact .inr PS)
 ·simp [deafBehind,semEvents]
theorem dk.Uv(hM:fS F.B th (ik F s js hl) w)(h:dk (some (am F)) (some (aw F)) th mu dd [F.bm,F.bw] (rz F hl) w.heap.size t)(hi:th i=some ⟨R,H⟩)(he:q9 F es)(hc:mu i=false∨1≤dd i) :
  dk (some (am F)) (some (aw F)) th mu dd [F.bm,F.bw] (rz F hl) w.heap.size (t++MemOp.ofEvents i fn pos es):=by
 have HC:=aon (i:=i) (fn:=fn) (pos:=pos) hM he
 have:=dk.app (u:=MemOp.ofEvents i fn pos es) (n':=w.heap.size) (R':=R) (H':=H) (d':=dd i) hM rfl (Kk F s js hl) (Kj F s js hl) h hi (λ op an=>(HC op an).1) (λ op an a ha=>?_) (λ op an=>?_) (λ op an a=>?_) (by rw [Deaf_own,h.deaf i,aom he]) ?_ (dr _) (λ _ _ x=>.inl x) (λ _ o x=>.inl ⟨o,x⟩)
 ·rwa [F8 hi,nj] at this
 ·rcases (HC op an).2 with e | e | ⟨a',wr,e,hb⟩ <;> rw [e] at ha
  ·cases ha
  ·cases ha
  ·simp only [MemAct.touch?,j8] at ha
   subst ha
   exact .inr ⟨a'.block,rfl,by rcases hb with hb | hb <;> simp [hb],.inl rfl⟩
 ·rcases (HC op an).2 with e | e | ⟨a',wr,e,hb⟩ <;> rw [e]
  ·trivial
  ·trivial
  ·show a'.block < _
   rcases hb with hb | hb <;> rw [hb]
   ·exact ahW hM
   ·exact Rh hM
 ·rcases (HC op an).2 with e | e | ⟨a',wr,e,hb⟩ <;> rw [e] <;> intro x <;> cases x
 ·refine hc.imp id λ hd k a hk Lx fC=>?_
  rcases fC with fC | ⟨g,hg,hz⟩
  ·obtain ⟨op,h1,h2⟩:=touch_of Lx
   rcases getElem?_append_cases h1 with ⟨bV,_⟩ | ⟨_,h3⟩
   ·omega
   ·rcases (HC op h3).2 with e | e | ⟨a',wr,e,hb⟩ <;> rw [e] at h2
    ·cases h2
    ·cases h2
    ·simp only [MemAct.touch?,j8] at h2
     subst h2; exact fC rfl
  ·obtain ⟨op,h1,h2⟩:=touch_of Lx
   have bV:=lt_size_of_getElem? h1
   rw [Array.size_append] at bV
   have Lr:g=i:=by
    rcases getElem?_append_cases h1 with ⟨bV,_⟩ | ⟨_,h3⟩
    ·omega
    ·rw [Trace.g?,h1] at hg
     simp only [Option.map_some,j8] at hg
     rw [← hg]; exact (HC op h3).1
   subst Lr
   obtain ⟨r,rfl⟩:∃ r,k=t.size+r:=⟨k - t.size,by omega⟩
   rw [aeO (by omega),h.deaf g] at hz
   have hup:dd g≤((MemOp.ofEvents g fn pos es).toList.take r).foldl (deafStep g) (dd g):=by
    refine aeP λ op' XH=>?_
    rcases he with he | ⟨a',ha',rfl⟩
    ·have hm:op'∈MemOp.ofEvents g fn pos es:=by simpa using List.mem_of_mem_take XH
     obtain ⟨e,oN,rfl⟩:=Cz hm
     obtain ⟨a',wr,rfl,_⟩:=he e oN
     cases wr <;> (intro x; cases x)
    ·have hr:r≤3:=by simp [MemOp.ofEvents,semEvents] at bV; omega
     have e4:(MemOp.ofEvents g fn pos (semEvents a')).toList=[⟨g,fn,pos,.mark .disable⟩,⟨g,fn,pos,.access ⟨.cell a',false,true⟩⟩,⟨g,fn,pos,.access ⟨.cell a',true,true⟩⟩,⟨g,fn,pos,.mark .enable⟩]:=by simp [MemOp.ofEvents,semEvents,MemAct.ofEvent]
     rw [e4] at XH
     have h3:op'∈[(⟨g,fn,pos,.mark .disable⟩:MemOp),⟨g,fn,pos,.access ⟨.cell a',false,true⟩⟩,⟨g,fn,pos,.access ⟨.cell a',true,true⟩⟩]:=by
      have:([(⟨g,fn,pos,.mark .disable⟩:MemOp),⟨g,fn,pos,.access ⟨.cell a',false,true⟩⟩,⟨g,fn,pos,.access ⟨.cell a',true,true⟩⟩,⟨g,fn,pos,.mark .enable⟩]).take r <+: ([(⟨g,fn,pos,.mark .disable⟩:MemOp),⟨g,fn,pos,.access ⟨.cell a',false,true⟩⟩,⟨g,fn,pos,.access ⟨.cell a',true,true⟩⟩,⟨g,fn,pos,.mark .enable⟩]).take 3:=List.take_prefix_take_left hr
      exact this.subset XH
     simp only [fy,List.not_mem_nil,or_false] at h3
     rcases h3 with rfl | rfl | rfl <;> (intro x; cases x)
   omega
theorem dk.word{m:Mark}{am' aw':Option Addr}{sh:List Nat}{fr:Option Nat}{n:Nat}(h:dk am' aw' th mu dd sh fr n t)(hm:m = .disable∨m = .enable) :
  dk am' aw' th mu (gS dd i (deafBehind (dd i) (said m))) sh fr n (t++MemOp.ofEvents i fn pos (said m)):=by
 refine h.leaves λ e he=>?_
 simp only [said,List.mem_toArray,fy,List.not_mem_nil,or_false] at he
 subst he
 rcases hm with rfl | rfl <;> rfl
end
theorem O4(c:Lc):px (hd c)=1:=by unfold hd; split <;> rfl
theorem apo(c:Lc):px (j4 c)=1:=by unfold j4; split <;> rfl
theorem aeT(m:Wd):px (hu m)=1:=by unfold hu; split <;> rfl
theorem RJ(c:Lc):kQ (hd c)=false:=by unfold hd; split <;> rfl
theorem aKw(c:Lc):kQ (j4 c)=false:=by unfold j4; split <;> rfl
theorem aiQ(m:Wd):kQ (hu m)=false:=by unfold hu; split <;> rfl
inductive NT (F:Fx):Lp→Lp→Array Event→Prop
 | at {T T' es}:q9 F es→px T'=px T→kQ T'=kQ T→NT F T T' es
 | Bm {T T'}:px T=0→px T'=1→kQ T'=kQ T→NT F T T' (said .disable)
 | en {T T'}:px T=1→px T'=0→kQ T'=kQ T→NT F T T' (said .enable)
theorem WX{c:Lc}{T:Lp}(h1:∀ c,T ≠ .sq c)(h2:∀ c,T ≠ .c2 c):hd c≠T:=by unfold hd; split <;> exact λ e=>by subst e; first | exact h1 _ rfl | exact h2 _ rfl
theorem abO{c:Lc}{T:Lp}(h1:∀ c,T ≠ .c1 c)(h2:∀ c,T ≠ .r1 c):j4 c≠T:=by unfold j4; split <;> exact λ e=>by subst e; first | exact h1 _ rfl | exact h2 _ rfl
theorem Zl{m:Wd}{T:Lp}(h1:T ≠ .ue)(h2:∀ c,T ≠ .uc c):hu m≠T:=by unfold hu; split <;> exact λ e=>by subst e; first | exact h1 rfl | exact h2 _ rfl
theorem dK.inv{s s':Sh}{T T':Lp}(h:dK T s T' s'):(∀ js,T' = .ul js→T = .la)∧(T' = .ud→iq T=true)∧(T' = .quit→T = .d1∨T = .d4):=by
 have k1:∀ c,(∀ js,hd c = .ul js→T = .la)∧(hd c = .ud→iq T=true)∧(hd c = .quit→T = .d1∨T = .d4):=λ c=>⟨λ js e=>absurd e (WX (by simp) (by simp)),λ e=>absurd e (WX (by simp) (by simp)),λ e=>absurd e (WX (by simp) (by simp))⟩
 have k2:∀ c,(∀ js,j4 c = .ul js→T = .la)∧(j4 c = .ud→iq T=true)∧(j4 c = .quit→T = .d1∨T = .d4):=λ c=>⟨λ js e=>absurd e (abO (by simp) (by simp)),λ e=>absurd e (abO (by simp) (by simp)),λ e=>absurd e (abO (by simp) (by simp))⟩
 have k3:∀ c,(∀ js,hu c = .ul js→T = .la)∧(hu c = .ud→iq T=true)∧(hu c = .quit→T = .d1∨T = .d4):=λ c=>⟨λ js e=>absurd e (Zl (by simp) (by simp)),λ e=>absurd e (Zl (by simp) (by simp)),λ e=>absurd e (Zl (by simp) (by simp))⟩
 cases h
 case r0=>exact k1 _
 case r1=>exact k1 _
 case r3=>exact k1 _
 case Af=>exact k1 _
 case Ao=>exact k2 _
 case Ap=>exact k3 _
 case ux=>exact k3 _
 case yT c _ _=>cases c.ws <;> simp
 case s1 c _ _=>cases c.sv <;> simp
 all_goals simp [iq]
theorem M4(i:Nat)(fn:FuncId)(pos:String)(m:Mark):MemOp.ofEvents i fn pos (said m)=#[⟨i,fn,pos,.mark m⟩]:=by simp [MemOp.ofEvents,said,MemAct.ofEvent]
section
variable {F:Fx} {Q:Nat} {T0:Mp} {D:Nat→Ab} {m:Nat→Ms} {js:Nat→Nat} {s s':Sh} {th:Nat→Option Th} {mu:Nat→Bool} {dd:Nat→Nat} {gs:Array Goroutine} {w w':World} {t:Trace} {sl:Option (Nat × Nat)} {i k j:Nat} {g g':Goroutine} {T T':Lp}
theorem dK.acm(h:dK T s T' s'):(T = .us∨T = .d4)∨(s'.ms≤s.ms∧s'.ws≤s.ws):=by
 cases h
 case us=>exact .inl (.inl rfl)
 case d4=>exact .inl (.inr rfl)
 case s1 c m h=>exact .inr ⟨by simp only; omega,dr _⟩
 all_goals exact .inr ⟨dr _,dr _⟩
theorem gV.acm{T T':Mp}(h:gV T s T' s'):s'.ms≤s.ms∧s'.ws≤s.ws:=by
 cases h
 case w3 m h=>exact ⟨dr _,by simp only; omega⟩
 all_goals exact ⟨dr _,dr _⟩
theorem evK(dQ:dK T s T' s'){es:Array Event}(he:Hh F T es)(h1:T ≠ .la)(h2:iq T=false)(h3:T ≠ .wr)(hq:T' ≠ .quit):NT F T T' es:=by
 cases dQ
 case ld=>rw [show es=said .disable from he]; exact .Bm rfl rfl rfl
 case ud=>rw [show es=said .disable from he]; exact .Bm rfl rfl rfl
 case le=>rw [show es=said .enable from he]; exact .en rfl rfl rfl
 case SH=>rw [show es=said .enable from he]; exact .en rfl rfl rfl
 case SJ=>rw [show es=said .enable from he]; exact .en rfl rfl rfl
 case wk=>rw [show es=said .disable from he]; exact .Bm rfl rfl rfl
 case la=>exact absurd rfl h1
 case ur=>cases h2
 case wr=>exact absurd rfl h3
 case Kt=>exact absurd rfl hq
 case d4=>exact absurd rfl hq
 case r0=>exact .at he (O4 _) (RJ _)
 case r1=>exact .at he (O4 _) (RJ _)
 case r3=>exact .at he (O4 _) (RJ _)
 case Af=>exact .at he (O4 _) (RJ _)
 case Ao=>exact .at he (apo _) (aKw _)
 case yT c _ _=>exact .at he (by cases c.ws <;> rfl) (by cases c.ws <;> rfl)
 case s1 c _ _=>exact .at he (by cases c.sv <;> rfl) (by cases c.sv <;> rfl)
 case Ap=>exact .at he (aeT _) (aiQ _)
 case ux=>exact .at he (aeT _) (aiQ _)
 all_goals exact .at he rfl rfl
theorem aKA{K:Nat→Lp→az→ah→Goroutine→Prop}{R:az}{H:ah}(dQ:dK T s T' s')(h1:T ≠ .la)(h2:iq T=false)(hq:T' ≠ .quit)(h:yO F K k j T T' R H g') :
  if kQ T' then ∃ q,Dx F.P (K j T' R H) q g' else Own F.P F.B false (K j T') R H g':=by
 cases hT:T' with
 | quit=>exact absurd hT hq
 | ul js=>exact absurd (dQ.inv.1 js hT) h1
 | ud=>rw [dQ.inv.2.1 hT] at h2; cases h2
 | _=>subst hT; exact h
theorem apj(h:MI F Q T0 D m js s th mu dd gs w t)(hi:gs[i]? = some g)(hd:D i = .wk k j T):0 < i∧dd i=px T∧mu i=kQ T:=by
 have:=h.yv i g hi
 rw [hd] at this
 exact ⟨this.1,this.2.1,this.2.2.1⟩
theorem MI.work(h:MI F Q T0 D m js s th mu dd gs w t)(hi:gs[i]? = some g)(hd:D i = .wk k j T){y:Th}(hy:th i=some y){n:Nat}(hn:MM F Q D s gs.size≤n)(hK:KW F n k j T y.R y.H g) :
  ((∃ c,T = .s1 c)∧s.ms=0∧stepG F.P false g w = .go { g with status:=.blocked } w #[]) ∨
  ∃ jl w' ops D' m' jq s' kl mu' dd',(∀ sl,runT F.P (crowd gs w sl) i=(.next (crowd jl w' sl),ops))∧jl.size=gs.size∧MI F Q T0 D' m' jq s' kl mu' dd' jl w' (t++ops)∧MM F Q D' s' jl.size < MM F Q D s gs.size:=by
 have bV:=EX hi
 obtain ⟨jS,jR,dM⟩:=apj h hi hd
 have vy:(i == 0)=false:=by simp; omega
 obtain ⟨ot,oj,oh,ok,on⟩:=h.bk.nK i k j T hd
 have hle:=G9 (D:=D) bV
 rw [hd] at hle
 have hMp:=h.bk.uy
 obtain ⟨n',rfl⟩:∃ n',n=n'+1:=⟨n - 1,by omega⟩
 obtain ⟨lf,aYz,axU,de⟩:=hK ot
 obtain ⟨R,H⟩:=y
 rcases de w s (h.mem.fits i _ hy) (T3 h.mem) (h.bk.tK.FH hle) (h.bk.aig.okW hle) with hb | ⟨g',w',es,T',s',dQ,B2,kM,de,nE,P4⟩
 ·exact .inl hb
 right
 have hr:∀ sl,runT F.P (crowd gs w sl) i=(.next (crowd ((gs.map (Conc.woken F.P g g' w')).setIfInBounds i g') w' sl),MemOp.ofEvents i g.frame.fn g.frame.place es):=λ sl=>runT_crowd_go hi (by rw [vy]; exact de)
 have gp:((gs.map (Conc.woken F.P g g' w')).setIfInBounds i g').size=gs.size:=by simp
 have La:=ahW h.mem
 have hbw:=Rh h.mem
 have wk:(g'.status = .running∨g'.status = .finished)→(mayWake F.P g=true∧g'.status ≠ .blocked∧g'.status ≠ .waiting)∨(s'.ms≤s.ms∧s'.ws≤s.ws):=λ hs=>by
  rcases dQ.acm with hx | hx
  ·exact .inl ⟨axU hx,by rcases hs with e | e <;> rw [e] <;> simp,by rcases hs with e | e <;> rw [e] <;> simp⟩
  ·exact .inr hx
 have other:∀ (x1:Option Th) (x2:Bool) (x3:Nat),∀ j,j≠i→gA th i x1 j=th j∧pa mu i x2 j=mu j∧gS dd i x3 j=dd j:=λ x1 x2 x3 j hj=>⟨eT hj,ab4 hj,uN hj⟩
 have RK:pa mu i (mu i)=mu:=by funext j; unfold pa; split <;> simp [*]
 by_cases hq:T' = .quit
 ·
  subst hq
  obtain ⟨q,hq⟩:=P4
  have BF:(T = .d1∨T = .d4):=dQ.inv.2.2 rfl
  have hjJ:j=F.J:=by rcases BF with rfl | rfl <;> exact oj
  have axW:mu i=true:=by rw [dM]; rcases BF with rfl | rfl <;> rfl
  have Ll:dd i=1:=by rw [jR]; rcases BF with rfl | rfl <;> rfl
  have kK:q9 F es:=by rcases BF with rfl | rfl <;> exact kM
  obtain ⟨mV,oI⟩:=h.bk.quit hd bV dQ hjJ (by rcases BF with rfl | rfl <;> rfl)
  have fC:(cnt (cO D i .no) gs.size).hl=(cnt D gs.size).hl:=by
   have:=(xi (D:=D) bV .no).hl
   rw [hd] at this
   rcases BF with rfl | rfl <;> simpa [cA,cW,Cn.busy,Cn.zero] using this
  have nF:=(dk.Uv (fn:=g.frame.fn) (pos:=g.frame.place) h.mem h.tr hy kK (.inr (by omega))).die axW
  rw [← nE.size] at nF
  refine ⟨_,_,_,_,ni m i (some (s6 q)),js,s',gA th i none,pa mu i (mu i),gS dd i (dd i),hr,gp,h.uM hi (wk hq.status) (Nat.le_of_lt oI) (by rw [fC]; exact fS.drop (h.mem.put nE)) (by rw [fC,RK,nj]; exact nF) ?_ (other _ _ _) mV,by rw [gp]; exact oI⟩
  rw [fQ,uO,Ll]
  exact ⟨rfl,jS,q,rfl,hq⟩
 by_cases Ly:T = .la
 ·
  subst Ly
  cases dQ
  obtain ⟨T2,vu⟩:=P4 js ok
  obtain ⟨mV,oI⟩:=h.bk.work (T':=.ul js) hd bV .la trivial rfl rfl (by simp)
  have P3:=mV.uy
  have zd:MM F Q (cO D i (.wk k j (.ul js))) s gs.size≤n':=by omega
  have PZ:(cnt D gs.size).hl=0:=by
   have:=h.bk.tK.ow; have:=h.bk.tK.l1
   have:=hle.ow
   simp only [cA,cW,Cn.busy,Cn.zero] at this
   omega
  have tY:(cnt (cO D i (.wk k j (.ul js))) gs.size).hl=1:=by
   have:=(xi (D:=D) bV (.wk k j (.ul js))).hl
   rw [hd] at this
   simp only [cA,cW,Cn.busy,Cn.zero] at this
   omega
  have e1:es=said (.acquire (am F)):=kM
  subst e1
  have hm:=h.mem
  have ht:=h.tr
  rw [PZ] at hm ht
  have rD:dd i=0:=by rw [jR]; rfl
  have nF:=dk.acquire (b:=F.bo) (o:=F.cont js) (y:=⟨i,g.frame.fn,g.frame.place,.mark (.acquire (am F))⟩) ht hy rfl rfl rD La
  rw [← nE.size,← M4] at nF
  refine ⟨_,_,_,_,ni m i (some T2),js,s,gA th i (some ⟨R,(F.bo,F.cont js)::H⟩),pa mu i (mu i),gS dd i 0,hr,gp,h.uM hi (wk (.inl (vu.F7 λ R H g hg=>(KW.run hg (by omega) trivial).1))) (Nat.le_of_lt oI) (by rw [tY]; exact fS.take (hm.put nE) hy (by omega)) (by rw [tY,RK,show gS dd i 0=dd by rw [← rD]; exact nj _ _]; exact nF) ?_ (other _ _ _) mV,by rw [gp]; exact oI⟩
  rw [fQ,uO,SK,dM]
  exact ⟨jS,rfl,rfl,_,n',rfl,zd,.inl ⟨T2,rfl,vu⟩⟩
 by_cases hur:iq T=true
 ·
  cases T with
  | ur js0 =>
   have hjj:js0=js:=oh
   subst hjj
   cases dQ
   obtain ⟨js1,H',e1,e2,T2,vu⟩:=P4
   cases e1
   subst e2
   obtain ⟨mV,oI⟩:=h.bk.ur hd bV
   have P3:=mV.uy
   have zd:MM F Q (cO D i (.wk k (j+1) .ud)) s gs.size≤n':=by omega
   have tY:(cnt D gs.size).hl≠0:=by
    have:=hle.hl
    simp only [cA,cW,Cn.busy,Cn.zero] at this
    omega
   have PZ:(cnt (cO D i (.wk k (j+1) .ud)) gs.size).hl=0:=by
    have:=(xi (D:=D) bV (.wk k (j+1) .ud)).hl
    rw [hd] at this
    simp only [cA,cW,Cn.busy,Cn.zero] at this
    have:=h.bk.tK.ow; have:=h.bk.tK.l1
    omega
   have e1:es=said (.releaseMerge (am F)):=kM
   subst e1
   have rD:dd i=0:=by rw [jR]; rfl
   have ht:=h.tr
   rw [show rz F (cnt D gs.size).hl=none by simp [rz,tY]] at ht
   have nF:=dk.release (H':=H') (y:=⟨i,g.frame.fn,g.frame.place,.mark (.releaseMerge (am F))⟩) ht hy (List.mem_cons_self) (λ x hx=>List.mem_cons_of_mem _ hx) rfl rfl rD La
   rw [← nE.size,← M4] at nF
   refine ⟨_,_,_,_,ni m i (some T2),gS js0 k (j+1),s,gA th i (some ⟨R,H'⟩),pa mu i (mu i),gS dd i 0,hr,gp,h.uM hi (wk (.inl (vu.F7 λ R H g hg=>(KW.run hg (by omega) trivial).1))) (Nat.le_of_lt oI) (by rw [PZ]; exact fS.asS (h.mem.put nE) tY hy) (by rw [PZ,RK,show gS dd i 0=dd by rw [← rD]; exact nj _ _]; exact nF) ?_ (other _ _ _) mV,by rw [gp]; exact oI⟩
   rw [fQ,uO,SK,dM]
   exact ⟨jS,rfl,rfl,_,n',rfl,zd,.inl ⟨T2,rfl,vu⟩⟩
  | _=>cases hur
 have QP:iq T=false:=by simpa using hur
 have Ez:CD js T':=by
  cases dQ
  case la=>exact absurd rfl Ly
  case ul=>exact oh
  case r0=>exact RR _
  case r1=>exact RR _
  case r3=>exact RR _
  case Af=>exact RR _
  case Ao=>exact aKL _
  case yT c _ _=>cases c.ws <;> trivial
  case s1 c _ _=>cases c.sv <;> trivial
  case Ap=>exact aiZ _
  case ux=>exact aiZ _
  all_goals trivial
 obtain ⟨mV,oI⟩:=h.bk.work hd bV dQ B2 Ez QP hq
 have P3:=mV.uy
 have zd:MM F Q (cO D i (.wk k j T')) s' gs.size≤n':=by omega
 have BP:=aKA dQ Ly QP hq P4
 have oT':rN F.N T':=by
  have:=mV.nK i k j T' (ko _ _ _)
  exact this.1
 have fC:(cnt (cO D i (.wk k j T')) gs.size).hl=(cnt D gs.size).hl:=by
  have:=(xi (D:=D) bV (.wk k j T')).hl
  rw [hd] at this
  have e:(cW T').hl=(cW T).hl:=by
   cases dQ
   case la=>exact absurd rfl Ly
   case ur=>cases QP
   case r0=>rw [tP]; rfl
   case r1=>rw [tP]; rfl
   case r3=>rw [tP]; rfl
   case Af=>rw [tP]; rfl
   case Ao=>rw [U7]; rfl
   case yT c _ _=>cases c.ws <;> rfl
   case s1 c _ _=>cases c.sv <;> rfl
   case Nd c _=>generalize (c.sv && _)=b; cases b <;> rfl
   case a1 b=>cases b <;> rfl
   case Ap=>unfold hu; split <;> rfl
   case ux=>unfold hu; split <;> rfl
   all_goals rfl
  simp only [cA] at this
  omega
 have W6:g'.status = .running:=by
  cases hm:kQ T' with
  | true =>
   simp only [hm,if_true] at BP
   obtain ⟨q,hq⟩:=BP
   exact hq.run λ g hg=>(hg.run (by omega) oT').1
  | false =>
   simp only [hm,l6,if_false] at BP
   obtain ⟨T2,vu⟩:=BP
   exact vu.F7 λ R H g hg=>(KW.run hg (by omega) oT').1
 obtain ⟨m',X1⟩:∃ m',rf F (MM F Q (cO D i (.wk k j T')) s' gs.size) s' i m' (some ⟨R,H⟩) (kQ T') (px T') g' (.wk k j T'):=by
  cases hm:kQ T' with
  | true =>
   simp only [hm,if_true] at BP
   obtain ⟨q,hq⟩:=BP
   exact ⟨some (s6 q),jS,rfl,hm.symm,_,n',rfl,zd,by rw [if_pos hm]; exact ⟨q,rfl,hq⟩⟩
  | false =>
   simp only [hm,l6,if_false] at BP
   obtain ⟨T2,vu⟩:=BP
   exact ⟨some T2,jS,rfl,hm.symm,_,n',rfl,zd,by rw [if_neg (by simp [hm])]; exact .inl ⟨T2,rfl,vu⟩⟩
 have nF:dk (some (am F)) (some (aw F)) th (pa mu i (kQ T')) (gS dd i (px T')) [F.bm,F.bw] (rz F (cnt D gs.size).hl) w.heap.size (t++MemOp.ofEvents i g.frame.fn g.frame.place es):=by
  by_cases xD:T = .wr
  ·subst xD
   cases dQ
   have e1:es=said (.releaseMerge (aw F)):=kM
   subst e1
   have rD:dd i=0:=by rw [jR]; rfl
   have:=dk.aOy (y:=⟨i,g.frame.fn,g.frame.place,.mark (.releaseMerge (aw F))⟩) (i:=i) h.tr rfl rfl rD hbw
   rw [show gS dd i (px .wk)=dd by rw [show px .wk=dd i from rD.symm]; exact nj _ _,M4]
   exact this
  ·have muE:kQ T'=kQ T→pa mu i (kQ T')=mu:=λ e=>by rw [e,← dM]; exact RK
   cases evK dQ kM Ly QP xD hq with
   | «at» ha e1 e2 =>
    rw [muE e2,e1,← jR,nj]
    refine dk.Uv h.mem h.tr hy ha ?_
    rw [dM,jR]
    cases dQ <;> first | exact .inl rfl | exact .inr (dr _) | (cases e1)
   | Bm e1 e2 e3 =>
    have:=dk.word (i:=i) (fn:=g.frame.fn) (pos:=g.frame.place) h.tr (m:=.disable) (.inl rfl)
    rw [muE e3,e2]
    rwa [show deafBehind (dd i) (said .disable)=1 by rw [jR,e1]; rfl] at this
   | en e1 e2 e3 =>
    have:=dk.word (i:=i) (fn:=g.frame.fn) (pos:=g.frame.place) h.tr (m:=.enable) (.inr rfl)
    rw [muE e3,e2]
    rwa [show deafBehind (dd i) (said .enable)=0 by rw [jR,e1]; rfl] at this
 rw [← nE.size] at nF
 refine ⟨_,_,_,_,ni m i m',js,s',gA th i (some ⟨R,H⟩),pa mu i (kQ T'),gS dd i (px T'),hr,gp,h.uM hi (wk (.inl W6)) (Nat.le_of_lt oI) (by rw [fC,F8 hy]; exact h.mem.put nE) (by rw [fC,F8 hy]; exact nF) (by rw [fQ,SK,uO]; exact X1) (other _ _ _) mV,by rw [gp]; exact oI⟩
end
section
variable {F:Fx} {Q:Nat} {T0:Mp} {D:Nat→Ab} {m:Nat→Ms} {js:Nat→Nat} {s s':Sh} {th:Nat→Option Th} {mu:Nat→Bool} {dd:Nat→Nat} {gs:Array Goroutine} {w w':World} {t:Trace} {sl:Option (Nat × Nat)} {i k j:Nat} {g g':Goroutine} {R:az} {H:ah} {hl:Nat} {fn:FuncId} {pos:String}
theorem dk.aMG{mk:Mark}(hM:fS F.B th (ik F s js hl) w)(h:dk (some (am F)) (some (aw F)) th mu dd [F.bm,F.bw] (rz F hl) w.heap.size t)(hi:th 0=some ⟨R,H⟩)(hm:mk = .read (rY F)∨mk = .write (rY F))(hc:mu 0=false) :
  dk (some (am F)) (some (aw F)) th mu dd [F.bm,F.bw] (rz F hl) w.heap.size (t++MemOp.ofEvents 0 fn pos (said mk)):=by
 rw [M4]
 have hd:Deaf (t++#[⟨0,fn,pos,.mark mk⟩]) 0=dd 0:=by
  rw [Deaf_push]
  unfold deafStep
  rcases hm with rfl | rfl <;> exact h.deaf 0
 have:=dk.app (u:=#[⟨0,fn,pos,.mark mk⟩]) (n':=w.heap.size) (R':=R) (H':=H) (d':=dd 0) hM rfl (Kk F s js hl) (Kj F s js hl) h hi (λ op an=>by rw [zY an]) (λ op an a ha=>?_) (λ op an=>?_) (λ op an a=>?_) hd (.inl hc) (dr _) (λ _ _ x=>.inl x) (λ _ o x=>.inl ⟨o,x⟩)
 ·rwa [F8 hi,nj] at this
 ·rw [zY an] at ha
  refine .inr ⟨F.bw,?_,by simp,.inr ⟨?_,rfl⟩⟩ <;> rcases hm with rfl | rfl <;> (simp only [MemAct.touch?,j8] at ha; subst ha; rfl)
 ·rw [zY an]
  rcases hm with rfl | rfl <;> exact Rh hM
 ·rw [zY an]
  rcases hm with rfl | rfl <;> (intro x; cases x)
theorem rf.mono{μ NS:Nat}{mm:Ms}{x:Option Th}{b:Bool}{d:Nat}{A:Ab}(h:rf F μ s i mm x b d g A)(hle:NS≤μ):rf F NS s i mm x b d g A:=by
 cases A with
 | no=>exact h
 | wk k j T =>
  obtain ⟨h1,h2,h3,y,n,h4,hn,h⟩:=h
  exact ⟨h1,h2,h3,y,n,h4,by omega,h⟩
 | mn T =>
  obtain ⟨h1,h2,h3,y,n,h4,hn,h⟩:=h
  exact ⟨h1,h2,h3,y,n,h4,by omega,h⟩
inductive JI (F:Fx):Mp→Mp→Array Event→Prop
 | at {T T' es}:q9 F es→qk T'=qk T→JI F T T' es
 | Bm {T T'}:qk T=0→qk T'=1→JI F T T' (said .disable)
 | en {T T'}:qk T=1→qk T'=0→JI F T T' (said .enable)
 | sd {T T' mk}:qk T'=qk T→mk = .read (rY F)∨mk = .write (rY F)→JI F T T' (said mk)
theorem evN{T T':Mp}(dQ:gV T s T' s'){es:Array Event}(he:DR F T es)(h1:T ≠ .wq):JI F T T' es:=by
 cases dQ
 case ka=>rw [show es=said .disable from he]; exact .Bm rfl rfl
 case wa=>rw [show es=said .disable from he]; exact .Bm rfl rfl
 case ke=>rw [show es=said .enable from he]; exact .en rfl rfl
 case we=>rw [show es=said .enable from he]; exact .en rfl rfl
 case kd=>rw [show es=said (.read (rY F)) from he]; exact .sd rfl (.inl rfl)
 case wW=>rw [show es=said (.write (rY F)) from he]; exact .sd rfl (.inr rfl)
 case wq=>exact absurd rfl h1
 all_goals exact .at he rfl
theorem aeM(h:MI F Q T0 D m js s th mu dd gs w t)(hi:gs[0]? = some g):dd 0=qk T0∧mu 0=false:=by
 have:=h.yv 0 g hi
 rw [h.bk.d0] at this
 exact ⟨this.2.1,this.2.2.1⟩
theorem KM.go_{n r:Nat}(h:KM F (n+1) (.go r) R H g):∀ w s,Fits F.B R H w→fW F s w→pR F.N (.go r) s→∃ g' child,stepG F.P true g w = .spawn g' child w #[]∧Own F.P F.B false (KW F n (F.N - (r+1)) 0 .ld) R [] child∧Own F.P F.B true (KM F n (ln r)) R H g':=h.2.2
theorem KM.wq_{n:Nat}(h:KM F (n+1) .wq R H g):∀ w s,Fits F.B R H w→fW F s w→pR F.N .wq s→∃ g' w',stepG F.P true g w = .go g' w' (said (.acquire (aw F)))∧cH F s w w'∧∀ js,(∀ k,k < F.N→js k=F.J)→F.mj R ((F.bo,F.cont js)::H) g':=h.2.2
theorem KM.other{n:Nat}{T:Mp}(h:KM F (n+1) T R H g)(h1:∀ r,T ≠ .go r)(h2:T ≠ .wq):∀ w s,Fits F.B R H w→fW F s w→pR F.N T s→(T = .w3∧s.ws=0∧stepG F.P true g w = .go { g with status:=.blocked } w #[]) ∨
  ∃ g' w' es T' s',gV T s T' s'∧DR F T es∧stepG F.P true g w = .go g' w' es∧cH F s' w w'∧Own F.P F.B true (KM F n T') R H g':=by
 cases T <;> first | exact absurd rfl (h1 _) | exact absurd rfl h2 | exact h.2.2
theorem MI.main(h:MI F Q T0 D m js s th mu dd gs w t)(hi:gs[0]? = some g){y:Th}(hy:th 0=some y){n:Nat}(hn:MM F Q D s gs.size≤n)(hK:KM F n T0 y.R y.H g)(h2:T0 ≠ .wq) :
  (T0 = .w3∧s.ws=0∧stepG F.P true g w = .go { g with status:=.blocked } w #[]) ∨
  ∃ jE jl w' ops D' m' jq s' kl mu' dd',(∀ sl,runT F.P (crowd gs w sl) 0=(.next (crowd jl w' sl),ops))∧MI F Q jE D' m' jq s' kl mu' dd' jl w' (t++ops)∧MM F Q D' s' jl.size < MM F Q D s gs.size:=by
 have bV:=EX hi
 obtain ⟨jR,dM⟩:=aeM h hi
 have hMp:=h.bk.uy
 obtain ⟨n',rfl⟩:∃ n',n=n'+1:=⟨n - 1,by omega⟩
 obtain ⟨R,H⟩:=y
 have hf:=h.mem.fits 0 _ hy
 have bp:=T3 h.mem
 have gY:=h.bk.aig.pR
 by_cases h1:∃ r,T0 = .go r
 ·
  right
  obtain ⟨r,rfl⟩:=h1
  obtain ⟨g',child,de,⟨T1,hc⟩,⟨T2,hg⟩⟩:=hK.go_ w s hf bp gY
  obtain ⟨mV,oI⟩:=h.bk.spawn
  have P3:=mV.uy
  obtain ⟨o1,o2,o3⟩:=h.out gs.size (dr _)
  have gp:((gs.setIfInBounds 0 g').push child).size=gs.size+1:=by simp
  have hh:(cnt (cO (cO D gs.size (.wk (F.N - (r+1)) 0 .ld)) 0 (.mn (ln r))) (gs.size+1)).hl=(cnt D gs.size).hl:=by
   have:=(aeG (D:=D) h.bk.pos (.mn (ln r)) (.wk (F.N - (r+1)) 0 .ld) rfl (by rw [h.bk.d0]; rfl)).hl
   simpa [cA,cW,Cn.busy,Cn.zero] using this
  have hr:∀ sl,runT F.P (crowd gs w sl) 0=(.next (crowd ((gs.setIfInBounds 0 g').push child) w sl),#[⟨0,g.frame.fn,g.frame.place,.go gs.size⟩,⟨gs.size,child.frame.fn,g.frame.place,.start⟩]):=λ sl=>by
   have:=runT_crowd_spawn (P:=F.P) (sl:=sl) hi (show stepG F.P (0 == 0) g w=_ from de)
   rw [this]
   simp [MemOp.ofEvents]
  have rD:dd 0=0:=by rw [jR]; rfl
  have nF:=h.tr.spawn (c:=gs.size) (x:=⟨0,g.frame.fn,g.frame.place,.go gs.size⟩) (y:=⟨gs.size,child.frame.fn,g.frame.place,.start⟩) hy (aS.refl R) o1 ⟨rfl,rfl⟩ ⟨rfl,rfl⟩ rD o3 (by omega) o2
  have nD:=h.mem.add (c:=gs.size) hy (aS.refl R)
  refine ⟨ln r,_,w,_,_,ni (ni m gs.size (some T1)) 0 (some T2),js,s,_,mu,gS dd 0 (qk (ln r)),hr,⟨by rw [gp,hh]; exact nD,?_,λ a x ha=>?_,λ a ha=>?_,by rw [gp]; exact mV⟩,by rw [gp]; exact oI⟩
  ·rw [gp,hh]
   have:gS dd 0 (qk (ln r))=dd:=by
    rw [show qk (ln r)=dd 0 by rw [rD]; cases r <;> rfl]; exact nj _ _
   rw [this]; exact nF
  ·rw [gp]
   by_cases tX:a=0
   ·subst tX
    rw [Array.getElem?_push,if_neg (by simp; omega),uT bV] at ha
    cases ha
    rw [ko,No,uO,eT (by omega),hy,dM]
    exact ⟨rfl,rfl,rfl,_,n',rfl,by omega,.inl ⟨T2,rfl,hg⟩⟩
   ·by_cases PN:a=gs.size
    ·subst PN
     rw [Array.getElem?_push,if_pos (by simp)] at ha
     cases ha
     rw [fY (by omega),ko,I6 (by omega),No,uN (by omega),fQ,o2,o3]
     exact ⟨by omega,rfl,rfl,_,n',rfl,by omega,by rw [if_neg (by simp [kQ])]; exact .inl ⟨T1,rfl,hc⟩⟩
    ·rw [Array.getElem?_push,if_neg (by simp; omega),nq (by omega)] at ha
     rw [fY tX,fY PN,I6 tX,I6 PN,uN tX,eT PN]
     exact (h.yv a x ha).mono (Nat.le_of_lt oI)
  ·rw [gp] at ha
   rw [eT (by omega),uN (by omega)]
   exact h.out a (by omega)
 have xo:∀ r,T0 ≠ .go r:=λ r e=>h1 ⟨r,e⟩
 rcases hK.other xo h2 w s hf bp gY with hb | ⟨g',w',es,T',s',dQ,kM,de,nE,T2,vu⟩
 ·exact .inl hb
 right
 have Lq:T' ≠ .fin:=λ e=>by subst e; cases dQ; exact h2 rfl
 have hr:∀ sl,runT F.P (crowd gs w sl) 0=(.next (crowd ((gs.map (Conc.woken F.P g g' w')).setIfInBounds 0 g') w' sl),MemOp.ofEvents 0 g.frame.fn g.frame.place es):=λ sl=>runT_crowd_go hi (show stepG F.P (0 == 0) g w=_ from de)
 have gp:((gs.map (Conc.woken F.P g g' w')).setIfInBounds 0 g').size=gs.size:=by simp
 obtain ⟨mV,oI⟩:=h.bk.aKf dQ Lq
 have P3:=mV.uy
 have fC:(cnt (cO D 0 (.mn T')) gs.size).hl=(cnt D gs.size).hl:=by
  have:=(xi (D:=D) bV (.mn T')).hl
  rw [h.bk.d0] at this
  simpa [cA,Cn.zero] using this
 have nF:dk (some (am F)) (some (aw F)) th mu (gS dd 0 (qk T')) [F.bm,F.bw] (rz F (cnt D gs.size).hl) w.heap.size (t++MemOp.ofEvents 0 g.frame.fn g.frame.place es):=by
  cases evN dQ kM h2 with
  | «at» ha e1 =>
   rw [e1,← jR,nj]
   exact dk.Uv h.mem h.tr hy ha (.inl dM)
  | Bm e1 e2 =>
   have:=dk.word (i:=0) (fn:=g.frame.fn) (pos:=g.frame.place) h.tr (m:=.disable) (.inl rfl)
   rw [e2]
   rwa [show deafBehind (dd 0) (said .disable)=1 by rw [jR,e1]; rfl] at this
  | en e1 e2 =>
   have:=dk.word (i:=0) (fn:=g.frame.fn) (pos:=g.frame.place) h.tr (m:=.enable) (.inr rfl)
   rw [e2]
   rwa [show deafBehind (dd 0) (said .enable)=0 by rw [jR,e1]; rfl] at this
  | sd e1 e2 =>
   rw [e1,← jR,nj]
   exact dk.aMG h.mem h.tr hy e2 dM
 rw [← nE.size] at nF
 refine ⟨T',_,_,_,_,ni m 0 (some T2),js,s',gA th 0 (some ⟨R,H⟩),pa mu 0 (mu 0),gS dd 0 (qk T'),hr,h.uM hi (.inr dQ.acm) (Nat.le_of_lt oI) (by rw [fC,F8 hy]; exact h.mem.put nE) ?_ ?_ (λ j hj=>⟨eT hj,ab4 hj,uN hj⟩) mV,by rw [gp]; exact oI⟩
 ·rw [fC,F8 hy,show pa mu 0 (mu 0)=mu by funext j; unfold pa; split <;> simp [*]]; exact nF
 ·rw [fQ,SK,uO,dM]
  exact ⟨rfl,rfl,rfl,_,n',rfl,by omega,.inl ⟨T2,rfl,vu⟩⟩
theorem MI.aNp(h:MI F Q .wq D m js s th mu dd gs w t)(hi:gs[0]? = some g){y:Th}(hy:th 0=some y){n:Nat}(hn:MM F Q D s gs.size≤n)(hK:KM F n .wq y.R y.H g) :
  ∃ jl g' w' ops q dd' R' H',(∀ sl,runT F.P (crowd gs w sl) 0=(.next (crowd jl w' sl),ops))∧jl[0]? = some g'∧F.mj R' H' g'∧yH F.P F.B R' H' jl w' (t++ops) q dd':=by
 have bV:=EX hi
 obtain ⟨jR,dM⟩:=aeM h hi
 have hMp:=h.bk.uy
 obtain ⟨n',rfl⟩:∃ n',n=n'+1:=⟨n - 1,by omega⟩
 obtain ⟨R,H⟩:=y
 obtain ⟨g',w',de,nE,tZ⟩:=hK.wq_ w s (h.mem.fits 0 _ hy) (T3 h.mem) h.bk.aig.pR
 have hwg:=h.bk.aig.wg
 obtain ⟨_,_,_,hlv,hdw,hd4⟩:=hwg
 have heq:=h.bk.aig.eq
 have aZV:(cnt D gs.size).km=0:=by omega
 have aiX:∀ a k j T,D a ≠ .wk k j T:=λ a k j T e=>by
  have ha:a < gs.size:=by
   apply Classical.byContradiction
   intro hn
   rw [h.bk.out a (by omega)] at e; cases e
  have hle:=G9 (D:=D) ha
  rw [e] at hle
  have hq:T ≠ .quit:=λ e'=>by
   have:=(h.bk.nK a k j T e).2.1
   subst e'; exact this
  have e1:=hle.lv
  have e2:=hle.dw
  have e3:=hle.d4
  simp only [cA] at e1 e2 e3
  cases T <;> simp only [cW,Cn.busy,Cn.zero] at e1 e2 e3 <;> first | omega | skip
  case a1 b=>cases b <;> simp only [l6,if_false,if_true] at e1 <;> omega
  case quit=>exact hq rfl
 have Ul:∀ a,a≠0→D a = .no:=λ a ha=>by
  cases hd:D a with
  | no=>rfl
  | wk k j T=>exact absurd hd (aiX a k j T)
  | mn T=>exact absurd (h.bk.main a T hd) ha
 have hhl:(cnt D gs.size).hl=0:=by
  have:∀ n,dE n (λ a=>(cA (D a)).hl)=0:=λ n=>by
   have e:dE n (λ a=>(cA (D a)).hl)=dE n (λ _=>0):=Nn λ a _=>by
    by_cases ha:a=0
    ·subst ha; rw [h.bk.d0]; rfl
    ·rw [Ul a ha]; rfl
   rw [e]
   have hz:∀ n,dE n (λ _=>0)=0:=by intro n; induction n with | zero=>rfl | succ n ih=>simp only [dE,ih]
   exact hz n
  exact this _
 have Zk:th=only ⟨R,H⟩:=by
  funext a
  unfold only
  split
  ·rename_i e; subst e; exact hy
  ·rename_i e
   rcases Nat.lt_or_ge a gs.size with hl | hg
   ·have:=h.yv a _ (q6 hl)
    rw [Ul a e] at this
    exact this.1
   ·exact (h.out a hg).1
 have iT:∀ k,k < F.N→js k=F.J:=λ k hk=>by
  rcases h.bk.done k (by simpa [rem] using hk) with z | ⟨a,j,T,z⟩
  ·exact z
  ·exact absurd z (aiX a k j T)
 have rD:dd 0=0:=by rw [jR]; rfl
 have hm:=h.mem.put nE
 have ht:=h.tr
 rw [hhl,Zk] at hm ht
 have Ec:F.bo < w.heap.size:=by rw [← nE.size]; exact mg (hm.oF F.bo (F.cont js) (by simp [ik]))
 have nF:=dk.aOj (b:=F.bo) (o:=F.cont js) (y:=⟨0,g.frame.fn,g.frame.place,.mark (.acquire (aw F))⟩) ht Ec rfl rfl rD dM (Rh h.mem)
 rw [← nE.size,← M4] at nF
 have nD:=fS.take (hl':=1) hm (i:=0) rfl (by omega)
 rw [RX] at nD
 have hr:∀ sl,runT F.P (crowd gs w sl) 0=(.next (crowd ((gs.map (Conc.woken F.P g g' w')).setIfInBounds 0 g') w' sl),MemOp.ofEvents 0 g.frame.fn g.frame.place (said (.acquire (aw F)))):=λ sl=>runT_crowd_go hi (show stepG F.P (0 == 0) g w=_ from de)
 have gp:((gs.map (Conc.woken F.P g g' w')).setIfInBounds 0 g').size=gs.size:=by simp
 refine ⟨_,g',w',_,λ a=>match m a with | some T=>Classical.epsilon λ q=>m a=some (s6 q)∧∀ x,gs[a]? = some x→QuitsD F.P q (dd a) x | none=>0,dd,R,(F.bo,F.cont js)::H,hr,uT (by simpa using bV),tZ js iT,⟨⟨nD.fits,nD.apart,λ c o hc=>(by cases hc),λ c o hc=>(by cases hc)⟩,nF,rD,λ a ha=>(h.out a (by simpa using ha)).2.2,λ a x ha hx=>?_⟩⟩
 rw [nq (by omega),Array.getElem?_map] at hx
 obtain ⟨z,hz,rfl⟩:=Option.map_eq_some_iff.1 hx
 have hs:=h.yv a z hz
 rw [Ul a (by omega)] at hs
 obtain ⟨_,_,q,hq,hQ⟩:=hs
 rw [woken_quitsD hQ]
 have hex:∃ q,m a=some (s6 q)∧∀ x,gs[a]? = some x→QuitsD F.P q (dd a) x:=⟨q,hq,λ x hx=>by rw [hz] at hx; cases hx; exact hQ⟩
 have:=(Classical.epsilon_spec hex).2 z hz
 simp only [hq] at this ⊢
 exact this
def Su(m:Nat→Ms)(gs:Array Goroutine):Nat:=dE gs.size λ a=>if (m a).isNone∧(gs[a]?.map (·.status))=some .running then 1 else 0
def JU(a b:Nat × List Ms × Nat):Prop:=a.1 < b.1∨(a.1=b.1∧(One qd a.2.1 b.2.1∨(a.2.1=b.2.1∧a.2.2 < b.2.2)))
theorem JU.wf:WellFounded JU:=by
 have key:∀ p l r,Acc JU (p,l,r):=by
  intro p
  induction p using Nat.strongRecOn with
  | ind p ihp =>
   intro l
   induction l using One.wf.induction with
   | _ l ihl =>
    intro r
    induction r using Nat.strongRecOn with
    | ind r ihr =>
     refine ⟨_,λ y hy=>?_⟩
     obtain ⟨q,l',r'⟩:=y
     rcases hy with h | ⟨h1,h2 | ⟨h2,h3⟩⟩
     ·exact ihp q h l' r'
     ·simp only at h1; subst h1; exact ihl l' h2 r'
     ·simp only at h1 h2; subst h1 h2; exact ihr r' h3
 exact ⟨λ ⟨p,l,r⟩=>key p l r⟩
def Iv(F:Fx)(Q:Nat)(D:Nat→Ab)(m:Nat→Ms)(s:Sh)(gs:Array Goroutine):Nat × List Ms × Nat:=(MM F Q D s gs.size,(List.range gs.size).map m,Su m gs)
theorem aa5{m:Nat→Ms}{n i:Nat}{a b:Ms}(hi:i < n)(hb:m i=b)(hl:qd a b):One qd ((List.range n).map (ni m i a)) ((List.range n).map m):=by
 have e:(List.range n).map (ni m i a)=((List.range n).map m).set i a:=by
  apply List.ext_getElem?
  intro j
  rw [List.getElem?_set]
  by_cases hj:i=j
  ·subst hj; simp [hi,No]
  ·simp only [hj,if_false,List.getElem?_map]
   cases hr:(List.range n)[j]? with
   | none=>rfl
   | some k =>
    have hk:k=j:=by
     obtain ⟨_,h2⟩:=iO.1 hr
     simpa using h2.symm
    subst hk
    simp [I6 (Ne.symm hj)]
 rw [e]
 exact One.set (by simp [hi,hb]) hl
end
theorem abW{f:Nat→Nat}:∀ {n:Nat},0 < dE n f→∃ i,i < n∧0 < f i
 | n+1,h=>by
  simp only [dE] at h
  rcases Nat.eq_zero_or_pos (f n) with hz | hp
  ·obtain ⟨i,hi,h2⟩:=abW (n:=n) (f:=f) (by omega)
   exact ⟨i,by omega,h2⟩
  ·exact ⟨n,by omega,hp⟩
section
variable {F:Fx} {Post:Value→World→Prop} {Q:Nat} {T0:Mp} {D:Nat→Ab} {m:Nat→Ms} {js:Nat→Nat} {s s':Sh} {th:Nat→Option Th} {mu:Nat→Bool} {dd:Nat→Nat} {gs:Array Goroutine} {w w':World} {t:Trace} {sl:Option (Nat × Nat)} {i k j:Nat} {g g':Goroutine}
theorem MI.look(h:MI F Q T0 D m js s th mu dd gs w t)(hi:gs[i]? = some g):(g.status = .running)∨(g.status = .finished∧D i = .no)∨(g.status = .blocked∧m i=none∧((∃ k j c,D i = .wk k j (.s1 c)∧s.ms=0)∨(D i = .mn .w3∧s.ws=0))) :=
 (h.yv i g hi).look h.bk.uy (h.nK i)
theorem MI.awake(h:MI F Q T0 D m js s th mu dd gs w t):∀ x∈gs,awake x:=by
 intro x hx
 obtain ⟨i,hi,rfl⟩:=Array.mem_iff_getElem.1 hx
 rcases h.look (q6 hi) with e | ⟨e,_⟩ | ⟨e,_⟩
 ·exact awake_of (.inl e)
 ·exact awake_of (.inr (.inr e))
 ·exact awake_of (.inr (.inl e))
theorem MI.aj2(h:MI F Q T0 D m js s th mu dd gs w t):∃ (i:Nat) (g:Goroutine),gs[i]? = some g∧g.status = .running:=by
 apply Classical.byContradiction
 intro Ej
 have wkr:∀ i,i < gs.size→∀ k j T,D i = .wk k j T→∃ c,T = .s1 c∧s.ms=0:=λ i hi k j T hd=>by
  rcases h.look (q6 hi) with e | ⟨_,e⟩ | ⟨_,_,⟨k',j',c,e,hz⟩ | ⟨e,_⟩⟩
  ·exact absurd ⟨i,_,q6 hi,e⟩ Ej
  ·rw [hd] at e; cases e
  ·rw [hd] at e; cases e; exact ⟨c,rfl,hz⟩
  ·rw [hd] at e; cases e
 have wh:∀ f:Cn→Nat,f .zero=0→(∀ c,f (cW (.s1 c))=0)→dE gs.size (λ i=>f (cA (D i)))=0:=λ f h0 h1=>by
  apply Classical.byContradiction
  intro hp
  obtain ⟨i,hi,qA⟩:=abW (n:=gs.size) (f:=λ i=>f (cA (D i))) (by omega)
  cases hd:D i with
  | no=>rw [hd] at qA; simp only [cA] at qA; omega
  | mn T=>rw [hd] at qA; simp only [cA] at qA; omega
  | wk k j T =>
   obtain ⟨c,rfl,_⟩:=wkr i hi k j T hd
   rw [hd] at qA; simp only [cA,h1] at qA; omega
 have hw3:T0 = .w3∧s.ws=0:=by
  have hi:=q6 h.bk.pos
  rcases h.look hi with e | ⟨_,e⟩ | ⟨_,_,⟨k',j',c,e,hz⟩ | ⟨e,hz⟩⟩
  ·exact absurd ⟨0,_,hi,e⟩ Ej
  ·rw [h.bk.d0] at e; cases e
  ·rw [h.bk.d0] at e; cases e
  ·rw [h.bk.d0] at e; cases e; exact ⟨rfl,hz⟩
 obtain ⟨rfl,lg⟩:=hw3
 have hdw:(cnt D gs.size).dw=0:=wh (·.dw) rfl λ _=>rfl
 have hd4:(cnt D gs.size).d4=0:=wh (·.d4) rfl λ _=>rfl
 have mY:(cnt D gs.size).ow=0:=wh (·.ow) rfl λ _=>rfl
 have hhl:(cnt D gs.size).hl=0:=wh (·.hl) rfl λ _=>rfl
 have hpu:(cnt D gs.size).pu=0:=wh (·.pu) rfl λ _=>rfl
 have hpc:(cnt D gs.size).pc=0:=wh (·.pc) rfl λ _=>rfl
 have hal:(cnt D gs.size).al=0:=wh (·.al) rfl λ _=>rfl
 have ha1:(cnt D gs.size).a1=0:=wh (·.a1) rfl λ _=>rfl
 have hak:(cnt D gs.size).ak=0:=wh (·.ak) rfl λ _=>rfl
 have hux:(cnt D gs.size).ux=0:=wh (·.ux) rfl λ _=>rfl
 have hwk:(cnt D gs.size).wk=0:=wh (·.wk) rfl λ _=>rfl
 have hlv:0 < (cnt D gs.size).lv:=by
  rcases h.bk.aig.wg with ⟨_,_,_,h4,⟨_,h6⟩ | ⟨h5,_⟩⟩ | ⟨_,_,_,_,h5⟩
  ·omega
  ·omega
  ·omega
 have heq:=h.bk.aig.eq
 unfold Cn.km at heq
 have hz:0 < (cnt D gs.size).z:=by omega
 obtain ⟨i,hi,qA⟩:=abW (n:=gs.size) (f:=λ i=>(cA (D i)).z) hz
 have BO:s.ms=0:=by
  cases hd:D i with
  | no=>rw [hd] at qA; simp [cA,Cn.zero] at qA
  | mn T=>rw [hd] at qA; simp [cA,Cn.zero] at qA
  | wk k j T=>exact (wkr i hi k j T hd).choose_spec.2
 have a1:=h.bk.tK.ow
 have a2:=h.bk.tK.md
 have a3:=h.bk.tK.i4
 omega
theorem aKj{gs:Array Goroutine}{g:Goroutine}{w:World}:gs.map (Conc.woken F.P g { g with status:=.blocked } w)=gs:=by
 have:Conc.woken F.P g { g with status:=.blocked } w=id:=by funext o; simp [Conc.woken]
 rw [this,Array.map_id]
theorem MI.ghost(h:MI F Q T0 D m js s th mu dd gs w t)(hi:gs[i]? = some g){m':Ms}{x:Th}{R:az}{H:ah}(Zk:th i=some ⟨R,H⟩)(hu:gv F.B R H w x.R x.H w)(hs:rf F (MM F Q D s gs.size) s i m' (some x) (mu i) (dd i) g (D i)) :
  MI F Q T0 D (ni m i m') js s (gA th i (some x)) mu dd gs w t:=by
 obtain ⟨hm,ht⟩:=agi h.mem (Kk F s js _) (Kj F s js _) h.tr Zk hu
 have bV:=EX hi
 refine ⟨hm,ht,λ a y ha=>?_,λ a ha=>?_,h.bk⟩
 ·by_cases e:a=i
  ·subst e
   rw [hi] at ha; cases ha
   rw [No,fQ]; exact hs
  ·rw [I6 e,eT e]; exact h.yv a y ha
 ·rw [eT (by omega)]; exact h.out a ha
theorem MI.aLL(tZ:F.mj=jD F.P F.B Post):∀ (μ:Nat × List Ms × Nat) (gs:Array Goroutine) (w:World) (sl:Option (Nat × Nat)) (t:Trace) (T0:Mp) (D:Nat→Ab) (m:Nat→Ms) (js:Nat→Nat) (s:Sh) (th:Nat→Option Th) (mu:Nat→Bool) (dd:Nat→Nat),
  MI F Q T0 D m js s th mu dd gs w t→Iv F Q D m s gs=μ→∀ i g,gs[i]? = some g→g.status = .running→∀ m0,stepT F.P m0=runT F.P (crowd gs w sl) i→l8 F.P Post m0 t:=by
 intro μ
 induction μ using JU.wf.induction with
 | _ μ ih =>
  intro gs w sl t T0 D m js s th mu dd h hμ i g hi lf m0 Hw
  subst hμ
  have bV:=EX hi
  have next:∀ (jl:Array Goroutine) (w':World) (rS:Option (Nat × Nat)) (t':Trace) (jE:Mp) (D':Nat→Ab) (m':Nat→Ms) (jq:Nat→Nat) (s':Sh) (kl:Nat→Option Th) (mu':Nat→Bool) (dd':Nat→Nat),MI F Q jE D' m' jq s' kl mu' dd' jl w' t' →
    JU (Iv F Q D' m' s' jl) (Iv F Q D m s gs)→l8 F.P Post (crowd jl w' rS) t':=by
   intro jl w' rS t' jE D' m' jq s' kl mu' dd' h' hl
   obtain ⟨a,ga,d,abK,ha,Er,de⟩:=crowd_pick (P:=F.P) (gs:=jl) (w:=w') (sl:=rS) h'.awake h'.aj2
   exact ih _ hl jl (w'.at d) abK t' jE D' m' jq s' kl mu' dd' (h'.at d) rfl a ga ha Er _ de
  have hs:=h.yv i g hi
  have go:∀ (m':Ms) (x:Option Th) (d':Nat) (g':Goroutine) (w':World) (es:Array Event),stepG F.P (i == 0) g w = .go g' w' es→fS F.B (gA th i x) (ik F s js (cnt D gs.size).hl) w' →
    dk (some (am F)) (some (aw F)) (gA th i x) mu (gS dd i d') [F.bm,F.bw] (rz F (cnt D gs.size).hl) w'.heap.size (t++MemOp.ofEvents i g.frame.fn g.frame.place es) →
    rf F (MM F Q D s gs.size) s i m' x (mu i) d' g' (D i)→(qd m' (m i)∨(m'=m i∧m i=none∧g'={ g with status:=.blocked }))→l8 F.P Post m0 t:=by
   intro m' x d' g' w' es de hm ht X1 BO
   have hr:=runT_crowd_go (P:=F.P) (sl:=sl) hi de
   have hP:=h.still hi (m':=m') (kl:=gA th i x) (dd':=gS dd i d') (g':=g') (w':=w') hm ht (by rw [fQ,uO]; exact X1) (λ a ha=>⟨eT ha,uN ha⟩)
   refine l8.step (Hw.trans hr) (next _ _ _ _ _ _ _ _ _ _ _ _ hP ?_)
   have gp:((gs.map (Conc.woken F.P g g' w')).setIfInBounds i g').size=gs.size:=by simp
   unfold Iv
   rw [gp]
   rcases BO with hl | ⟨e1,e2,e3⟩
   ·exact .inr ⟨rfl,.inl (aa5 bV rfl hl)⟩
   ·subst e3
    have em:ni m i m'=m:=by funext a; unfold ni; split <;> simp [*]
    refine .inr ⟨rfl,.inr ⟨by rw [em],?_⟩⟩
    show Su _ _ < Su _ _
    rw [em]
    unfold Su
    rw [gp,aKj]
    have:=F5 (f:=λ a=>if (m a).isNone∧(gs[a]?.map (·.status))=some .running then 1 else 0) (g:=λ a=>if (m a).isNone∧(((gs.setIfInBounds i { g with status:=.blocked })[a]?).map (·.status))=some .running then 1 else 0) bV (λ a ha=>by
     simp only [nq (Ne.symm ha)])
    simp only [e2,hi,Option.isNone_none,Option.map_some,lf,true_and,if_true,uT bV] at this
    simp at this
    simp
    omega
  have C8:∀ x,th i=x→gA th i x=th:=λ x hx=>F8 hx
  have nx:(∃ jl w' ops D' m' jq s' kl mu' dd',(∀ sl,runT F.P (crowd gs w sl) i=(.next (crowd jl w' sl),ops))∧jl.size=gs.size∧MI F Q T0 D' m' jq s' kl mu' dd' jl w' (t++ops)∧MM F Q D' s' jl.size < MM F Q D s gs.size)→l8 F.P Post m0 t:=by
   rintro ⟨jl,w',ops,D',m',jq,s',kl,mu',dd',hr,_,hP,hl⟩
   exact l8.step (Hw.trans (hr sl)) (next _ _ _ _ _ _ _ _ _ _ _ _ hP (.inl hl))
  cases hd:D i with
  | no =>
   rw [hd] at hs
   obtain ⟨hn,jS,q,hq,hQ⟩:=hs
   have vy:(i == 0)=false:=by simp; omega
   cases q with
   | zero=>rw [hQ.1] at lf; cases lf
   | succ q =>
    rcases hQ with e | ⟨_,g',es,oN,de,hQ⟩
    ·rw [e.1] at lf; cases lf
    ·refine go (some (s6 q)) none (deafBehind (dd i) es) g' w es (by rw [vy]; exact de w) ?_ ?_ ?_ (.inl (by rw [hq]; exact aiS q))
     ·rw [C8 _ hn]; exact h.mem
     ·rw [C8 _ hn]; exact h.tr.leaves oN
     ·rw [hd]; exact ⟨rfl,jS,q,rfl,hQ⟩
  | wk k j T =>
   rw [hd] at hs
   obtain ⟨jS,jR,dM,y,n,hy,hn,hs⟩:=hs
   have vy:(i == 0)=false:=by simp; omega
   have stop:KW F n k j T y.R y.H g→l8 F.P Post m0 t:=by
    intro hK
    rcases h.work hi hd hy hn hK with ⟨⟨c,rfl⟩,hz,de⟩ | hN
    ·refine go none (some y) (dd i) _ w #[] (by rw [vy]; exact de) ?_ ?_ ?_ ?_
     ·rw [C8 _ hy]; exact h.mem
     ·rw [C8 _ hy,nj,ofEvents_none,Array.append_empty]; exact h.tr
     ·rw [hd]
      have ho:=h.nK i k j _ hd
      have hp:=h.bk.uy
      exact ⟨jS,jR,dM,y,n,rfl,hn,by rw [if_neg (by simp [kQ])]; exact .inr ⟨rfl,⟨c,rfl⟩,g,hK,lf,(KW.run hK (by omega) ho).2,.inr ⟨rfl,hz⟩⟩⟩
     ·cases Hz:m i with
      | none=>exact .inr ⟨rfl,rfl,rfl⟩
      | some T'=>exact .inl .none
    ·exact nx hN
   by_cases HA:kQ T=true
   ·rw [if_pos HA] at hs
    obtain ⟨q,hq,hQ⟩:=hs
    cases q with
    | zero=>exact stop hQ
    | succ q =>
     rcases hQ with hK | ⟨_,g',de,hQ⟩
     ·exact stop hK
     ·refine go (some (s6 q)) (some y) (dd i) g' w #[] (by rw [vy]; exact de w) ?_ ?_ ?_ (.inl (by rw [hq]; exact aiS q))
      ·rw [C8 _ hy]; exact h.mem
      ·rw [C8 _ hy,nj,ofEvents_none,Array.append_empty]; exact h.tr
      ·rw [hd]; exact ⟨jS,jR,dM,y,n,rfl,hn,by rw [if_pos HA]; exact ⟨q,rfl,hQ⟩⟩
   ·rw [if_neg HA] at hs
    have hmf:mu i=false:=by rw [dM]; simpa using HA
    rcases hs with ⟨Tr,KZ,hO⟩ | ⟨hm,⟨c,rfl⟩,g0,hK,XU,gh,hg⟩
    ·obtain ⟨ι,f⟩:=Tr
     obtain ⟨R,H⟩:=y
     rcases hO with hK | ⟨_,de⟩ | ⟨R',H',a,W7,hO⟩
     ·exact stop hK
     ·obtain ⟨g',w',es,R',H',a,h1,h2,h3,h4⟩:=de w (h.mem.fits i _ hy)
      obtain ⟨hm,ht⟩:=M6 h.mem (Kk F s js _) (Kj F s js _) h.tr hy (.inl hmf) h2 (.inl hmf) h3 g.frame.fn g.frame.place
      refine go (some (f a)) (some ⟨R',H'⟩) (dd i) g' w' es (by rw [vy]; exact h1) hm (by rw [nj]; exact ht) ?_ (.inl (by rw [KZ]; exact .some (.mk f a)))
      rw [hd]; exact ⟨jS,jR,dM,_,n,rfl,hn,by rw [if_neg HA]; exact .inl ⟨f a,rfl,h4⟩⟩
     ·have hP:=h.ghost (x:=⟨R',H'⟩) (m':=some (f a)) hi hy (W7 w (h.mem.fits i _ hy)) (by rw [hd]; exact ⟨jS,jR,dM,_,n,rfl,hn,by rw [if_neg HA]; exact .inl ⟨f a,rfl,hO⟩⟩)
      exact ih (Iv F Q D (ni m i (some (f a))) s gs) (.inr ⟨rfl,.inl (aa5 bV KZ (.some (.mk f a)))⟩) gs w sl t _ _ _ _ _ _ _ _ hP rfl i g hi lf m0 Hw
    ·rcases hg with rfl | ⟨rfl,_⟩
     ·exact stop hK
     ·cases lf
  | mn T =>
   have h0:i=0:=h.bk.main i T hd
   subst h0
   have BF:T=T0:=by have:=h.bk.d0; rw [hd] at this; cases this; rfl
   subst BF
   rw [hd] at hs
   obtain ⟨_,jR,dM,y,n,hy,hn,hs⟩:=hs
   have stop:KM F n T y.R y.H g→l8 F.P Post m0 t:=by
    intro hK
    by_cases Zn:T = .wq
    ·subst Zn
     obtain ⟨jl,g',w',ops,q,dd',R',H',hr,W6,hJ,hA⟩:=h.aNp hi hy hn hK
     rw [tZ] at hJ
     exact l8.step (Hw.trans (hr sl)) (hJ jl w' sl _ q dd' W6 hA)
    ·rcases h.main hi hy hn hK Zn with ⟨rfl,hz,de⟩ | ⟨jE,jl,w',ops,D',m',jq,s',kl,mu',dd',hr,hP,hl⟩
     ·refine go none (some y) (dd 0) _ w #[] de ?_ ?_ ?_ ?_
      ·rw [C8 _ hy]; exact h.mem
      ·rw [C8 _ hy,nj,ofEvents_none,Array.append_empty]; exact h.tr
      ·rw [hd]
       have hp:=h.bk.uy
       exact ⟨rfl,jR,dM,y,n,rfl,hn,.inr ⟨rfl,rfl,g,hK,lf,(KM.run hK (by omega)).2,.inr ⟨rfl,hz⟩⟩⟩
      ·cases Hz:m 0 with
       | none=>exact .inr ⟨rfl,rfl,rfl⟩
       | some T'=>exact .inl .none
     ·exact l8.step (Hw.trans (hr sl)) (next _ _ _ _ _ _ _ _ _ _ _ _ hP (.inl hl))
   rcases hs with ⟨Tr,KZ,hO⟩ | ⟨hm,rfl,g0,hK,XU,gh,hg⟩
   ·obtain ⟨ι,f⟩:=Tr
    obtain ⟨R,H⟩:=y
    rcases hO with hK | ⟨_,de⟩ | ⟨R',H',a,W7,hO⟩
    ·exact stop hK
    ·obtain ⟨g',w',es,R',H',a,h1,h2,h3,h4⟩:=de w (h.mem.fits 0 _ hy)
     obtain ⟨hm,ht⟩:=M6 h.mem (Kk F s js _) (Kj F s js _) h.tr hy (.inl dM) h2 (.inl dM) h3 g.frame.fn g.frame.place
     refine go (some (f a)) (some ⟨R',H'⟩) (dd 0) g' w' es h1 hm (by rw [nj]; exact ht) ?_ (.inl (by rw [KZ]; exact .some (.mk f a)))
     rw [hd]; exact ⟨rfl,jR,dM,_,n,rfl,hn,.inl ⟨f a,rfl,h4⟩⟩
    ·have hP:=h.ghost (x:=⟨R',H'⟩) (m':=some (f a)) hi hy (W7 w (h.mem.fits 0 _ hy)) (by rw [hd]; exact ⟨rfl,jR,dM,_,n,rfl,hn,.inl ⟨f a,rfl,hO⟩⟩)
     exact ih (Iv F Q D (ni m 0 (some (f a))) s gs) (.inr ⟨rfl,.inl (aa5 bV KZ (.some (.mk f a)))⟩) gs w sl t _ _ _ _ _ _ _ _ hP rfl 0 g hi lf m0 Hw
   ·rcases hg with rfl | ⟨rfl,_⟩
    ·exact stop hK
    ·cases lf
theorem MI.runs(tZ:F.mj=jD F.P F.B Post)(h:MI F Q T0 D m js s th mu dd gs w t):l8 F.P Post (crowd gs w sl) t:=by
 obtain ⟨a,ga,d,abK,ha,Er,de⟩:=crowd_pick (P:=F.P) (gs:=gs) (w:=w) (sl:=sl) h.awake h.aj2
 exact MI.aLL tZ _ gs (w.at d) abK t T0 D m js s th mu dd (h.at d) rfl a ga ha Er _ de
end
end Go.Lg
