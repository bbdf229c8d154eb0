/- A mutex that any number of goroutines share; the machine of workers behind a mutex and a wait group: it runs to its end. Conditions: none. -/
import Derived.Test.YtihapemckcdicaaGreatDoorQFLgB
import Derived.Conc.MarkLaws
namespace Go.Lg
structure Wd where
 l:Nat
 w:Nat
 s:Nat
 n:Nat
 deriving DecidableEq
def Wd.val(m:Wd):Int:=m.l+2 * m.w+4 * m.s+8 * m.n
def Wd.ok(N:Nat)(m:Wd):Prop:=m.l≤1∧m.w≤1∧m.s≤1∧m.n≤N
def Wd.zero:Wd:=⟨0,0,0,0⟩
theorem Wd.val_inj{N N':Nat}{a b:Wd}(ha:a.ok N)(hb:b.ok N')(h:a.val=b.val):a=b:=by
 obtain ⟨l,w,s,n⟩:=a
 obtain ⟨l',w',s',n'⟩:=b
 simp only [Wd.ok,Wd.val,Wd.mk.injEq] at *
 omega
structure Sh where
 mu:Wd
 ms:Nat
 v:Nat
 w:Nat
 ws:Nat
structure Lc where
 old:Wd
 aw:Bool
 sv:Bool
 it:Nat
 ws:Bool
inductive Lp
 | ld | l0 | r0 | sq (c:Lc) | c1 (c:Lc) | r1 (c:Lc) | c2 (c:Lc) | r3 (c:Lc) | t1 (c:Lc) | s1 (c:Lc) | t2 (c:Lc) | r2 (c:Lc) | a1 (keep:Bool)
 | le | lc | la | ul (js:Nat→Nat) | uv (js:Nat→Nat) | ur (js:Nat→Nat) | ud | u0 | uc (old:Wd) | ux | us | ue
 | wv | wr | wk | d1 | d2 | d3 | d4 | quit
def hd(c:Lc):Lp:=if c.old.l=1∧c.old.s=0 then .sq c else .c2 c
def nw(c:Lc):Wd:={ l:=if c.old.s=0 then 1 else c.old.l,w:=if c.aw then 0 else c.old.w,s:=if c.sv∧c.old.l=1 then 1 else c.old.s,n:=if c.old.l=1∨c.old.s=1 then c.old.n+1 else c.old.n }
def hu(m:Wd):Lp:=if m.n=0∨m.l=1∨m.w=1∨m.s=1 then .ue else .uc m
def jb(c:Lc):Lp:=if c.aw=false∧c.old.w=0∧c.old.n≠0 then .c1 c else .r1 c
inductive dc:Lp→Sh→Lp→Sh→Prop
 | ld {s}:dc .ld s .l0 s
 | acF {s}:s.mu = .zero→dc .l0 s .le { s with mu:=⟨1,0,0,0⟩ }
 | acE {s}:s.mu ≠ .zero→dc .l0 s .r0 s
 | r0 {s}:dc .r0 s (hd ⟨s.mu,false,false,0,false⟩) s
 | Ob {s c}:dc (.sq c) s (.c2 c) s
 | x8 {s c}:c.it < 4→dc (.sq c) s (jb c) s
 | Qy {s c}:s.mu=c.old→dc (.c1 c) s (.r1 { c with aw:=true }) { s with mu:={ c.old with w:=1 } }
 | Qx {s c}:s.mu≠c.old→dc (.c1 c) s (.r1 c) s
 | r1 {s c}:dc (.r1 c) s (hd { c with old:=s.mu,it:=c.it+1 }) s
 | QC {s c}:s.mu=c.old→c.old.l=0→c.old.s=0→dc (.c2 c) s .le { s with mu:=nw c }
 | wo {s c}:s.mu=c.old→(c.old.l=1∨c.old.s=1)→dc (.c2 c) s (if c.ws then .s1 c else .t1 c) { s with mu:=nw c }
 | QD {s c}:s.mu≠c.old→dc (.c2 c) s (.r3 c) s
 | r3 {s c}:dc (.r3 c) s (hd { c with old:=s.mu }) s
 | t1 {s c} (b:Bool):dc (.t1 c) s (.s1 { c with ws:=b }) s
 | s1 {s c m}:s.ms=m+1→dc (.s1 c) s (if c.sv then .r2 c else .t2 c) { s with ms:=m }
 | t2 {s c} (b:Bool):dc (.t2 c) s (.r2 { c with sv:=b }) s
 | J2 {s c}:s.mu.s=1→dc (.r2 c) s (.a1 (c.sv && s.mu.n != 1)) s
 | xN {s c}:s.mu.s=0→dc (.r2 c) s (hd { c with old:=s.mu,aw:=true,it:=0 }) s
 | a1 {s b}:dc (.a1 b) s .le { s with mu:=⟨1,s.mu.w,if b then s.mu.s else 0,s.mu.n - 1⟩ }
 | le {s}:dc .le s .lc s
 | lc {s}:dc .lc s .la s
 | la {s js}:dc .la s (.ul js) s
 | ul {s js}:dc (.ul js) s (.uv js) s
 | uv {s js}:dc (.uv js) s (.ur js) s
 | ur {s js}:dc (.ur js) s .ud s
 | ud {s}:dc .ud s .u0 s
 | u0z {s}:s.mu.w=0→s.mu.s=0→s.mu.n=0→dc .u0 s .ue { s with mu:={ s.mu with l:=0 } }
 | x9 {s}:¬ (s.mu.w=0∧s.mu.s=0∧s.mu.n=0)→s.mu.s=0→dc .u0 s (hu { s.mu with l:=0 }) { s with mu:={ s.mu with l:=0 } }
 | u0h {s}:s.mu.s=1→dc .u0 s .us { s with mu:={ s.mu with l:=0 } }
 | ae2 {s m}:s.mu=m→dc (.uc m) s .us { s with mu:={ m with w:=1,n:=m.n - 1 } }
 | Xu {s m}:s.mu≠m→dc (.uc m) s .ux s
 | ux {s}:dc .ux s (hu s.mu) s
 | us {s}:dc .us s .ue { s with ms:=s.ms+1 }
 | Ol {s}:dc .ue s .ld s
 | Om {s}:dc .ue s .wv s
 | wv {s}:dc .wv s .wr s
 | wr {s}:dc .wr s .wk s
 | wk {s}:dc .wk s .d1 s
 | Hg {s}:(s.v≠1∨s.w=0)→dc .d1 s .quit { s with v:=s.v - 1 }
 | QR {s}:s.v=1→s.w=1→dc .d1 s .d2 { s with v:=0 }
 | d2 {s}:dc .d2 s .d3 s
 | d3 {s}:dc .d3 s .d4 { s with v:=0,w:=0 }
 | d4 {s}:dc .d4 s .quit { s with ws:=s.ws+1 }
structure Cn where
 ow:Nat
 hl:Nat
 pu:Nat
 pc:Nat
 al:Nat
 z:Nat
 a1:Nat
 ak:Nat
 ux:Nat
 wk:Nat
 lv:Nat
 dw:Nat
 d4:Nat
def sP(c:Lc):Nat:=if c.aw then 1 else 0
def Cn.zero:Cn:=⟨0,0,0,0,0,0,0,0,0,0,0,0,0⟩
def Cn.busy:Cn:={ Cn.zero with wk:=1,lv:=1 }
def cW:Lp→Cn
 | .le | .lc | .la | .ud | .u0=>{ Cn.busy with ow:=1 }
 | .ul _ | .uv _ | .ur _=>{ Cn.busy with hl:=1 }
 | .us=>{ Cn.busy with pu:=1 }
 | .t2 _ | .r2 _=>{ Cn.busy with wk:=0,pc:=1 }
 | .a1 b=>if b then { Cn.busy with wk:=0,ak:=1 } else { Cn.busy with wk:=0,a1:=1 }
 | .sq c | .c1 c | .r1 c | .c2 c | .r3 c=>{ Cn.busy with al:=sP c }
 | .t1 _ | .s1 _=>{ Cn.busy with wk:=0,z:=1 }
 | .uc _ | .ux=>{ Cn.busy with ux:=1 }
 | .d2 | .d3=>{ Cn.zero with wk:=1,dw:=1 }
 | .d4=>{ Cn.zero with wk:=1,d4:=1 }
 | .quit=>Cn.zero
 | _=>Cn.busy
structure Cn.yH (c x y c':Cn):Prop where
 ow:c'.ow+x.ow=c.ow+y.ow
 hl:c'.hl+x.hl=c.hl+y.hl
 pu:c'.pu+x.pu=c.pu+y.pu
 pc:c'.pc+x.pc=c.pc+y.pc
 al:c'.al+x.al=c.al+y.al
 z:c'.z+x.z=c.z+y.z
 a1:c'.a1+x.a1=c.a1+y.a1
 ak:c'.ak+x.ak=c.ak+y.ak
 ux:c'.ux+x.ux=c.ux+y.ux
 wk:c'.wk+x.wk=c.wk+y.wk
 lv:c'.lv+x.lv=c.lv+y.lv
 dw:c'.dw+x.dw=c.dw+y.dw
 d4:c'.d4+x.d4=c.d4+y.d4
structure Cn.Le (x c:Cn):Prop where
 ow:x.ow≤c.ow
 hl:x.hl≤c.hl
 pu:x.pu≤c.pu
 pc:x.pc≤c.pc
 al:x.al≤c.al
 z:x.z≤c.z
 a1:x.a1≤c.a1
 ak:x.ak≤c.ak
 ux:x.ux≤c.ux
 wk:x.wk≤c.wk
 lv:x.lv≤c.lv
 dw:x.dw≤c.dw
 d4:x.d4≤c.d4
structure db (N:Nat) (c:Cn) (s:Sh):Prop where
 l1:s.mu.l≤1
 w1:s.mu.w≤1
 s1:s.mu.w+s.mu.s≤1
 ow:c.ow+c.hl=s.mu.l
 al:c.al≤s.mu.w
 md:((s.mu.s=0∨s.mu.l=1)∧c.pu+c.pc+c.al+s.ms=s.mu.w∧c.a1+c.ak=0∧s.mu.n+c.pu+s.ms=c.z)∨(s.mu.s=1∧s.mu.l=0∧c.pu+c.pc+c.a1+c.ak+c.al+s.ms=1∧s.mu.n=c.z+c.pc+c.a1+c.ak)
 ak:2 * c.ak≤s.mu.n
 sn:s.mu.s=0∨1≤s.mu.n
 i4:s.mu.l=1∨s.mu.w=1∨s.mu.s=1∨s.mu.n=0∨1≤c.ux
 wN:c.wk+c.z+c.pc+c.a1+c.ak≤N
def pZ(N:Nat):Lp→Prop
 | .sq c=>c.old.ok N∧c.it≤4∧(c.sv=true→c.aw=true)∧(c.aw=true→c.old.w=1)∧c.old.l=1∧c.old.s=0
 | .c1 c=>c.old.ok N∧c.it < 4∧c.sv=false∧c.aw=false∧c.old.l=1∧c.old.s=0∧c.old.w=0∧c.old.n≠0
 | .r1 c=>c.old.ok N∧c.it < 4∧(c.sv=true→c.aw=true)
 | .c2 c=>c.old.ok N∧c.it≤4∧(c.sv=true→c.aw=true)∧(c.aw=true→c.old.w=1)
 | .r3 c=>c.old.ok N∧c.it≤4∧(c.sv=true→c.aw=true)
 | .t1 c=>c.ws=false
 | .t2 c=>c.sv=false
 | .uc m=>m.ok N∧m.l=0∧m.w=0∧m.s=0∧m.n≠0
 | _=>True
def vI(N:Nat)(T:Lp)(s:Sh):Prop:=s.mu.ok N∧(match T with
 | .r1 c | .r3 c=>c.aw=true→s.mu.w=1
 | .r2 _=>(s.mu.s=1∧s.mu.l=0∧s.mu.w=0∧s.mu.n≠0)∨(s.mu.s=0∧s.mu.w=1)
 | .a1 b=>s.mu.s=1∧s.mu.l=0∧s.mu.w=0∧s.mu.n≠0∧(b=true→2≤s.mu.n)
 | .u0=>s.mu.l=1
 | .us=>s.ms=0
 | _=>True)
theorem DD{c:Lc}(h:c.aw=true):sP c=1:=by simp [sP,h]
theorem GN{c:Lc}(h:c.aw=false):sP c=0:=by simp [sP,h]
section
variable {N:Nat} {c c':Cn} {s s':Sh} {T T':Lp}
theorem db.vI(h:db N c s)(hle:(cW T).Le c):vI N T s:=by
 obtain ⟨h1,h2,h3,h4,h5,h6,h8,h9,Ho,Hp⟩:=h
 obtain ⟨e1,e2,e3,e4,e5,e6,e7,e8,e9,eE,eF,dK,eG⟩:=hle
 refine ⟨⟨h1,h2,by omega,by omega⟩,?_⟩
 cases T <;> simp only [cW,Cn.busy,Cn.zero] at * <;> first | trivial | skip
 case r1 c=>intro ha; rw [DD ha] at e5; omega
 case r3 c=>intro ha; rw [DD ha] at e5; omega
 case r2 c=>omega
 case a1 b =>
  cases b
  ·simp only [Bool.false_eq_true,if_false] at e7 e8
   exact ⟨by omega,by omega,by omega,by omega,λ hb=>by cases hb⟩
  ·simp only [if_true] at e7 e8
   exact ⟨by omega,by omega,by omega,by omega,λ _=>by omega⟩
 case u0=>omega
 case us=>omega
theorem rH(c:Lc):cW (hd c)={ Cn.busy with al:=sP c }:=by unfold hd; split <;> rfl
theorem QO(c:Lc):cW (jb c)={ Cn.busy with al:=sP c }:=by unfold jb; split <;> rfl
theorem ND{c:Lc}(h1:c.old.ok N)(h2:c.it≤4)(h3:c.sv=true→c.aw=true)(h4:c.aw=true→c.old.w=1):pZ N (hd c):=by
 unfold hd; split
 ·exact ⟨h1,h2,h3,h4,by omega,by omega⟩
 ·exact ⟨h1,h2,h3,h4⟩
set_option maxHeartbeats 2000000 in
theorem db.step(h:db N c s)(hT:pZ N T)(hle:(cW T).Le c)(dk:dc T s T' s')(hc:c.yH (cW T) (cW T') c'):db N c' s'∧pZ N T':=by
 have hS:=h.vI hle
 obtain ⟨h1,h2,h3,h4,h5,h6,h8,h9,Ho,Hp⟩:=h
 obtain ⟨g1,g2,g3,g4,g5,g6,g7,g8,g9,cV,cG,cH,cI⟩:=hc
 obtain ⟨e1,e2,e3,e4,e5,e6,e7,e8,e9,eE,eF,dK,eG⟩:=hle
 obtain ⟨⟨q1,q2,q3,q4⟩,hS⟩:=hS
 obtain ⟨⟨ml,mw,mz,mn⟩,ms,v,w,ws⟩:=s
 obtain ⟨ow,hl,pu,pc,al',z,a1,ak,ux,wk,lv,dw,d4⟩:=c
 obtain ⟨ek,hl',eu,eo,ed,z',dZ,eb,eB,eC,ej,eg,ee⟩:=c'
 dsimp only at h1 h2 h3 h4 h5 h6 h8 h9 Ho Hp g1 g2 g3 g4 g5 g6 g7 g8 g9 cV cG cH cI e1 e2 e3 e4 e5 e6 e7 e8 e9 eE eF dK eG q1 q2 q3 q4 hS
 cases dk with
 | ld =>
  simp only [cW,Cn.busy,Cn.zero] at g1 g2 g3 g4 g5 g6 g7 g8 g9 cV cG cH cI e1 e2 e3 e4 e5 e6 e7 e8 e9 eE eF dK eG
  exact ⟨(by show db N ⟨ek,hl',eu,eo,ed,z',dZ,eb,eB,eC,ej,eg,ee⟩ ⟨⟨ml,mw,mz,mn⟩,ms,v,w,ws⟩; constructor <;> dsimp only <;> omega),trivial⟩
 | acF hm =>
  simp only [Wd.zero,Wd.mk.injEq] at hm
  obtain ⟨rfl,rfl,rfl,rfl⟩:=hm
  simp only [cW,Cn.busy,Cn.zero] at g1 g2 g3 g4 g5 g6 g7 g8 g9 cV cG cH cI e1 e2 e3 e4 e5 e6 e7 e8 e9 eE eF dK eG
  exact ⟨(by show db N ⟨ek,hl',eu,eo,ed,z',dZ,eb,eB,eC,ej,eg,ee⟩ ⟨⟨1,0,0,0⟩,ms,v,w,ws⟩; constructor <;> dsimp only <;> omega),trivial⟩
 | acE hm =>
  simp only [cW,Cn.busy,Cn.zero] at g1 g2 g3 g4 g5 g6 g7 g8 g9 cV cG cH cI e1 e2 e3 e4 e5 e6 e7 e8 e9 eE eF dK eG
  exact ⟨(by show db N ⟨ek,hl',eu,eo,ed,z',dZ,eb,eB,eC,ej,eg,ee⟩ ⟨⟨ml,mw,mz,mn⟩,ms,v,w,ws⟩; constructor <;> dsimp only <;> omega),trivial⟩
 | r0 =>
  simp only [rH] at g1 g2 g3 g4 g5 g6 g7 g8 g9 cV cG cH cI
  simp only [cW,Cn.busy,Cn.zero] at g1 g2 g3 g4 g5 g6 g7 g8 g9 cV cG cH cI e1 e2 e3 e4 e5 e6 e7 e8 e9 eE eF dK eG
  rw [GN rfl] at g5
  exact ⟨(by show db N ⟨ek,hl',eu,eo,ed,z',dZ,eb,eB,eC,ej,eg,ee⟩ ⟨⟨ml,mw,mz,mn⟩,ms,v,w,ws⟩; constructor <;> dsimp only <;> omega),ND ⟨q1,q2,q3,q4⟩ (by simp) (by simp) (by simp)⟩
 | @Ob _ c =>
  simp only [cW,Cn.busy,Cn.zero] at g1 g2 g3 g4 g5 g6 g7 g8 g9 cV cG cH cI e1 e2 e3 e4 e5 e6 e7 e8 e9 eE eF dK eG
  exact ⟨(by show db N ⟨ek,hl',eu,eo,ed,z',dZ,eb,eB,eC,ej,eg,ee⟩ ⟨⟨ml,mw,mz,mn⟩,ms,v,w,ws⟩; constructor <;> dsimp only <;> omega),hT.1,hT.2.1,hT.2.2.1,hT.2.2.2.1⟩
 | @x8 _ c hi =>
  obtain ⟨t1,t2,t3,t4,t5,t6⟩:=hT
  simp only [QO] at g1 g2 g3 g4 g5 g6 g7 g8 g9 cV cG cH cI
  simp only [cW,Cn.busy,Cn.zero] at g1 g2 g3 g4 g5 g6 g7 g8 g9 cV cG cH cI e1 e2 e3 e4 e5 e6 e7 e8 e9 eE eF dK eG
  refine ⟨(by show db N ⟨ek,hl',eu,eo,ed,z',dZ,eb,eB,eC,ej,eg,ee⟩ ⟨⟨ml,mw,mz,mn⟩,ms,v,w,ws⟩; constructor <;> dsimp only <;> omega),?_⟩
  unfold jb; split
  ·rename_i hx
   refine ⟨t1,hi,?_,hx.1,t5,t6,hx.2.1,hx.2.2⟩
   cases Tu:c.sv with
   | false=>rfl
   | true=>rw [t3 Tu] at hx; cases hx.1
  ·exact ⟨t1,hi,t3⟩
 | @Qy _ c hm =>
  obtain ⟨old,aw,sv,it,wz⟩:=c
  cases hm
  obtain ⟨⟨o1,o2,o3,o4⟩,t2,t3,t4,t5,t6,t7,t8⟩:=hT
  simp only at t2 t3 t4 t5 t6 t7 t8
  subst t4
  simp only [cW,Cn.busy,Cn.zero] at g1 g2 g3 g4 g5 g6 g7 g8 g9 cV cG cH cI e1 e2 e3 e4 e5 e6 e7 e8 e9 eE eF dK eG
  rw [GN rfl,DD rfl] at g5
  rw [GN rfl] at e5
  exact ⟨(by show db N ⟨ek,hl',eu,eo,ed,z',dZ,eb,eB,eC,ej,eg,ee⟩ ⟨⟨ml,1,mz,mn⟩,ms,v,w,ws⟩; constructor <;> dsimp only <;> omega),⟨o1,o2,o3,o4⟩,t2,λ _=>rfl⟩
 | @Qx _ c hm =>
  simp only [cW,Cn.busy,Cn.zero] at g1 g2 g3 g4 g5 g6 g7 g8 g9 cV cG cH cI e1 e2 e3 e4 e5 e6 e7 e8 e9 eE eF dK eG
  exact ⟨(by show db N ⟨ek,hl',eu,eo,ed,z',dZ,eb,eB,eC,ej,eg,ee⟩ ⟨⟨ml,mw,mz,mn⟩,ms,v,w,ws⟩; constructor <;> dsimp only <;> omega),hT.1,hT.2.1,λ hx=>by rw [hT.2.2.1] at hx; cases hx⟩
 | @r1 _ c =>
  simp only [rH] at g1 g2 g3 g4 g5 g6 g7 g8 g9 cV cG cH cI
  simp only [cW,Cn.busy,Cn.zero] at g1 g2 g3 g4 g5 g6 g7 g8 g9 cV cG cH cI e1 e2 e3 e4 e5 e6 e7 e8 e9 eE eF dK eG
  have ea:sP { c with old:=⟨ml,mw,mz,mn⟩,it:=c.it+1 }=sP c:=rfl
  rw [ea] at g5
  exact ⟨(by show db N ⟨ek,hl',eu,eo,ed,z',dZ,eb,eB,eC,ej,eg,ee⟩ ⟨⟨ml,mw,mz,mn⟩,ms,v,w,ws⟩; constructor <;> dsimp only <;> omega),ND ⟨q1,q2,q3,q4⟩ (by have:=hT.2.1; simp only; omega) hT.2.2 hS⟩
 | @QC _ c hm hl hs =>
  obtain ⟨old,aw,sv,it,wz⟩:=c
  cases hm
  simp only at hl hs
  subst hl hs
  obtain ⟨⟨o1,o2,o3,o4⟩,t2,t3,t4⟩:=hT
  simp only at t3 t4
  simp only [cW,Cn.busy,Cn.zero] at g1 g2 g3 g4 g5 g6 g7 g8 g9 cV cG cH cI e1 e2 e3 e4 e5 e6 e7 e8 e9 eE eF dK eG
  have en:nw ⟨⟨0,mw,0,mn⟩,aw,sv,it,wz⟩=⟨1,if aw then 0 else mw,0,mn⟩:=by simp [nw]
  rw [en]
  cases aw
  ·rw [GN rfl] at g5 e5
   exact ⟨(by show db N ⟨ek,hl',eu,eo,ed,z',dZ,eb,eB,eC,ej,eg,ee⟩ ⟨⟨1,mw,0,mn⟩,ms,v,w,ws⟩; constructor <;> dsimp only <;> omega),trivial⟩
  ·rw [DD rfl] at g5 e5
   have:=t4 rfl
   exact ⟨(by show db N ⟨ek,hl',eu,eo,ed,z',dZ,eb,eB,eC,ej,eg,ee⟩ ⟨⟨1,0,0,mn⟩,ms,v,w,ws⟩; constructor <;> dsimp only <;> omega),trivial⟩
 | @wo _ c hm hq =>
  obtain ⟨old,aw,sv,it,wz⟩:=c
  cases hm
  obtain ⟨⟨o1,o2,o3,o4⟩,t2,t3,t4⟩:=hT
  simp only at t3 t4 hq
  have ez:cW (if wz=true then Lp.s1 ⟨⟨ml,mw,mz,mn⟩,aw,sv,it,wz⟩ else Lp.t1 ⟨⟨ml,mw,mz,mn⟩,aw,sv,it,wz⟩)={ Cn.busy with wk:=0,z:=1 }:=by cases wz <;> rfl
  simp only at g1 g2 g3 g4 g5 g6 g7 g8 g9 cV cG cH cI
  simp only [ez] at g1 g2 g3 g4 g5 g6 g7 g8 g9 cV cG cH cI
  simp only [cW,Cn.busy,Cn.zero] at g1 g2 g3 g4 g5 g6 g7 g8 g9 cV cG cH cI e1 e2 e3 e4 e5 e6 e7 e8 e9 eE eF dK eG
  refine ⟨?_,by cases wz <;> first | rfl | trivial⟩
  cases aw
  ·cases sv
   ·rw [GN rfl] at g5 e5
    by_cases hz:mz=0
    ·subst hz
     have tp:ml=1:=by omega
     subst tp
     have en:nw ⟨⟨1,mw,0,mn⟩,false,false,it,wz⟩=⟨1,mw,0,mn+1⟩:=by simp [nw]
     rw [en]
     exact (by show db N ⟨ek,hl',eu,eo,ed,z',dZ,eb,eB,eC,ej,eg,ee⟩ ⟨⟨1,mw,0,mn+1⟩,ms,v,w,ws⟩; constructor <;> dsimp only <;> omega)
    ·have VV:mz=1:=by omega
     subst VV
     have en:nw ⟨⟨ml,mw,1,mn⟩,false,false,it,wz⟩=⟨ml,mw,1,mn+1⟩:=by simp [nw]
     rw [en]
     exact (by show db N ⟨ek,hl',eu,eo,ed,z',dZ,eb,eB,eC,ej,eg,ee⟩ ⟨⟨ml,mw,1,mn+1⟩,ms,v,w,ws⟩; constructor <;> dsimp only <;> omega)
   ·exact absurd (t3 rfl) (by simp)
  ·rw [DD rfl] at g5 e5
   have hw:=t4 rfl
   have hz:mz=0:=by omega
   have tp:ml=1:=by omega
   subst hz tp hw
   cases sv
   ·have en:nw ⟨⟨1,1,0,mn⟩,true,false,it,wz⟩=⟨1,0,0,mn+1⟩:=by simp [nw]
    rw [en]
    exact (by show db N ⟨ek,hl',eu,eo,ed,z',dZ,eb,eB,eC,ej,eg,ee⟩ ⟨⟨1,0,0,mn+1⟩,ms,v,w,ws⟩; constructor <;> dsimp only <;> omega)
   ·have en:nw ⟨⟨1,1,0,mn⟩,true,true,it,wz⟩=⟨1,0,1,mn+1⟩:=by simp [nw]
    rw [en]
    exact (by show db N ⟨ek,hl',eu,eo,ed,z',dZ,eb,eB,eC,ej,eg,ee⟩ ⟨⟨1,0,1,mn+1⟩,ms,v,w,ws⟩; constructor <;> dsimp only <;> omega)
 | @QD _ c hm =>
  simp only [cW,Cn.busy,Cn.zero] at g1 g2 g3 g4 g5 g6 g7 g8 g9 cV cG cH cI e1 e2 e3 e4 e5 e6 e7 e8 e9 eE eF dK eG
  exact ⟨(by show db N ⟨ek,hl',eu,eo,ed,z',dZ,eb,eB,eC,ej,eg,ee⟩ ⟨⟨ml,mw,mz,mn⟩,ms,v,w,ws⟩; constructor <;> dsimp only <;> omega),hT.1,hT.2.1,hT.2.2.1⟩
 | @r3 _ c =>
  simp only [rH] at g1 g2 g3 g4 g5 g6 g7 g8 g9 cV cG cH cI
  simp only [cW,Cn.busy,Cn.zero] at g1 g2 g3 g4 g5 g6 g7 g8 g9 cV cG cH cI e1 e2 e3 e4 e5 e6 e7 e8 e9 eE eF dK eG
  have ea:sP { c with old:=⟨ml,mw,mz,mn⟩ }=sP c:=rfl
  rw [ea] at g5
  exact ⟨(by show db N ⟨ek,hl',eu,eo,ed,z',dZ,eb,eB,eC,ej,eg,ee⟩ ⟨⟨ml,mw,mz,mn⟩,ms,v,w,ws⟩; constructor <;> dsimp only <;> omega),ND ⟨q1,q2,q3,q4⟩ hT.2.1 hT.2.2 hS⟩
 | @t1 _ c b =>
  simp only [cW,Cn.busy,Cn.zero] at g1 g2 g3 g4 g5 g6 g7 g8 g9 cV cG cH cI e1 e2 e3 e4 e5 e6 e7 e8 e9 eE eF dK eG
  exact ⟨(by show db N ⟨ek,hl',eu,eo,ed,z',dZ,eb,eB,eC,ej,eg,ee⟩ ⟨⟨ml,mw,mz,mn⟩,ms,v,w,ws⟩; constructor <;> dsimp only <;> omega),trivial⟩
 | @s1 _ c m hm =>
  have ez:cW (if c.sv=true then Lp.r2 c else Lp.t2 c)={ Cn.busy with wk:=0,pc:=1 }:=by cases c.sv <;> rfl
  simp only at hm
  simp only [ez] at g1 g2 g3 g4 g5 g6 g7 g8 g9 cV cG cH cI
  simp only [cW,Cn.busy,Cn.zero] at g1 g2 g3 g4 g5 g6 g7 g8 g9 cV cG cH cI e1 e2 e3 e4 e5 e6 e7 e8 e9 eE eF dK eG
  refine ⟨(by show db N ⟨ek,hl',eu,eo,ed,z',dZ,eb,eB,eC,ej,eg,ee⟩ ⟨⟨ml,mw,mz,mn⟩,m,v,w,ws⟩; constructor <;> dsimp only <;> omega),?_⟩
  cases Tu:c.sv with
  | false=>exact Tu
  | true=>trivial
 | @t2 _ c b =>
  simp only [cW,Cn.busy,Cn.zero] at g1 g2 g3 g4 g5 g6 g7 g8 g9 cV cG cH cI e1 e2 e3 e4 e5 e6 e7 e8 e9 eE eF dK eG
  exact ⟨(by show db N ⟨ek,hl',eu,eo,ed,z',dZ,eb,eB,eC,ej,eg,ee⟩ ⟨⟨ml,mw,mz,mn⟩,ms,v,w,ws⟩; constructor <;> dsimp only <;> omega),trivial⟩
 | @J2 _ c hm =>
  simp only at hm; subst hm
  simp only [cW,Cn.busy,Cn.zero] at g1 g2 g3 g4 g5 g6 g7 g8 g9 cV cG cH cI e1 e2 e3 e4 e5 e6 e7 e8 e9 eE eF dK eG
  refine ⟨?_,trivial⟩
  cases hb:(c.sv && mn != 1) with
  | false =>
   simp only [hb,Bool.false_eq_true,if_false] at g1 g2 g3 g4 g5 g6 g7 g8 g9 cV cG cH cI
   exact (by show db N ⟨ek,hl',eu,eo,ed,z',dZ,eb,eB,eC,ej,eg,ee⟩ ⟨⟨ml,mw,1,mn⟩,ms,v,w,ws⟩; constructor <;> dsimp only <;> omega)
  | true =>
   have hn1:mn≠1:=by simp at hb; exact hb.2
   simp only [hb,if_true] at g1 g2 g3 g4 g5 g6 g7 g8 g9 cV cG cH cI
   exact (by show db N ⟨ek,hl',eu,eo,ed,z',dZ,eb,eB,eC,ej,eg,ee⟩ ⟨⟨ml,mw,1,mn⟩,ms,v,w,ws⟩; constructor <;> dsimp only <;> omega)
 | @xN _ c hm =>
  simp only at hm; subst hm
  simp only [rH] at g1 g2 g3 g4 g5 g6 g7 g8 g9 cV cG cH cI
  simp only [cW,Cn.busy,Cn.zero] at g1 g2 g3 g4 g5 g6 g7 g8 g9 cV cG cH cI e1 e2 e3 e4 e5 e6 e7 e8 e9 eE eF dK eG
  rw [DD rfl] at g5
  exact ⟨(by show db N ⟨ek,hl',eu,eo,ed,z',dZ,eb,eB,eC,ej,eg,ee⟩ ⟨⟨ml,mw,0,mn⟩,ms,v,w,ws⟩; constructor <;> dsimp only <;> omega),ND ⟨q1,q2,q3,q4⟩ (by simp) (λ _=>rfl) (λ _=>by simp only; omega)⟩
 | @a1 _ b =>
  obtain ⟨r1,r2,r3,r4,r5⟩:=hS
  subst r1 r2 r3
  simp only [cW,Cn.busy,Cn.zero] at g1 g2 g3 g4 g5 g6 g7 g8 g9 cV cG cH cI e1 e2 e3 e4 e5 e6 e7 e8 e9 eE eF dK eG
  cases b
  ·simp only [Bool.false_eq_true,if_false] at g1 g2 g3 g4 g5 g6 g7 g8 g9 cV cG cH cI e1 e2 e3 e4 e5 e6 e7 e8 e9 eE eF dK eG
   exact ⟨(by show db N ⟨ek,hl',eu,eo,ed,z',dZ,eb,eB,eC,ej,eg,ee⟩ ⟨⟨1,0,0,mn - 1⟩,ms,v,w,ws⟩; constructor <;> dsimp only <;> omega),trivial⟩
  ·simp only [if_true] at g1 g2 g3 g4 g5 g6 g7 g8 g9 cV cG cH cI e1 e2 e3 e4 e5 e6 e7 e8 e9 eE eF dK eG
   exact ⟨(by show db N ⟨ek,hl',eu,eo,ed,z',dZ,eb,eB,eC,ej,eg,ee⟩ ⟨⟨1,0,1,mn - 1⟩,ms,v,w,ws⟩; constructor <;> dsimp only <;> omega),trivial⟩
 | le =>
  simp only [cW,Cn.busy,Cn.zero] at g1 g2 g3 g4 g5 g6 g7 g8 g9 cV cG cH cI e1 e2 e3 e4 e5 e6 e7 e8 e9 eE eF dK eG
  exact ⟨(by show db N ⟨ek,hl',eu,eo,ed,z',dZ,eb,eB,eC,ej,eg,ee⟩ ⟨⟨ml,mw,mz,mn⟩,ms,v,w,ws⟩; constructor <;> dsimp only <;> omega),trivial⟩
 | lc =>
  simp only [cW,Cn.busy,Cn.zero] at g1 g2 g3 g4 g5 g6 g7 g8 g9 cV cG cH cI e1 e2 e3 e4 e5 e6 e7 e8 e9 eE eF dK eG
  exact ⟨(by show db N ⟨ek,hl',eu,eo,ed,z',dZ,eb,eB,eC,ej,eg,ee⟩ ⟨⟨ml,mw,mz,mn⟩,ms,v,w,ws⟩; constructor <;> dsimp only <;> omega),trivial⟩
 | la =>
  simp only [cW,Cn.busy,Cn.zero] at g1 g2 g3 g4 g5 g6 g7 g8 g9 cV cG cH cI e1 e2 e3 e4 e5 e6 e7 e8 e9 eE eF dK eG
  exact ⟨(by show db N ⟨ek,hl',eu,eo,ed,z',dZ,eb,eB,eC,ej,eg,ee⟩ ⟨⟨ml,mw,mz,mn⟩,ms,v,w,ws⟩; constructor <;> dsimp only <;> omega),trivial⟩
 | ul =>
  simp only [cW,Cn.busy,Cn.zero] at g1 g2 g3 g4 g5 g6 g7 g8 g9 cV cG cH cI e1 e2 e3 e4 e5 e6 e7 e8 e9 eE eF dK eG
  exact ⟨(by show db N ⟨ek,hl',eu,eo,ed,z',dZ,eb,eB,eC,ej,eg,ee⟩ ⟨⟨ml,mw,mz,mn⟩,ms,v,w,ws⟩; constructor <;> dsimp only <;> omega),trivial⟩
 | uv =>
  simp only [cW,Cn.busy,Cn.zero] at g1 g2 g3 g4 g5 g6 g7 g8 g9 cV cG cH cI e1 e2 e3 e4 e5 e6 e7 e8 e9 eE eF dK eG
  exact ⟨(by show db N ⟨ek,hl',eu,eo,ed,z',dZ,eb,eB,eC,ej,eg,ee⟩ ⟨⟨ml,mw,mz,mn⟩,ms,v,w,ws⟩; constructor <;> dsimp only <;> omega),trivial⟩
 | ur =>
  simp only [cW,Cn.busy,Cn.zero] at g1 g2 g3 g4 g5 g6 g7 g8 g9 cV cG cH cI e1 e2 e3 e4 e5 e6 e7 e8 e9 eE eF dK eG
  exact ⟨(by show db N ⟨ek,hl',eu,eo,ed,z',dZ,eb,eB,eC,ej,eg,ee⟩ ⟨⟨ml,mw,mz,mn⟩,ms,v,w,ws⟩; constructor <;> dsimp only <;> omega),trivial⟩
 | ud =>
  simp only [cW,Cn.busy,Cn.zero] at g1 g2 g3 g4 g5 g6 g7 g8 g9 cV cG cH cI e1 e2 e3 e4 e5 e6 e7 e8 e9 eE eF dK eG
  exact ⟨(by show db N ⟨ek,hl',eu,eo,ed,z',dZ,eb,eB,eC,ej,eg,ee⟩ ⟨⟨ml,mw,mz,mn⟩,ms,v,w,ws⟩; constructor <;> dsimp only <;> omega),trivial⟩
 | u0z a b d =>
  simp only at a b d; subst a b d
  simp only [cW,Cn.busy,Cn.zero] at g1 g2 g3 g4 g5 g6 g7 g8 g9 cV cG cH cI e1 e2 e3 e4 e5 e6 e7 e8 e9 eE eF dK eG
  exact ⟨(by show db N ⟨ek,hl',eu,eo,ed,z',dZ,eb,eB,eC,ej,eg,ee⟩ ⟨⟨0,0,0,0⟩,ms,v,w,ws⟩; constructor <;> dsimp only <;> omega),trivial⟩
 | x9 a b =>
  simp only at a b; subst b
  by_cases hx:mn=0∨(0:Nat)=1∨mw=1∨(0:Nat)=1
  ·have eh:hu ⟨0,mw,0,mn⟩ = .ue:=by simp only [hu,hx,if_true]
   simp only [eh] at g1 g2 g3 g4 g5 g6 g7 g8 g9 cV cG cH cI
   simp only [cW,Cn.busy,Cn.zero] at g1 g2 g3 g4 g5 g6 g7 g8 g9 cV cG cH cI e1 e2 e3 e4 e5 e6 e7 e8 e9 eE eF dK eG
   rw [eh]
   exact ⟨(by show db N ⟨ek,hl',eu,eo,ed,z',dZ,eb,eB,eC,ej,eg,ee⟩ ⟨⟨0,mw,0,mn⟩,ms,v,w,ws⟩; constructor <;> dsimp only <;> omega),trivial⟩
  ·have eh:hu ⟨0,mw,0,mn⟩ = .uc ⟨0,mw,0,mn⟩:=by simp only [hu,hx,if_false]
   simp only [eh] at g1 g2 g3 g4 g5 g6 g7 g8 g9 cV cG cH cI
   simp only [cW,Cn.busy,Cn.zero] at g1 g2 g3 g4 g5 g6 g7 g8 g9 cV cG cH cI e1 e2 e3 e4 e5 e6 e7 e8 e9 eE eF dK eG
   rw [eh]
   exact ⟨(by show db N ⟨ek,hl',eu,eo,ed,z',dZ,eb,eB,eC,ej,eg,ee⟩ ⟨⟨0,mw,0,mn⟩,ms,v,w,ws⟩; constructor <;> dsimp only <;> omega),⟨by simp,q2,by simp,q4⟩,rfl,by simp only; omega,rfl,by simp only; omega⟩
 | u0h a =>
  simp only at a; subst a
  simp only [cW,Cn.busy,Cn.zero] at g1 g2 g3 g4 g5 g6 g7 g8 g9 cV cG cH cI e1 e2 e3 e4 e5 e6 e7 e8 e9 eE eF dK eG
  exact ⟨(by show db N ⟨ek,hl',eu,eo,ed,z',dZ,eb,eB,eC,ej,eg,ee⟩ ⟨⟨0,mw,1,mn⟩,ms,v,w,ws⟩; constructor <;> dsimp only <;> omega),trivial⟩
 | ae2 a =>
  cases a
  obtain ⟨⟨o1,o2,o3,o4⟩,t2,t3,t4,t5⟩:=hT
  simp only at t2 t3 t4 t5
  subst t2 t3 t4
  simp only [cW,Cn.busy,Cn.zero] at g1 g2 g3 g4 g5 g6 g7 g8 g9 cV cG cH cI e1 e2 e3 e4 e5 e6 e7 e8 e9 eE eF dK eG
  exact ⟨(by show db N ⟨ek,hl',eu,eo,ed,z',dZ,eb,eB,eC,ej,eg,ee⟩ ⟨⟨0,1,0,mn - 1⟩,ms,v,w,ws⟩; constructor <;> dsimp only <;> omega),trivial⟩
 | Xu a =>
  simp only [cW,Cn.busy,Cn.zero] at g1 g2 g3 g4 g5 g6 g7 g8 g9 cV cG cH cI e1 e2 e3 e4 e5 e6 e7 e8 e9 eE eF dK eG
  exact ⟨(by show db N ⟨ek,hl',eu,eo,ed,z',dZ,eb,eB,eC,ej,eg,ee⟩ ⟨⟨ml,mw,mz,mn⟩,ms,v,w,ws⟩; constructor <;> dsimp only <;> omega),trivial⟩
 | ux =>
  by_cases hx:mn=0∨ml=1∨mw=1∨mz=1
  ·have eh:hu ⟨ml,mw,mz,mn⟩ = .ue:=by simp only [hu,hx,if_true]
   simp only [eh] at g1 g2 g3 g4 g5 g6 g7 g8 g9 cV cG cH cI
   simp only [cW,Cn.busy,Cn.zero] at g1 g2 g3 g4 g5 g6 g7 g8 g9 cV cG cH cI e1 e2 e3 e4 e5 e6 e7 e8 e9 eE eF dK eG
   rw [eh]
   exact ⟨(by show db N ⟨ek,hl',eu,eo,ed,z',dZ,eb,eB,eC,ej,eg,ee⟩ ⟨⟨ml,mw,mz,mn⟩,ms,v,w,ws⟩; constructor <;> dsimp only <;> omega),trivial⟩
  ·have eh:hu ⟨ml,mw,mz,mn⟩ = .uc ⟨ml,mw,mz,mn⟩:=by simp only [hu,hx,if_false]
   simp only [eh] at g1 g2 g3 g4 g5 g6 g7 g8 g9 cV cG cH cI
   simp only [cW,Cn.busy,Cn.zero] at g1 g2 g3 g4 g5 g6 g7 g8 g9 cV cG cH cI e1 e2 e3 e4 e5 e6 e7 e8 e9 eE eF dK eG
   rw [eh]
   exact ⟨(by show db N ⟨ek,hl',eu,eo,ed,z',dZ,eb,eB,eC,ej,eg,ee⟩ ⟨⟨ml,mw,mz,mn⟩,ms,v,w,ws⟩; constructor <;> dsimp only <;> omega),⟨q1,q2,q3,q4⟩,by simp only; omega,by simp only; omega,by simp only; omega,by simp only; omega⟩
 | us =>
  simp only [cW,Cn.busy,Cn.zero] at g1 g2 g3 g4 g5 g6 g7 g8 g9 cV cG cH cI e1 e2 e3 e4 e5 e6 e7 e8 e9 eE eF dK eG
  exact ⟨(by show db N ⟨ek,hl',eu,eo,ed,z',dZ,eb,eB,eC,ej,eg,ee⟩ ⟨⟨ml,mw,mz,mn⟩,ms+1,v,w,ws⟩; constructor <;> dsimp only <;> omega),trivial⟩
 | Ol =>
  simp only [cW,Cn.busy,Cn.zero] at g1 g2 g3 g4 g5 g6 g7 g8 g9 cV cG cH cI e1 e2 e3 e4 e5 e6 e7 e8 e9 eE eF dK eG
  exact ⟨(by show db N ⟨ek,hl',eu,eo,ed,z',dZ,eb,eB,eC,ej,eg,ee⟩ ⟨⟨ml,mw,mz,mn⟩,ms,v,w,ws⟩; constructor <;> dsimp only <;> omega),trivial⟩
 | Om =>
  simp only [cW,Cn.busy,Cn.zero] at g1 g2 g3 g4 g5 g6 g7 g8 g9 cV cG cH cI e1 e2 e3 e4 e5 e6 e7 e8 e9 eE eF dK eG
  exact ⟨(by show db N ⟨ek,hl',eu,eo,ed,z',dZ,eb,eB,eC,ej,eg,ee⟩ ⟨⟨ml,mw,mz,mn⟩,ms,v,w,ws⟩; constructor <;> dsimp only <;> omega),trivial⟩
 | wv =>
  simp only [cW,Cn.busy,Cn.zero] at g1 g2 g3 g4 g5 g6 g7 g8 g9 cV cG cH cI e1 e2 e3 e4 e5 e6 e7 e8 e9 eE eF dK eG
  exact ⟨(by show db N ⟨ek,hl',eu,eo,ed,z',dZ,eb,eB,eC,ej,eg,ee⟩ ⟨⟨ml,mw,mz,mn⟩,ms,v,w,ws⟩; constructor <;> dsimp only <;> omega),trivial⟩
 | wr =>
  simp only [cW,Cn.busy,Cn.zero] at g1 g2 g3 g4 g5 g6 g7 g8 g9 cV cG cH cI e1 e2 e3 e4 e5 e6 e7 e8 e9 eE eF dK eG
  exact ⟨(by show db N ⟨ek,hl',eu,eo,ed,z',dZ,eb,eB,eC,ej,eg,ee⟩ ⟨⟨ml,mw,mz,mn⟩,ms,v,w,ws⟩; constructor <;> dsimp only <;> omega),trivial⟩
 | wk =>
  simp only [cW,Cn.busy,Cn.zero] at g1 g2 g3 g4 g5 g6 g7 g8 g9 cV cG cH cI e1 e2 e3 e4 e5 e6 e7 e8 e9 eE eF dK eG
  exact ⟨(by show db N ⟨ek,hl',eu,eo,ed,z',dZ,eb,eB,eC,ej,eg,ee⟩ ⟨⟨ml,mw,mz,mn⟩,ms,v,w,ws⟩; constructor <;> dsimp only <;> omega),trivial⟩
 | Hg a =>
  simp only [cW,Cn.busy,Cn.zero] at g1 g2 g3 g4 g5 g6 g7 g8 g9 cV cG cH cI e1 e2 e3 e4 e5 e6 e7 e8 e9 eE eF dK eG
  exact ⟨(by show db N ⟨ek,hl',eu,eo,ed,z',dZ,eb,eB,eC,ej,eg,ee⟩ ⟨⟨ml,mw,mz,mn⟩,ms,v - 1,w,ws⟩; constructor <;> dsimp only <;> omega),trivial⟩
 | QR a b =>
  simp only [cW,Cn.busy,Cn.zero] at g1 g2 g3 g4 g5 g6 g7 g8 g9 cV cG cH cI e1 e2 e3 e4 e5 e6 e7 e8 e9 eE eF dK eG
  exact ⟨(by show db N ⟨ek,hl',eu,eo,ed,z',dZ,eb,eB,eC,ej,eg,ee⟩ ⟨⟨ml,mw,mz,mn⟩,ms,0,w,ws⟩; constructor <;> dsimp only <;> omega),trivial⟩
 | d2 =>
  simp only [cW,Cn.zero] at g1 g2 g3 g4 g5 g6 g7 g8 g9 cV cG cH cI e1 e2 e3 e4 e5 e6 e7 e8 e9 eE eF dK eG
  exact ⟨(by show db N ⟨ek,hl',eu,eo,ed,z',dZ,eb,eB,eC,ej,eg,ee⟩ ⟨⟨ml,mw,mz,mn⟩,ms,v,w,ws⟩; constructor <;> dsimp only <;> omega),trivial⟩
 | d3 =>
  simp only [cW,Cn.zero] at g1 g2 g3 g4 g5 g6 g7 g8 g9 cV cG cH cI e1 e2 e3 e4 e5 e6 e7 e8 e9 eE eF dK eG
  exact ⟨(by show db N ⟨ek,hl',eu,eo,ed,z',dZ,eb,eB,eC,ej,eg,ee⟩ ⟨⟨ml,mw,mz,mn⟩,ms,0,0,ws⟩; constructor <;> dsimp only <;> omega),trivial⟩
 | d4 =>
  simp only [cW,Cn.zero] at g1 g2 g3 g4 g5 g6 g7 g8 g9 cV cG cH cI e1 e2 e3 e4 e5 e6 e7 e8 e9 eE eF dK eG
  exact ⟨(by show db N ⟨ek,hl',eu,eo,ed,z',dZ,eb,eB,eC,ej,eg,ee⟩ ⟨⟨ml,mw,mz,mn⟩,ms,v,w,ws+1⟩; constructor <;> dsimp only <;> omega),trivial⟩
end
end Go.Lg
namespace Go.Lg
inductive Mp
 | ka (r:Nat) | kc (r:Nat) | kv (r:Nat) | kd (r:Nat) | ke (r:Nat) | go (r:Nat) | wa | w1 | w2 (v:Nat) | wV | wW | w3 | w4 | we | qv | wq | fin
def kq:Nat→Mp
 | 0=>.wa
 | r+1=>.ka r
inductive gg:Mp→Sh→Mp→Sh→Prop
 | ka {s r}:gg (.ka r) s (.kc r) s
 | kc1 {s r}:s.v=0→gg (.kc r) s (.kv r) { s with v:=1 }
 | kv {s r}:gg (.kv r) s (.kd r) s
 | kcn {s r}:s.v≠0→gg (.kc r) s (.ke r) { s with v:=s.v+1 }
 | kd {s r}:gg (.kd r) s (.ke r) s
 | ke {s r}:gg (.ke r) s (.go r) s
 | wa {s}:gg .wa s .w1 s
 | w1z {s}:s.v=0→gg .w1 s .we s
 | w1n {s}:s.v≠0→gg .w1 s (.w2 s.v) s
 | afQ {s}:gg (.w2 s.v) s .wV { s with w:=1 }
 | wV {s}:gg .wV s .wW s
 | afP {s v}:s.v≠v→gg (.w2 v) s .w1 s
 | wW {s}:gg .wW s .w3 s
 | w3 {s m}:s.ws=m+1→gg .w3 s .w4 { s with ws:=m }
 | w4 {s}:gg .w4 s .we s
 | we {s}:gg .we s .qv s
 | qv {s}:gg .qv s .wq s
 | wq {s}:gg .wq s .fin s
def rem:Mp→Nat
 | .ka r | .kc r | .kv r | .kd r | .ke r | .go r=>r+1
 | _=>0
def Cn.jy(c:Cn):Nat:=c.wk+c.z+c.pc+c.a1+c.ak
def kE(c:Cn)(s:Sh):Mp→Prop
 | .ka _ | .kc _ | .wa | .w1=>s.v=c.lv∧s.w=0∧s.ws=0∧c.dw=0∧c.d4=0
 | .w2 v=>s.v=c.lv∧s.w=0∧s.ws=0∧c.dw=0∧c.d4=0∧v≠0
 | .kv _ | .kd _ | .ke _ | .go _=>s.v=c.lv+1∧s.w=0∧s.ws=0∧c.dw=0∧c.d4=0
 | .wV | .wW | .w3=>(s.w=1∧s.ws=0∧c.d4=0∧s.v=c.lv∧((s.v=0∧c.dw=1)∨(1≤s.v∧c.dw=0)))∨(s.w=0∧s.v=0∧c.lv=0∧c.dw=0∧c.d4+s.ws=1)
 | _=>s.v=0∧s.w=0∧s.ws=0∧c.lv=0∧c.dw=0∧c.d4=0
structure nW (N:Nat) (T0:Mp) (c:Cn) (s:Sh):Prop where
 wg:kE c s T0
 eq:c.lv+c.dw+c.d4=c.jy
 le:c.jy+rem T0≤N
def okW(N:Nat):Lp→Sh→Prop
 | .d1,s=>1≤s.v∧s.v≤N∧s.w≤1
 | .d2,s=>s.v=0∧s.w=1
 | .d4,s=>s.ws=0
 | _,_=>True
def ov(N:Nat):Mp→Sh→Prop
 | .kc _,s=>s.w=0∧s.v+1≤N
 | .w1,s=>s.w=0∧s.v≤N
 | .w2 v,s=>s.w=0∧s.v≤N∧v≠0
 | .w4,s=>s.v=0∧s.w=0
 | .w3,s=>s.ws≤1
 | _,_=>True
section
variable {N:Nat} {c c':Cn} {s s':Sh} {T T':Lp} {T0 iC:Mp}
theorem QN(T:Lp):(cW T).lv+(cW T).dw+(cW T).d4=(cW T).jy:=by
 cases T <;> simp [cW,Cn.busy,Cn.zero,Cn.jy]
 case a1 b=>cases b <;> simp
theorem Cn.yH.jy{x y:Cn}(h:c.yH x y c'):c'.jy+x.jy=c.jy+y.jy:=by
 have:=h.wk; have:=h.z; have:=h.pc; have:=h.a1; have:=h.ak
 unfold Cn.jy; omega
theorem nW.okW(h:nW N T0 c s)(hle:(cW T).Le c):okW N T s:=by
 obtain ⟨h1,h2,h3⟩:=h
 have e1:=hle.lv
 have e2:=hle.dw
 have e3:=hle.d4
 cases T <;> simp only [cW,Cn.busy,Cn.zero] at e1 e2 e3 <;> first | trivial | skip
 all_goals
  show _
  cases T0 <;> simp only [kE,rem] at h1 h3 <;> simp only [Go.Lg.okW] <;> omega
theorem nW.ov(h:nW N T0 c s):ov N T0 s:=by
 obtain ⟨h1,h2,h3⟩:=h
 cases T0 <;> simp only [kE,rem] at h1 h3 <;> simp only [Go.Lg.ov] <;> omega
set_option maxHeartbeats 2000000 in
theorem nW.step(h:nW N T0 c s)(hle:(cW T).Le c)(dk:dc T s T' s')(hc:c.yH (cW T) (cW T') c'):nW N T0 c' s':=by
 obtain ⟨h1,h2,h3⟩:=h
 have q1:=QN T
 have q2:=QN T'
 have q3:=hc.jy
 have cG:=hc.lv
 have cH:=hc.dw
 have cI:=hc.d4
 have e1:=hle.lv
 have e2:=hle.dw
 have e3:=hle.d4
 have same:(cW T').lv=(cW T).lv→(cW T').dw=(cW T).dw→(cW T').d4=(cW T).d4→s'.v=s.v→s'.w=s.w→s'.ws=s.ws→nW N T0 c' s':=by
  intro a1 a2 a3 a4 a5 a6
  refine ⟨?_,by omega,by omega⟩
  cases T0 <;> simp only [kE,a4,a5,a6] at h1 ⊢ <;> omega
 cases dk
 case Hg a =>
  refine ⟨?_,by omega,by simp only [cW,Cn.busy,Cn.zero,Cn.jy] at q3; unfold Cn.jy at h3 ⊢; omega⟩
  simp only [cW,Cn.busy,Cn.zero] at cG cH cI e1 e2 e3
  clear q1 q2 q3 h2 h3 same hc hle
  have wt:kE c s .w3→kE c' { s with v:=s.v - 1 } .w3:=λ h=>by
   simp only [kE] at h ⊢
   rcases h with ⟨a1,a2,a3,a4,a5⟩ | ⟨a1,a2,a3,a4,a5⟩
   ·rcases a5 with ⟨a5,a6⟩ | ⟨a5,a6⟩ <;> first | omega | (refine .inl ⟨a1,a2,by omega,by omega,.inr ⟨by omega,by omega⟩⟩)
   ·first | omega | (omega)
  cases T0 <;> first | exact wt h1 | (simp only [kE] at h1 ⊢; omega)
 case QR a b =>
  refine ⟨?_,by omega,by simp only [cW,Cn.busy,Cn.zero,Cn.jy] at q3; unfold Cn.jy at h3 ⊢; omega⟩
  simp only [cW,Cn.busy,Cn.zero] at cG cH cI e1 e2 e3
  clear q1 q2 q3 h2 h3 same hc hle
  have wt:kE c s .w3→kE c' { s with v:=0 } .w3:=λ h=>by
   simp only [kE] at h ⊢
   rcases h with ⟨a1,a2,a3,a4,a5⟩ | ⟨a1,a2,a3,a4,a5⟩
   ·rcases a5 with ⟨a5,a6⟩ | ⟨a5,a6⟩ <;> first | omega | (exact .inl ⟨a1,a2,by omega,by omega,.inl ⟨trivial,by omega⟩⟩)
   ·first | omega | (omega)
  cases T0 <;> first | exact wt h1 | (simp only [kE] at h1 ⊢; omega)
 case d3 =>
  refine ⟨?_,by omega,by simp only [cW,Cn.zero,Cn.jy] at q3; unfold Cn.jy at h3 ⊢; omega⟩
  simp only [cW,Cn.zero] at cG cH cI e1 e2 e3
  clear q1 q2 q3 h2 h3 same hc hle
  have wt:kE c s .w3→kE c' { s with v:=0,w:=0 } .w3:=λ h=>by
   simp only [kE] at h ⊢
   rcases h with ⟨a1,a2,a3,a4,a5⟩ | ⟨a1,a2,a3,a4,a5⟩
   ·rcases a5 with ⟨a5,a6⟩ | ⟨a5,a6⟩ <;> first | omega | (exact .inr ⟨trivial,trivial,by omega,by omega,by omega⟩)
   ·first | omega | (omega)
  cases T0 <;> first | exact wt h1 | (simp only [kE] at h1 ⊢; omega)
 case d4 =>
  refine ⟨?_,by omega,by simp only [cW,Cn.zero,Cn.jy] at q3; unfold Cn.jy at h3 ⊢; omega⟩
  simp only [cW,Cn.zero] at cG cH cI e1 e2 e3
  clear q1 q2 q3 h2 h3 same hc hle
  have wt:kE c s .w3→kE c' { s with ws:=s.ws+1 } .w3:=λ h=>by
   simp only [kE] at h ⊢
   rcases h with ⟨a1,a2,a3,a4,a5⟩ | ⟨a1,a2,a3,a4,a5⟩
   ·rcases a5 with ⟨a5,a6⟩ | ⟨a5,a6⟩ <;> first | omega | (omega)
   ·first | omega | (exact .inr ⟨a1,a2,by omega,by omega,by omega⟩)
  cases T0 <;> first | exact wt h1 | (simp only [kE] at h1 ⊢; omega)
 case r0=>refine same ?_ ?_ ?_ rfl rfl rfl <;> simp only [rH] <;> rfl
 case r1=>refine same ?_ ?_ ?_ rfl rfl rfl <;> simp only [rH] <;> rfl
 case r3=>refine same ?_ ?_ ?_ rfl rfl rfl <;> simp only [rH] <;> rfl
 case xN=>refine same ?_ ?_ ?_ rfl rfl rfl <;> simp only [rH] <;> rfl
 case x8=>refine same ?_ ?_ ?_ rfl rfl rfl <;> simp only [QO] <;> rfl
 case wo c0 hm hq=>refine same ?_ ?_ ?_ rfl rfl rfl <;> cases c0.ws <;> rfl
 case s1 c0 m hm=>refine same ?_ ?_ ?_ rfl rfl rfl <;> cases c0.sv <;> rfl
 case J2 c0 hm=>refine same ?_ ?_ ?_ rfl rfl rfl <;> cases (c0.sv && s.mu.n != 1) <;> rfl
 case a1 b=>refine same ?_ ?_ ?_ rfl rfl rfl <;> cases b <;> rfl
 case x9 a b=>refine same ?_ ?_ ?_ rfl rfl rfl <;> simp only [hu] <;> split <;> rfl
 case ux=>refine same ?_ ?_ ?_ rfl rfl rfl <;> simp only [hu] <;> split <;> rfl
 all_goals exact same rfl rfl rfl rfl rfl rfl
theorem nW.main(h:nW N T0 c s)(dk:gg T0 s iC s'):nW N iC c s':=by
 obtain ⟨h1,h2,h3⟩:=h
 cases dk
 case afQ =>
  obtain ⟨a1,a2,a3,a4,a5,a6⟩:=h1
  exact ⟨.inl ⟨rfl,a3,a5,a1,.inr ⟨by dsimp only; omega,a4⟩⟩,h2,by simp only [rem] at h3 ⊢; omega⟩
 case wV=>exact ⟨h1,h2,h3⟩
 case wW=>exact ⟨h1,h2,h3⟩
 all_goals refine ⟨?_,h2,?_⟩ <;> simp only [kE,rem] at h1 h3 ⊢ <;> omega
theorem db.main(h:db N c s)(dk:gg T0 s iC s'):db N c s':=by
 obtain ⟨h1,h2,h3,h4,h5,h6,h8,h9,Ho,Hp⟩:=h
 cases dk <;> exact ⟨h1,h2,h3,h4,h5,h6,h8,h9,Ho,Hp⟩
theorem nW.spawn{r:Nat}(h:nW N (.go r) c s)(hc:c.yH Cn.zero (cW .ld) c'):nW N (kq r) c' s:=by
 obtain ⟨h1,h2,h3⟩:=h
 have q1:=QN .ld
 have q3:=hc.jy
 have cG:=hc.lv
 have cH:=hc.dw
 have cI:=hc.d4
 cases r <;> refine ⟨?_,?_,?_⟩ <;> simp only [kE,rem,kq,cW,Cn.busy,Cn.zero,Cn.jy] at * <;> omega
theorem db.spawn{r:Nat}(h:db N c s)(hg:nW N (.go r) c s)(hc:c.yH Cn.zero (cW .ld) c'):db N c' s:=by
 have hle:=hg.le
 obtain ⟨h1,h2,h3,h4,h5,h6,h8,h9,Ho,Hp⟩:=h
 obtain ⟨g1,g2,g3,g4,g5,g6,g7,g8,g9,cV,cG,cH,cI⟩:=hc
 simp only [cW,Cn.busy,Cn.zero,Cn.jy,rem] at *
 constructor <;> omega
end
def hU:Lp→Nat
 | .ld | .l0 | .r0=>9
 | .sq c | .c1 c | .r1 c | .c2 c | .r3 c=>if c.aw then 8 else 9
 | .t1 _ | .s1 _=>6
 | .t2 _ | .r2 _ | .a1 _=>8
 | .le | .lc | .la | .ul _ | .uv _ | .ur _=>5
 | .ud | .u0=>16
 | .uc _ | .ux=>15
 | .us=>14
 | .ue=>10
 | .wv | .wr | .wk | .d1=>8
 | .d2 | .d3=>6
 | .d4=>5
 | .quit=>0
def jX(m:Wd):Lp→Nat
 | .ld=>31
 | .l0=>30
 | .r0=>29
 | .sq c=>(4 - c.it) * 5+(if c.old=m then 0 else 5)+3
 | .c1 c=>(4 - c.it) * 5+(if c.old=m then 0 else 5)+2
 | .r1 c=>(4 - c.it) * 5+1
 | .c2 c=>(4 - c.it) * 5+(if c.old=m then 0 else 5)+1
 | .r3 c=>(4 - c.it) * 5+5
 | .t1 _=>2
 | .s1 _=>1
 | .t2 _=>25
 | .r2 _=>24
 | .le=>5
 | .lc=>4
 | .la=>3
 | .ul _=>2
 | .uv _=>1
 | .ud=>1
 | .uc o=>if o=m then 0 else 3
 | .ux=>2
 | .wv=>3
 | .wr=>2
 | .wk=>1
 | .d2=>1
 | _=>0
def gv:Lp→Bool
 | .ur _=>true
 | _=>false
theorem aDc(m:Wd)(T:Lp):jX m T≤31:=by
 cases T <;> simp only [jX] <;> (try split) <;> omega
theorem Oe(c:Lc):hU (hd c)=if c.aw then 8 else 9:=by unfold hd; split <;> rfl
theorem N5{c:Lc}{m:Wd}(h:c.old=m):jX m (hd c)≤(4 - c.it) * 5+3:=by unfold hd; split <;> simp only [jX,h,if_true] <;> omega
theorem dc.L4{N:Nat}{s s':Sh}{T T':Lp}(hT:pZ N T)(dk:dc T s T' s') :
  hU T'+3 * s'.ms+3 * s'.ws < hU T+3 * s.ms+3 * s.ws+(if gv T then 20 else 0) ∨
  (hU T'+3 * s'.ms+3 * s'.ws=hU T+3 * s.ms+3 * s.ws∧gv T=false∧s'.mu=s.mu∧s'.v=s.v∧jX s.mu T' < jX s.mu T):=by
 cases dk
 case r0=>right; have:=N5 (c:=⟨s.mu,false,false,0,false⟩) (m:=s.mu) rfl; rw [Oe]; generalize jX s.mu (hd _)=x at this ⊢; exact ⟨rfl,rfl,rfl,rfl,by simp only [jX]; simp only at this; omega⟩
 case Ob c=>right; simp [hU,jX,gv]
 case x8 c h=>right; unfold jb; split <;> simp [hU,jX,gv]; omega
 case Qy c h=>left; obtain ⟨_,_,_,t4,_⟩:=hT; simp [hU,t4,gv]
 case Qx c h=>right; simp [hU,jX,gv,Ne.symm h]
 case r1 c =>
  right; obtain ⟨_,t2,_⟩:=hT
  have:=N5 (c:={ c with old:=s.mu,it:=c.it+1 }) (m:=s.mu) rfl
  rw [Oe]; generalize jX s.mu (hd _)=x at this ⊢; exact ⟨rfl,rfl,rfl,rfl,by simp only [jX]; simp only at this; omega⟩
 case QC c h _ _=>left; simp only [hU,gv]; split <;> simp
 case wo c h _=>left; simp only [gv]; cases c.ws <;> cases hb:c.aw <;> simp [hU,hb]
 case QD c h=>right; simp [hU,jX,gv,Ne.symm h]
 case r3 c =>
  right
  have:=N5 (c:={ c with old:=s.mu }) (m:=s.mu) rfl
  rw [Oe]; generalize jX s.mu (hd _)=x at this ⊢; exact ⟨rfl,rfl,rfl,rfl,by simp only [jX]; simp only at this; omega⟩
 case t1 c b=>right; simp [hU,jX,gv]
 case s1 c m h=>left; cases c.sv <;> simp [hU,gv,h] <;> omega
 case t2 c b=>right; simp [hU,jX,gv]
 case J2 c h=>right; simp [hU,jX,gv]
 case xN c h =>
  right
  have:=N5 (c:={ c with old:=s.mu,aw:=true,it:=0 }) (m:=s.mu) rfl
  rw [Oe]; generalize jX s.mu (hd _)=x at this ⊢; exact ⟨rfl,rfl,rfl,rfl,by simp only [jX]; simp only at this; omega⟩
 case x9 a b=>left; unfold hu; split <;> simp [hU,gv]
 case Xu m h=>right; simp [hU,jX,gv,Ne.symm h]
 case ux=>unfold hu; split <;> simp [hU,jX,gv]
 case us=>left; simp [hU,gv]; omega
 case d4=>left; simp [hU,gv]; omega
 case ur=>left; simp [hU,gv]; omega
 all_goals simp [hU,jX,gv]
def stM(J:Nat):Mp→Nat
 | .ka r | .kc r=>(r+1) * (20 * J+20)+15
 | .kv r | .kd r | .ke r | .go r=>(r+1) * (20 * J+20)+14
 | .wa | .w1 | .w2 _=>10
 | .wV | .wW | .w3=>8
 | .w4 | .we | .qv | .wq=>6
 | .fin=>0
def zV(v:Nat):Mp→Nat
 | .ka _=>1
 | .kv _=>3
 | .kd _=>2
 | .ke _=>1
 | .wa=>6
 | .w1=>4
 | .w2 u=>if u=v then 1 else 5
 | .wV=>2
 | .wW=>1
 | .w4=>3
 | .we=>2
 | .qv=>1
 | _=>0
theorem aDb(v:Nat)(T:Mp):zV v T≤31:=by
 cases T <;> simp only [zV] <;> (try split) <;> omega
theorem gg.L4{J:Nat}{s s':Sh}{T T':Mp}(dk:gg T s T' s') :
  stM J T'+3 * s'.ms+3 * s'.ws < stM J T+3 * s.ms+3 * s.ws ∨
  (stM J T'+3 * s'.ms+3 * s'.ws=stM J T+3 * s.ms+3 * s.ws∧s'.mu=s.mu∧s'.v=s.v∧zV s.v T' < zV s.v T):=by
 cases dk
 case w1n h=>right; simp [stM,zV]
 case afP v h=>right; simp [stM,zV,Ne.symm h]
 case w3 m h=>left; simp [stM,h]; omega
 all_goals simp [stM,zV]
theorem aDF(J r:Nat):stM J (kq r)+(20 * J+hU .ld) < stM J (.go r):=by
 cases r with
 | zero=>simp [kq,stM,hU]; omega
 | succ r=>simp only [kq,stM,hU,Nat.add_mul]; omega
end Go.Lg
namespace Go.Lg
open Go.Conc Go.ConcN
def AA(P:Program)(K:Goroutine→Prop):Nat→Goroutine→Prop
 | 0,g=>K g
 | n+1,g=>K g∨(g.status = .running∧∃ g',(∀ w,stepG P false g w = .go g' w #[])∧AA P K n g')
structure Fx where
 P:Program
 B:Base
 bm:Nat
 bw:Nat
 bo:Nat
 tm:TypeId
 tw:TypeId
 N:Nat
 J:Nat
 cont:(Nat→Nat)→Obj
 ho:bm≠bw∧bm≠bo∧bw≠bo
 hJ:0 < J
 hN:N≤4
 mj:ax→an→Goroutine→Prop
def pa(tm:TypeId)(s:Sh):Obj:=.cells #[.int .i32 s.mu.val,.int .u32 (s.ms:Int)] tm (0,0)
def yp(s:Sh):Int:=4294967296 * s.v+s.w
def pq(tw:TypeId)(s:Sh):Obj:=.cells #[.int .u64 (yp s),.int .u32 (s.ws:Int)] tw (0,0)
variable (F:Fx)
structure fp (s:Sh) (w:World):Prop where
 m:w.heap[F.bm]? = some (pa F.tm s)
 g:w.heap[F.bw]? = some (pq F.tw s)
structure cb (s':Sh) (w w':World):Prop where
 size:w'.heap.size=w.heap.size
 same:∀ b,b≠F.bm→b≠F.bw→w'.heap[b]? = w.heap[b]?
 sh:fp F s' w'
 os:F.B.os w.os→F.B.os w'.os
 tape:w'.tape=w.tape
 out:w'.output=w.output
def am:Addr:=⟨F.bm,0,none⟩
def aw:Addr:=⟨F.bw,0,none⟩
def qg:Addr:=⟨F.bw,1,none⟩
def pA(es:Array Event):Prop:=(∀ e∈es,∃ a wr,e=⟨.cell a,wr,true⟩∧(a.block=F.bm∨a.block=F.bw))∨∃ a,(a.block=F.bm∨a.block=F.bw)∧es=semEvents a
def said(m:Mark):Array Event:=#[⟨.mark m,false,true⟩]
def D1:Lp→Array Event→Prop
 | .ld,es | .ud,es | .wk,es=>es=said .disable
 | .le,es | .ue,es=>es=said .enable
 | .la,es=>es=said (.acquire (am F))
 | .ur _,es=>es=said (.releaseMerge (am F))
 | .wr,es=>es=said (.releaseMerge (aw F))
 | _,es=>pA F es
def AV:Mp→Array Event→Prop
 | .ka _,es | .wa,es=>es=said .disable
 | .ke _,es | .we,es=>es=said .enable
 | .kd _,es=>es=said (.read (qg F))
 | .wW,es=>es=said (.write (qg F))
 | .wq,es=>es=said (.acquire (aw F))
 | _,es=>pA F es
def jU:Lp→Bool
 | .wk | .d1 | .d2 | .d3 | .d4=>true
 | _=>false
def ya(j:Nat):Lp→Lp→Prop
 | .ue,.ld=>j < F.J
 | .ue,.wv=>j=F.J
 | _,_=>True
def wi(K:Nat→Lp→ax→an→Goroutine→Prop)(k j:Nat)(T T':Lp)(R:ax)(H:an)(g':Goroutine):Prop :=
 match T' with
 | .quit=>∃ q,QuitsD F.P q 1 g'
 | .ul _=>∀ js,js k=j→Own F.P F.B false (K j (.ul js)) R ((F.bo,F.cont js)::H) g'
 | .ud=>∃ js H',T = .ur js∧H=(F.bo,F.cont (gb js k (j+1)))::H'∧Own F.P F.B false (K (j+1) .ud) R H' g'
 | T'=>if jU T' then ∃ q,AA F.P (K j T' R H) q g' else Own F.P F.B false (K j T') R H g'
def KW:Nat→Nat→Nat→Lp→ax→an→Goroutine→Prop
 | 0,_,_,_,_,_,_=>True
 | n+1,k,j,T,R,H,g=>pZ F.N T→g.status = .running∧g.offers=none∧((T = .us∨T = .d4)→mayWake F.P g=true) ∧
   ∀ w s,Fits F.B R H w→fp F s w→vI F.N T s→okW F.N T s →
    ((∃ c,T = .s1 c)∧s.ms=0∧stepG F.P false g w = .go { g with status:=.blocked } w #[]) ∨
    ∃ g' w' es T' s',dc T s T' s'∧ya F j T T'∧D1 F T es∧stepG F.P false g w = .go g' w' es∧cb F s' w w' ∧
     wi F (KW n k) k j T T' R H g'
def KM:Nat→Mp→ax→an→Goroutine→Prop
 | 0,_,_,_,_=>True
 | n+1,T,R,H,g=>g.status = .running∧g.offers=none ∧
   ∀ w s,Fits F.B R H w→fp F s w→ov F.N T s →
    match T with
    | .go r=>∃ g' child,stepG F.P true g w = .spawn g' child w #[]∧Own F.P F.B false (KW F n (F.N - (r+1)) 0 .ld) R [] child∧Own F.P F.B true (KM n (kq r)) R H g'
    | .wq=>∃ g' w',stepG F.P true g w = .go g' w' (said (.acquire (aw F)))∧cb F s w w'∧∀ js,(∀ k,k < F.N→js k=F.J)→F.mj R ((F.bo,F.cont js)::H) g'
    | T=>(T = .w3∧s.ws=0∧stepG F.P true g w = .go { g with status:=.blocked } w #[]) ∨
     ∃ g' w' es T' s',gg T s T' s'∧AV F T es∧stepG F.P true g w = .go g' w' es∧cb F s' w w'∧Own F.P F.B true (KM n T') R H g'
inductive Ab
 | no
 | wk (k j:Nat) (T:Lp)
 | mn (T:Mp)
def cA:Ab→Cn
 | .wk _ _ T=>cW T
 | _=>.zero
def cP:Ab→Nat
 | .no=>0
 | .wk _ j T=>20 * (F.J - j)+hU T
 | .mn T=>stM F.J T
def nN(s:Sh):Ab→Nat
 | .no=>0
 | .wk _ _ T=>jX s.mu T
 | .mn T=>zV s.v T
def ob:Lp→Nat
 | .ld | .lc | .la | .ul _ | .uv _ | .ur _ | .ud | .wv | .wr | .wk=>0
 | _=>1
def oO:Mp→Nat
 | .ka _ | .go _ | .wa | .qv | .wq | .fin=>0
 | _=>1
def cnt(D:Nat→Ab)(n:Nat):Cn where
 ow:=c8 n λ i=>(cA (D i)).ow
 hl:=c8 n λ i=>(cA (D i)).hl
 pu:=c8 n λ i=>(cA (D i)).pu
 pc:=c8 n λ i=>(cA (D i)).pc
 al:=c8 n λ i=>(cA (D i)).al
 z:=c8 n λ i=>(cA (D i)).z
 a1:=c8 n λ i=>(cA (D i)).a1
 ak:=c8 n λ i=>(cA (D i)).ak
 ux:=c8 n λ i=>(cA (D i)).ux
 wk:=c8 n λ i=>(cA (D i)).wk
 lv:=c8 n λ i=>(cA (D i)).lv
 dw:=c8 n λ i=>(cA (D i)).dw
 d4:=c8 n λ i=>(cA (D i)).d4
def cq(D:Nat→Ab)(i:Nat)(x:Ab):Nat→Ab:=λ j=>if j=i then x else D j
def mc(D:Nat→Ms)(i:Nat)(x:Ms):Nat→Ms:=λ j=>if j=i then x else D j
def MM(Q:Nat)(D:Nat→Ab)(s:Sh)(n:Nat):Nat:=(c8 n (λ i=>cP F (D i))+3 * s.ms+3 * s.ws) * Q+c8 n (λ i=>nN s (D i))
def CB(j:Nat):Lp→Prop
 | .ud | .u0 | .uc _ | .ux | .us | .ue=>j≤F.J
 | .wv | .wr | .wk | .d1 | .d2 | .d3 | .d4=>j=F.J
 | .quit=>False
 | _=>j < F.J
def zP(js:Nat→Nat):Lp→Prop
 | .ul j | .uv j | .ur j=>j=js
 | _=>True
def gu(s:Sh)(js:Nat→Nat)(hl:Nat):an:=(F.bm,pa F.tm s)::(F.bw,pq F.tw s)::(if hl=0 then [(F.bo,F.cont js)] else [])
def pN(hl:Nat):Option Nat:=if hl=0 then some F.bo else none
def GF(K:Goroutine→Prop)(z:Prop)(g:Goroutine):Prop:=∃ g0,K g0∧g0.status = .running∧g0.offers=none∧(g=g0∨(g={ g0 with status:=.blocked }∧z))
def pB(μ:Nat)(s:Sh)(i:Nat)(m:Ms)(x:Option Th)(mu:Bool)(d:Nat)(g:Goroutine):Ab→Prop
 | .no=>x=none∧0 < i∧∃ q,m=some (qN q)∧QuitsD F.P q d g
 | .wk k j T=>0 < i∧d=ob T∧mu=jU T∧∃ y n,x=some y∧μ≤n ∧
   if jU T then ∃ q,m=some (qN q)∧AA F.P (KW F n k j T y.R y.H) q g
   else (∃ Tr,m=some Tr∧Az F.P F.B false (KW F n k j T) Tr y.R y.H g)∨(m=none∧(∃ c,T = .s1 c)∧GF (KW F n k j T y.R y.H) (s.ms=0) g)
 | .mn T=>i=0∧d=oO T∧mu=false∧∃ y n,x=some y∧μ≤n ∧
   ((∃ Tr,m=some Tr∧Az F.P F.B true (KM F n T) Tr y.R y.H g)∨(m=none∧T = .w3∧GF (KM F n T y.R y.H) (s.ws=0) g))
structure Bk (Q:Nat) (T0:Mp) (D:Nat→Ab) (js:Nat→Nat) (s:Sh) (n:Nat):Prop where
 d0:D 0 = .mn T0
 nf:T0 ≠ .fin
 pos:0 < n
 out:∀ i,n≤i→D i = .no
 main:∀ i T,D i = .mn T→i=0
 rC:db F.N (cnt D n) s
 aig:nW F.N T0 (cnt D n) s
 mJ:∀ i k j T,D i = .wk k j T→pZ F.N T∧CB F j T∧zP js T∧js k=j∧k+rem T0 < F.N
 qM:∀ i i' k j j' T T',D i = .wk k j T→D i' = .wk k j' T'→i=i'
 done:∀ k,k+rem T0 < F.N→js k=F.J∨∃ i j T,D i = .wk k j T
 Ny:∀ k,F.N≤k+rem T0→js k=0
 G2:31 * (n+rem T0) < Q
structure MI (Q:Nat) (T0:Mp) (D:Nat→Ab) (m:Nat→Ms) (js:Nat→Nat) (s:Sh) (th:Nat→Option Th) (mu:Nat→Bool) (dd:Nat→Nat) (gs:Array Goroutine) (w:World) (t:Trace):Prop where
 mem:fb F.B th (gu F s js (cnt D gs.size).hl) w
 tr:cS (some (am F)) (some (aw F)) th mu dd [F.bm,F.bw] (pN F (cnt D gs.size).hl) w.heap.size t
 vQ:∀ i g,gs[i]? = some g→pB F (MM F Q D s gs.size) s i (m i) (th i) (mu i) (dd i) g (D i)
 out:∀ i,gs.size≤i→th i=none∧mu i=false∧dd i=0
 bk:Bk F Q T0 D js s gs.size
end Go.Lg
namespace Go.Lg
open Go.Conc Go.ConcN
theorem jz(D:Nat→Ab)(i:Nat)(x:Ab):cq D i x i=x:=by simp [cq]
theorem ft{D:Nat→Ab}{i j:Nat}{x:Ab}(h:j≠i):cq D i x j=D j:=by simp [cq,h]
theorem Kb(D:Nat→Ms)(i:Nat)(x:Ms):mc D i x i=x:=by simp [mc]
theorem F0{D:Nat→Ms}{i j:Nat}{x:Ms}(h:j≠i):mc D i x j=D j:=by simp [mc,h]
theorem C0{th:Nat→Option Th}{i:Nat}{x:Option Th}(h:th i=x):fN th i x=th:=by
 funext j; unfold fN; split
 ·rename_i e; subst e; exact h.symm
 ·rfl
theorem Xq{f:Nat→Nat}{i:Nat}:∀ {n:Nat},i < n→f i≤c8 n f
 | n+1,h=>by
  simp only [c8]
  rcases Nat.lt_or_ge i n with bE | ti
  ·have:=Xq (f:=f) bE; omega
  ·obtain rfl:i=n:=by omega
   omega
theorem Oi{f:Nat→Nat}{b:Nat}(h:∀ i,f i≤b):∀ n,c8 n f≤b * n
 | 0=>by simp [c8]
 | n+1=>by have:=Oi h n; have:=h n; simp only [c8,Nat.mul_succ]; omega
theorem uM{D:Nat→Ab}{i n:Nat}(hi:i < n)(x:Ab):(cnt D n).yH (cA (D i)) (cA x) (cnt (cq D i x) n):=by
 have key:∀ f:Cn→Nat,c8 n (λ j=>f (cA (cq D i x j)))+f (cA (D i))=c8 n (λ j=>f (cA (D j)))+f (cA x):=λ f=>by
  have:=CW (f:=λ j=>f (cA (D j))) (g:=λ j=>f (cA (cq D i x j))) hi (λ k hk=>by simp only [ft hk])
  simpa only [jz] using this
 exact ⟨key _,key _,key _,key _,key _,key _,key _,key _,key _,key _,key _,key _,key _⟩
theorem wx{D:Nat→Ab}{i n:Nat}(hi:i < n):(cA (D i)).Le (cnt D n):=by
 have key:∀ f:Cn→Nat,f (cA (D i))≤c8 n (λ j=>f (cA (D j))):=λ f=>Xq (f:=λ j=>f (cA (D j))) hi
 exact ⟨key _,key _,key _,key _,key _,key _,key _,key _,key _,key _,key _,key _,key _⟩
theorem aag{D:Nat→Ab}{n:Nat}(hn:0 < n)(x:Ab)(y:Ab)(hx:cA x = .zero)(h0:cA (D 0) = .zero):(cnt D n).yH .zero (cA y) (cnt (cq (cq D n y) 0 x) (n+1)):=by
 have key:∀ f:Cn→Nat,f .zero=0→c8 (n+1) (λ j=>f (cA (cq (cq D n y) 0 x j)))+f .zero=c8 n (λ j=>f (cA (D j)))+f (cA y):=λ f hf=>by
  simp only [c8]
  rw [ft (show n≠0 by omega),jz,hf]
  have:c8 n (λ j=>f (cA (cq (cq D n y) 0 x j)))=c8 n (λ j=>f (cA (D j))):=Ka λ j hj=>by
   by_cases h:j=0
   ·subst h; rw [jz,hx,h0]
   ·rw [ft h,ft (by omega)]
  omega
 exact ⟨key _ rfl,key _ rfl,key _ rfl,key _ rfl,key _ rfl,key _ rfl,key _ rfl,key _ rfl,key _ rfl,key _ rfl,key _ rfl,key _ rfl,key _ rfl⟩
section
variable {F:Fx} {D:Nat→Ab} {s s':Sh} {n i Q:Nat} {x:Ab}
theorem aeA(s:Sh)(a:Ab):nN s a≤31:=by
 cases a
 ·exact Nat.zero_le _
 ·exact aDc _ _
 ·exact aDb _ _
theorem KT(hi:i < n)(hQ:31 * n < Q)
  (h:cP F x+3 * s'.ms+3 * s'.ws < cP F (D i)+3 * s.ms+3 * s.ws∨(cP F x+3 * s'.ms+3 * s'.ws=cP F (D i)+3 * s.ms+3 * s.ws∧s'.mu=s.mu∧s'.v=s.v∧nN s x < nN s (D i))) :
  MM F Q (cq D i x) s' n < MM F Q D s n:=by
 have h1:=CW (f:=λ j=>cP F (D j)) (g:=λ j=>cP F (cq D i x j)) hi (λ k hk=>by simp only [ft hk])
 simp only [jz] at h1
 unfold MM
 rcases h with h | ⟨h,hm,hv,hr⟩
 ·have h2:c8 n (λ j=>nN s' (cq D i x j))≤31 * n:=Oi (λ j=>aeA s' _) n
  generalize c8 n (λ j=>cP F (cq D i x j))=a' at *
  generalize c8 n (λ j=>cP F (D j))=a at *
  generalize c8 n (λ j=>nN s' (cq D i x j))=r' at *
  have h3:a'+3 * s'.ms+3 * s'.ws+1≤a+3 * s.ms+3 * s.ws:=by omega
  have h4:=Nat.mul_le_mul_right Q h3
  rw [Nat.add_mul _ 1 Q,Nat.one_mul] at h4
  omega
 ·have er:∀ a,nN s' a=nN s a:=λ a=>by cases a <;> simp [nN,hm,hv]
  have h2:=CW (f:=λ j=>nN s (D j)) (g:=λ j=>nN s (cq D i x j)) hi (λ k hk=>by simp only [ft hk])
  simp only [jz] at h2
  have e:(λ j=>nN s' (cq D i x j))=λ j=>nN s (cq D i x j):=by funext j; exact er _
  rw [e]
  have e2:c8 n (λ j=>cP F (cq D i x j))+3 * s'.ms+3 * s'.ws=c8 n (λ j=>cP F (D j))+3 * s.ms+3 * s.ws:=by omega
  rw [e2]
  omega
theorem aht{y:Ab}(hn:0 < n)(hQ:31 * (n+1) < Q)(h:cP F x+cP F y < cP F (D 0)):MM F Q (cq (cq D n y) 0 x) s (n+1) < MM F Q D s n:=by
 have h1:=CW (f:=λ k=>cP F (D k)) (g:=λ k=>cP F (cq D 0 x k)) hn (λ k hk=>by simp only [ft hk])
 have h2:c8 (n+1) (λ k=>cP F (cq (cq D n y) 0 x k))=c8 n (λ k=>cP F (cq D 0 x k))+cP F y:=by
  simp only [c8]
  rw [ft (show n≠0 by omega),jz]
  congr 1
  exact Ka λ k hk=>by
   by_cases h0:k=0
   ·subst h0; rw [jz,jz]
   ·rw [ft h0,ft h0,ft (by omega)]
 simp only [jz] at h1
 have h3:c8 (n+1) (λ j=>nN s (cq (cq D n y) 0 x j))≤31 * (n+1):=Oi (λ j=>aeA s _) _
 unfold MM
 rw [h2]
 generalize c8 n (λ j=>cP F (cq D 0 x j))=a' at *
 generalize c8 n (λ j=>cP F (D j))=a at *
 generalize c8 (n+1) (λ j=>nN s (cq (cq D n y) 0 x j))=r' at *
 have h4:a'+cP F y+3 * s.ms+3 * s.ws+1≤a+3 * s.ms+3 * s.ws:=by omega
 have h5:=Nat.mul_le_mul_right Q h4
 rw [Nat.add_mul _ 1 Q,Nat.one_mul] at h5
 omega
theorem ahs(hi:i < n)(hQ:0 < Q)(h:0 < cP F (D i)):0 < MM F Q D s n:=by
 have:=Xq (f:=λ j=>cP F (D j)) hi
 unfold MM
 have h2:0 < (c8 n (λ j=>cP F (D j))+3 * s.ms+3 * s.ws) * Q:=Nat.mul_pos (by omega) hQ
 omega
end
section
variable {F:Fx} {B:Base} {th:Nat→Option Th} {s s':Sh} {js:Nat→Nat} {hl:Nat} {w w':World}
theorem yQ(F:Fx)(s:Sh)(js:Nat→Nat)(hl:Nat):(F.bm,pa F.tm s)∈gu F s js hl:=by simp [gu]
theorem yR(F:Fx)(s:Sh)(js:Nat→Nat)(hl:Nat):(F.bw,pq F.tw s)∈gu F s js hl:=by simp [gu]
theorem G9(F:Fx)(s:Sh)(js:Nat→Nat)(hl:Nat):∀ b,b∈[F.bm,F.bw]→∃ o,(b,o)∈gu F s js hl:=λ b hb=>by
 simp only [List.mem_cons,List.not_mem_nil,or_false] at hb
 rcases hb with rfl | rfl
 ·exact ⟨_,yQ F s js hl⟩
 ·exact ⟨_,yR F s js hl⟩
theorem G8(F:Fx)(s:Sh)(js:Nat→Nat)(hl:Nat):∀ b,pN F hl=some b→(∃ o,(b,o)∈gu F s js hl)∧b ∉ [F.bm,F.bw]:=λ b hb=>by
 unfold pN at hb
 split at hb
 ·cases hb
  rename_i h
  refine ⟨⟨F.cont js,by simp [gu,h]⟩,?_⟩
  have:=F.ho
  simp only [List.mem_cons,List.not_mem_nil,or_false,not_or]
  exact ⟨λ e=>this.2.1 e.symm,λ e=>this.2.2 e.symm⟩
 ·cases hb
theorem Cx{b:Nat}{o:Obj}(h:(b,o)∈gu F s js hl):(b=F.bm∧o=pa F.tm s)∨(b=F.bw∧o=pq F.tw s)∨(b=F.bo∧o=F.cont js∧hl=0):=by
 unfold gu at h
 simp only [List.mem_cons,Prod.mk.injEq] at h
 rcases h with h | h | h
 ·exact .inl h
 ·exact .inr (.inl h)
 ·split at h
  ·simp only [List.mem_cons,Prod.mk.injEq,List.not_mem_nil,or_false] at h
   exact .inr (.inr ⟨h.1,h.2,‹_›⟩)
  ·cases h
theorem PK(h:fb B th (gu F s js hl) w):fp F s w:=⟨h.ny _ _ (yQ F s js hl),h.ny _ _ (yR F s js hl)⟩
theorem fb.put(h:fb F.B th (gu F s js hl) w)(hp:cb F s' w w'):fb F.B th (gu F s' js hl) w':=by
 have ne:∀ b,(∃ j x,th j=some x∧((∃ o,x.R b=some o)∨∃ o,(b,o)∈x.H))→w'.heap[b]? = w.heap[b]? := by
  rintro b ⟨j,x,hx,hb⟩
  have h1:=h.lU _ _ (yQ F s js hl) j x hx
  have h2:=h.lU _ _ (yR F s js hl) j x hx
  refine hp.same b (λ e=>?_) (λ e=>?_) <;> subst e
  ·rcases hb with ⟨o,ho⟩ | ⟨o,ho⟩
   ·exact nn h1.1 ho
   ·exact h1.2 o ho
  ·rcases hb with ⟨o,ho⟩ | ⟨o,ho⟩
   ·exact nn h2.1 ho
   ·exact h2.2 o ho
 refine ⟨λ j x hx=>?_,h.apart,λ b o hb=>?_,λ b o hb j x hx=>?_⟩
 ·have hf:=h.fits j x hx
  exact ⟨λ b o hb=>by rw [ne b ⟨j,x,hx,.inl ⟨o,hb⟩⟩]; exact hf.r b o hb,λ b o hb=>by rw [ne b ⟨j,x,hx,.inr ⟨o,hb⟩⟩]; exact hf.h b o hb,hf.nd,hf.dj,hp.os hf.os,hp.tape.trans hf.tape,hp.out.trans hf.out⟩
 ·rcases Cx hb with ⟨rfl,rfl⟩ | ⟨rfl,rfl⟩ | ⟨rfl,rfl,hz⟩
  ·exact hp.sh.m
  ·exact hp.sh.g
  ·rw [hp.same _ (λ e=>F.ho.2.1 e.symm) (λ e=>F.ho.2.2 e.symm)]
   exact h.ny _ _ (by simp [gu,hz])
 ·rcases Cx hb with ⟨rfl,rfl⟩ | ⟨rfl,rfl⟩ | ⟨rfl,rfl,hz⟩
  ·exact h.lU _ _ (yQ F s js hl) j x hx
  ·exact h.lU _ _ (yR F s js hl) j x hx
  ·exact h.lU F.bo (F.cont js) (by simp [gu,hz]) j x hx
theorem fb.take{i hl':Nat}{R:ax}{H:an}(h:fb B th (gu F s js 0) w)(hi:th i=some ⟨R,H⟩)(hz:hl'≠0):fb B (fN th i (some ⟨R,(F.bo,F.cont js)::H⟩)) (gu F s js hl') w:=by
 have Bb:(F.bo,F.cont js)∈gu F s js 0:=by simp [gu]
 have hf:=h.fits i _ hi
 have lY:=h.lU _ _ Bb
 have sub:∀ {b o},(b,o)∈gu F s js hl'→(b,o)∈gu F s js 0∧b≠F.bo:=λ {b o} hb=>by
  rcases Cx hb with ⟨rfl,rfl⟩ | ⟨rfl,rfl⟩ | ⟨rfl,rfl,hx⟩
  ·exact ⟨yQ F s js 0,F.ho.2.1⟩
  ·exact ⟨yR F s js 0,F.ho.2.2⟩
  ·exact absurd hx hz
 refine ⟨λ j x hx=>?_,λ j k x y na hx hy b o hb=>?_,λ b o hb=>h.ny b o (sub hb).1,λ b o hb j x hx=>?_⟩
 ·by_cases hj:j=i
  ·subst hj; rw [eY] at hx; cases hx
   refine ⟨hf.r,λ b o hb=>?_,?_,λ b o hb=>?_,hf.os,hf.tape,hf.out⟩
   ·rcases List.mem_cons.1 hb with e | hb
    ·cases e; exact h.ny _ _ Bb
    ·exact hf.h b o hb
   ·rw [List.map_cons,List.nodup_cons]
    refine ⟨λ hm=>?_,hf.nd⟩
    obtain ⟨p,hp,he⟩:=List.mem_map.1 hm
    obtain ⟨b,o⟩:=p
    simp only at he
    subst he
    exact (lY j _ hi).2 o hp
   ·rcases List.mem_cons.1 hb with e | hb
    ·cases e; exact (lY j _ hi).1
    ·exact hf.dj b o hb
  ·rw [eA hj] at hx; exact h.fits j x hx
 ·by_cases hj:j=i
  ·subst hj; rw [eY] at hx; cases hx
   rw [eA (Ne.symm na)] at hy
   rcases List.mem_cons.1 hb with e | hb
   ·cases e; exact lY k y hy
   ·exact h.apart j k _ _ na hi hy b o hb
  ·rw [eA hj] at hx
   by_cases hk:k=i
   ·subst hk; rw [eY] at hy; cases hy
    have:=h.apart j k _ _ na hx hi b o hb
    refine ⟨this.1,λ o' eR=>?_⟩
    rcases List.mem_cons.1 eR with e | eR
    ·cases e; exact (lY j x hx).2 o hb
    ·exact this.2 o' eR
   ·rw [eA hk] at hy; exact h.apart j k x y na hx hy b o hb
 ·by_cases hj:j=i
  ·subst hj; rw [eY] at hx; cases hx
   have:=h.lU b o (sub hb).1 j _ hi
   refine ⟨this.1,λ o' eR=>?_⟩
   rcases List.mem_cons.1 eR with e | eR
   ·cases e; exact (sub hb).2 rfl
   ·exact this.2 o' eR
  ·rw [eA hj] at hx; exact h.lU b o (sub hb).1 j x hx
theorem fb.am1{i:Nat}{R:ax}{H:an}{iq:Nat→Nat}(h:fb B th (gu F s js hl) w)(_:hl≠0)(hi:th i=some ⟨R,(F.bo,F.cont iq)::H⟩):fb B (fN th i (some ⟨R,H⟩)) (gu F s iq 0) w:=by
 have hf:=h.fits i _ hi
 have dL:=hf.nd
 rw [List.map_cons,List.nodup_cons] at dL
 have Bi:∀ o,(F.bo,o) ∉ H:=λ o ho=>dL.1 (List.mem_map.2 ⟨_,ho,rfl⟩)
 have key:∀ j x,fN th i (some ⟨R,H⟩) j=some x→∃ y,th j=some y∧x.R=y.R∧(∀ p,p∈x.H→p∈y.H):=λ j x hx=>by
  by_cases hj:j=i
  ·subst hj; rw [eY] at hx; cases hx
   exact ⟨_,hi,rfl,λ p hp=>List.mem_cons_of_mem _ hp⟩
  ·rw [eA hj] at hx; exact ⟨x,hx,rfl,λ p hp=>hp⟩
 refine ⟨λ j x hx=>?_,λ j k x y na hx hy b o hb=>?_,λ b o hb=>?_,λ b o hb j x hx=>?_⟩
 ·by_cases hj:j=i
  ·subst hj; rw [eY] at hx; cases hx
   exact ⟨hf.r,λ b o hb=>hf.h b o (List.mem_cons_of_mem _ hb),dL.2,λ b o hb=>hf.dj b o (List.mem_cons_of_mem _ hb),hf.os,hf.tape,hf.out⟩
  ·rw [eA hj] at hx; exact h.fits j x hx
 ·obtain ⟨x',zn,e1,e2⟩:=key j x hx
  obtain ⟨y',rR,e3,e4⟩:=key k y hy
  have:=h.apart j k x' y' na zn rR b o (e2 _ hb)
  exact ⟨by rw [e3]; exact this.1,λ o' eR=>this.2 o' (e4 _ eR)⟩
 ·rcases Cx hb with ⟨rfl,rfl⟩ | ⟨rfl,rfl⟩ | ⟨rfl,rfl,_⟩
  ·exact h.ny _ _ (yQ F s js hl)
  ·exact h.ny _ _ (yR F s js hl)
  ·exact hf.h _ _ (by simp)
 ·obtain ⟨x',zn,e1,e2⟩:=key j x hx
  rcases Cx hb with ⟨rfl,rfl⟩ | ⟨rfl,rfl⟩ | ⟨rfl,rfl,_⟩
  ·have:=h.lU _ _ (yQ F s js hl) j x' zn
   exact ⟨by rw [e1]; exact this.1,λ o' eR=>this.2 o' (e2 _ eR)⟩
  ·have:=h.lU _ _ (yR F s js hl) j x' zn
   exact ⟨by rw [e1]; exact this.1,λ o' eR=>this.2 o' (e2 _ eR)⟩
  ·by_cases hj:j=i
   ·subst hj; rw [eY] at hx; cases hx
    exact ⟨hf.dj F.bo (F.cont iq) (by simp),Bi⟩
   ·rw [eA hj] at hx
    have:=h.apart i j _ _ (Ne.symm hj) hi hx F.bo (F.cont iq) (by simp)
    exact this
end
end Go.Lg
namespace Go.Lg
open Go.Conc Go.ConcN
theorem NC{F:Fx}{j:Nat}(c:Lc):CB F j (hd c)↔j < F.J:=by unfold hd; split <;> exact Iff.rfl
theorem aBM{F:Fx}{j:Nat}(c:Lc):CB F j (jb c)↔j < F.J:=by unfold jb; split <;> exact Iff.rfl
theorem adW{F:Fx}{j:Nat}(m:Wd):CB F j (hu m)↔j≤F.J:=by unfold hu; split <;> exact Iff.rfl
section
variable {F:Fx} {Q:Nat} {T0 iC:Mp} {D:Nat→Ab} {js:Nat→Nat} {s s':Sh} {n i k j:Nat} {T T':Lp}
theorem aBN(h:CB F j T)(dk:dc T s T' s')(zl:ya F j T T')(hu:gv T=false)(hq:T' ≠ .quit):CB F j T':=by
 cases dk
 case ur=>cases hu
 case r0=>exact (NC _).2 h
 case r1=>exact (NC _).2 h
 case r3=>exact (NC _).2 h
 case xN=>exact (NC _).2 h
 case x8=>exact (aBM _).2 h
 case wo c _ _=>cases c.ws <;> exact h
 case s1 c _ _=>cases c.sv <;> exact h
 case x9=>exact (adW _).2 h
 case ux=>exact (adW _).2 h
 case Ol=>exact zl
 case Om=>exact zl
 case Hg=>exact absurd rfl hq
 case d4=>exact absurd rfl hq
 all_goals exact h
theorem NB{js:Nat→Nat}(c:Lc):zP js (hd c):=by unfold hd; split <;> trivial
theorem aBL{js:Nat→Nat}(c:Lc):zP js (jb c):=by unfold jb; split <;> trivial
theorem adV{js:Nat→Nat}(m:Wd):zP js (hu m):=by unfold hu; split <;> trivial
theorem Bk.J1(h:Bk F Q T0 D js s n):31 * n < Q:=by have:=h.G2; omega
theorem aDZ{J:Nat}{T:Mp}(h:T ≠ .fin):0 < stM J T:=by cases T <;> simp only [stM] <;> first | omega | exact absurd rfl h
theorem Bk.r7(h:Bk F Q T0 D js s n):0 < MM F Q D s n:=ahs h.pos (by have:=h.J1; omega) (by rw [h.d0]; exact aDZ h.nf)
theorem Bk.sB(h:Bk F Q T0 D js s n)(hd:D i = .wk k j T)(hi:i < n)(dk:dc T s T' s'){x:Ab}{iq:Nat→Nat}(hx:cA x=cW T')(hxm:∀ T,x ≠ .mn T)(hxw:∀ k' j' T1,x = .wk k' j' T1→k'=k∧T1=T'∧iq k=j'∧CB F j' T1)
  (gU:∀ k',k'≠k→iq k'=js k') (iQ:∀ i' k' j' T1,i'≠i→D i' = .wk k' j' T1→zP iq T1) (aqO:zP iq T') (aoY:iq k=F.J∨∃ j',x = .wk k j' T'):Bk F Q T0 (cq D i x) iq s' n:=by
 have h0:i≠0:=λ e=>by subst e; rw [h.d0] at hd; cases hd
 obtain ⟨ot,oj,oh,ok,on⟩:=h.mJ i k j T hd
 have hle:=wx (D:=D) hi
 have vd:=uM (D:=D) hi x
 rw [hd] at hle vd
 rw [hx] at vd
 obtain ⟨ha,hT'⟩:=h.rC.step ot hle dk vd
 have hg:=h.aig.step hle dk vd
 refine ⟨by rw [ft (Ne.symm h0)]; exact h.d0,h.nf,h.pos,λ i' oY=>by rw [ft (by omega)]; exact h.out i' oY,λ i' T hT=>?_,ha,hg,λ i' k' j' T1 hT=>?_,λ i1 i2 k' j1 j2 T1 T2 h1 h2=>?_,λ k' dI=>?_,λ k' dI=>?_,h.G2⟩
 ·by_cases e:i'=i
  ·subst e; rw [jz] at hT; exact absurd hT (hxm T)
  ·rw [ft e] at hT; exact h.main i' T hT
 ·by_cases e:i'=i
  ·subst e; rw [jz] at hT
   obtain ⟨rfl,rfl,h3,h4⟩:=hxw k' j' T1 hT
   exact ⟨hT',h4,aqO,h3,on⟩
  ·rw [ft e] at hT
   obtain ⟨a1,a2,a3,a4,a5⟩:=h.mJ i' k' j' T1 hT
   have hkk:k'≠k:=λ e'=>by subst e'; exact e (h.qM i' i k' j' j T1 T hT hd)
   exact ⟨a1,a2,iQ i' k' j' T1 e hT,by rw [gU k' hkk]; exact a4,a5⟩
 ·have key:∀ i1 j1 T1,cq D i x i1 = .wk k' j1 T1→∃ j' T',D i1 = .wk k' j' T':=λ i1 j1 T1 h1=>by
   by_cases e:i1=i
   ·subst e; rw [jz] at h1
    obtain ⟨rfl,_⟩:=hxw k' j1 T1 h1
    exact ⟨_,_,hd⟩
   ·rw [ft e] at h1; exact ⟨_,_,h1⟩
  obtain ⟨_,_,e1⟩:=key i1 j1 T1 h1
  obtain ⟨_,_,e2⟩:=key i2 j2 T2 h2
  exact h.qM _ _ _ _ _ _ _ e1 e2
 ·by_cases e:k'=k
  ·subst e
   rcases aoY with hz | ⟨j',hz⟩
   ·exact .inl hz
   ·exact .inr ⟨i,j',T',by rw [jz]; exact hz⟩
  ·rcases h.done k' dI with hz | ⟨i',j',T1,hz⟩
   ·exact .inl (by rw [gU k' e]; exact hz)
   ·refine .inr ⟨i',j',T1,?_⟩
    rw [ft (λ e'=>by subst e'; rw [hd] at hz; cases hz; exact e rfl)]; exact hz
 ·have e:k'≠k:=λ e=>by subst e; omega
  rw [gU k' e]; exact h.Ny k' dI
theorem Bk.work(h:Bk F Q T0 D js s n)(hd:D i = .wk k j T)(hi:i < n)(dk:dc T s T' s')(zl:ya F j T T')(UO:zP js T')(hu:gv T=false)(hq:T' ≠ .quit) :
  Bk F Q T0 (cq D i (.wk k j T')) js s' n∧MM F Q (cq D i (.wk k j T')) s' n < MM F Q D s n:=by
 obtain ⟨ot,oj,oh,ok,on⟩:=h.mJ i k j T hd
 refine ⟨h.sB hd hi dk rfl (λ T=>by simp) (λ k' j' T1 e=>?_) (λ _ _=>rfl) (λ i' k' j' T1 _ e=>(h.mJ i' k' j' T1 e).2.2.1) UO (.inr ⟨j,rfl⟩),KT hi h.J1 ?_⟩
 ·cases e; exact ⟨rfl,rfl,ok,aBN oj dk zl hu hq⟩
 ·rw [hd]
  have:=dk.L4 ot
  simp only [hu,Bool.false_eq_true,if_false] at this
  simp only [cP,nN]
  rcases this with z | ⟨z1,_,z2,z3,z4⟩
  ·left; omega
  ·right; exact ⟨by omega,z2,z3,z4⟩
theorem Bk.ur(h:Bk F Q T0 D js s n)(hd:D i = .wk k j (.ur js))(hi:i < n) :
  Bk F Q T0 (cq D i (.wk k (j+1) .ud)) (gb js k (j+1)) s n∧MM F Q (cq D i (.wk k (j+1) .ud)) s n < MM F Q D s n:=by
 obtain ⟨ot,oj,oh,ok,on⟩:=h.mJ i k j _ hd
 have oj':j < F.J:=oj
 refine ⟨h.sB hd hi .ur rfl (λ T=>by simp) (λ k' j' T1 e=>?_) (λ k' dI=>sD dI) (λ i' k' j' T1 eH e=>?_) trivial (.inr ⟨_,rfl⟩),KT hi h.J1 ?_⟩
 ·cases e; exact ⟨rfl,rfl,sE _ _ _,oj'⟩
 ·
  have hb:=h.rC
  have h1:=hb.ow
  have h2:=hb.l1
  have a1:(cA (D i)).hl=1:=by rw [hd]; rfl
  cases T1 with
  | ul z =>
   have a2:(cA (D i')).hl=1:=by rw [e]; rfl
   have:2≤(cnt D n).hl:=by
    have oY:i' < n:=by
     apply Classical.byContradiction
     intro hn
     rw [h.out i' (by omega)] at e; cases e
    have t1:=(uM (D:=D) hi .no).hl
    have t2:=(wx (D:=cq D i .no) oY).hl
    rw [ft eH,a2] at t2
    rw [a1] at t1
    simp only [cA,Cn.zero] at t1
    omega
   omega
  | uv z =>
   have a2:(cA (D i')).hl=1:=by rw [e]; rfl
   have:2≤(cnt D n).hl:=by
    have oY:i' < n:=by
     apply Classical.byContradiction
     intro hn
     rw [h.out i' (by omega)] at e; cases e
    have t1:=(uM (D:=D) hi .no).hl
    have t2:=(wx (D:=cq D i .no) oY).hl
    rw [ft eH,a2] at t2
    rw [a1] at t1
    simp only [cA,Cn.zero] at t1
    omega
   omega
  | ur z =>
   have a2:(cA (D i')).hl=1:=by rw [e]; rfl
   have:2≤(cnt D n).hl:=by
    have oY:i' < n:=by
     apply Classical.byContradiction
     intro hn
     rw [h.out i' (by omega)] at e; cases e
    have t1:=(uM (D:=D) hi .no).hl
    have t2:=(wx (D:=cq D i .no) oY).hl
    rw [ft eH,a2] at t2
    rw [a1] at t1
    simp only [cA,Cn.zero] at t1
    omega
   omega
  | _=>trivial
 ·rw [hd]
  left
  simp only [cP,hU]
  have:F.J - j=(F.J - (j+1))+1:=by omega
  omega
theorem Bk.quit(h:Bk F Q T0 D js s n)(hd:D i = .wk k j T)(hi:i < n)(dk:dc T s .quit s')(hj:j=F.J)(hu:gv T=false) :
  Bk F Q T0 (cq D i .no) js s' n∧MM F Q (cq D i .no) s' n < MM F Q D s n:=by
 obtain ⟨ot,oj,oh,ok,on⟩:=h.mJ i k j T hd
 refine ⟨h.sB hd hi dk rfl (λ T=>by simp) (λ k' j' T1 e=>by cases e) (λ _ _=>rfl) (λ i' k' j' T1 _ e=>(h.mJ i' k' j' T1 e).2.2.1) trivial (.inl (ok.trans hj)),KT hi h.J1 ?_⟩
 rw [hd]
 have:=dk.L4 ot
 simp only [hu,Bool.false_eq_true,if_false] at this
 simp only [cP,nN]
 rcases this with z | ⟨z1,_,z2,z3,z4⟩
 ·left; omega
 ·right; have z5:hU Lp.quit=0:=rfl; subst hj; exact ⟨by omega,z2,z3,z4⟩
theorem aCW(dk:gg T0 s iC s')(h:iC ≠ .fin):rem iC=rem T0:=by cases dk <;> rfl
theorem Bk.aBn(h:Bk F Q T0 D js s n)(dk:gg T0 s iC s')(hf:iC ≠ .fin):Bk F Q iC (cq D 0 (.mn iC)) js s' n∧MM F Q (cq D 0 (.mn iC)) s' n < MM F Q D s n:=by
 have hr:=aCW dk hf
 have vd:=uM (D:=D) h.pos (.mn iC)
 rw [h.d0] at vd
 have ec:cnt (cq D 0 (.mn iC)) n=cnt D n:=by
  obtain ⟨g1,g2,g3,g4,g5,g6,g7,g8,g9,cV,cG,cH,cI⟩:=vd
  simp only [cA,Cn.zero,Nat.add_zero] at *
  generalize cnt (cq D 0 (.mn iC)) n=c' at *
  generalize cnt D n=c at *
  cases c; cases c'; simp only [Cn.mk.injEq] at *
  exact ⟨g1,g2,g3,g4,g5,g6,g7,g8,g9,cV,cG,cH,cI⟩
 have key:∀ i' k' j' T1,cq D 0 (.mn iC) i' = .wk k' j' T1→D i' = .wk k' j' T1:=λ i' k' j' T1 e=>by
  by_cases e0:i'=0
  ·subst e0; rw [jz] at e; cases e
  ·rwa [ft e0] at e
 refine ⟨⟨jz _ _ _,hf,h.pos,λ i' oY=>by rw [ft (by have:=h.pos; omega)]; exact h.out i' oY,λ i' T hT=>?_,by rw [ec]; exact h.rC.main dk,by rw [ec]; exact h.aig.main dk,λ i' k' j' T1 e=>by rw [hr]; exact h.mJ i' k' j' T1 (key _ _ _ _ e),
  λ i1 i2 k' j1 j2 T1 T2 h1 h2=>h.qM _ _ _ _ _ _ _ (key _ _ _ _ h1) (key _ _ _ _ h2),λ k' dI=>?_,λ k' dI=>h.Ny k' (by rw [← hr]; exact dI),by rw [hr]; exact h.G2⟩,KT h.pos h.J1 ?_⟩
 ·by_cases e0:i'=0
  ·exact e0
  ·rw [ft e0] at hT; exact h.main i' T hT
 ·rcases h.done k' (by rw [← hr]; exact dI) with z | ⟨i',j',T1,z⟩
  ·exact .inl z
  ·exact .inr ⟨i',j',T1,by rw [ft (λ e=>by subst e; rw [h.d0] at z; cases z)]; exact z⟩
 ·rw [h.d0]; exact dk.L4
theorem N3(r:Nat):rem (kq r)=r:=by cases r <;> rfl
theorem aBI(r:Nat):kq r ≠ .fin:=by cases r <;> simp [kq]
theorem Bk.spawn{r:Nat}(h:Bk F Q (.go r) D js s n):Bk F Q (kq r) (cq (cq D n (.wk (F.N - (r+1)) 0 .ld)) 0 (.mn (kq r))) js s (n+1)∧MM F Q (cq (cq D n (.wk (F.N - (r+1)) 0 .ld)) 0 (.mn (kq r))) s (n+1) < MM F Q D s n:=by
 have vd:=aag (D:=D) h.pos (.mn (kq r)) (.wk (F.N - (r+1)) 0 .ld) rfl (by rw [h.d0]; rfl)
 have iR:=h.pos
 have hle:=h.aig.le
 simp only [rem] at hle
 have hrN:r+1≤F.N:=by omega
 have key:∀ i' k' j' T1,cq (cq D n (.wk (F.N - (r+1)) 0 .ld)) 0 (.mn (kq r)) i' = .wk k' j' T1→(i'=n∧k'=F.N - (r+1)∧j'=0∧T1 = .ld)∨D i' = .wk k' j' T1:=λ i' k' j' T1 e=>by
  by_cases e0:i'=0
  ·subst e0; rw [jz] at e; cases e
  ·rw [ft e0] at e
   by_cases en:i'=n
   ·subst en; rw [jz] at e; cases e; exact .inl ⟨rfl,rfl,rfl,rfl⟩
   ·rw [ft en] at e; exact .inr e
 refine ⟨⟨jz _ _ _,aBI r,by omega,λ i' oY=>by rw [ft (by omega),ft (by omega)]; exact h.out i' (by omega),λ i' T hT=>?_,h.rC.spawn h.aig vd,h.aig.spawn vd,λ i' k' j' T1 e=>?_,λ i1 i2 k' j1 j2 T1 T2 h1 h2=>?_,λ k' dI=>?_,λ k' dI=>?_,?_⟩,aht iR ?_ ?_⟩
 ·by_cases e0:i'=0
  ·exact e0
  ·rw [ft e0] at hT
   by_cases en:i'=n
   ·subst en; rw [jz] at hT; cases hT
   ·rw [ft en] at hT; exact h.main i' T hT
 ·rw [N3]
  rcases key i' k' j' T1 e with ⟨rfl,rfl,rfl,rfl⟩ | z
  ·exact ⟨trivial,F.hJ,trivial,h.Ny _ (by simp only [rem]; omega),by omega⟩
  ·obtain ⟨a1,a2,a3,a4,a5⟩:=h.mJ i' k' j' T1 z
   simp only [rem] at a5
   exact ⟨a1,a2,a3,a4,by omega⟩
 ·rcases key i1 k' j1 T1 h1 with ⟨q1,e1,_,_⟩ | z1 <;> rcases key i2 k' j2 T2 h2 with ⟨q2,e2,_,_⟩ | z2
  ·exact q1.trans q2.symm
  ·have:=(h.mJ i2 _ j2 T2 z2).2.2.2.2; simp only [rem] at this; omega
  ·have:=(h.mJ i1 _ j1 T1 z1).2.2.2.2; simp only [rem] at this; omega
  ·exact h.qM _ _ _ _ _ _ _ z1 z2
 ·rw [N3] at dI
  by_cases e:k'+(r+1) < F.N
  ·rcases h.done k' e with z | ⟨i',j',T1,z⟩
   ·exact .inl z
   ·refine .inr ⟨i',j',T1,?_⟩
    rw [ft (λ e=>by rw [e,h.d0] at z; cases z),ft (λ e=>by rw [e,h.out n (Nat.le_refl _)] at z; cases z)]; exact z
  ·exact .inr ⟨n,0,.ld,by rw [ft (by omega),jz]; congr 1; omega⟩
 ·rw [N3] at dI; exact h.Ny k' (by simp only [rem]; omega)
 ·rw [N3]; have:=h.G2; simp only [rem] at this; omega
 ·have:=h.G2; simp only [rem] at this; omega
 ·rw [h.d0]
  have:=aDF F.J r
  simp only [cP]
  omega
end
end Go.Lg
namespace Go.Lg
open Go.Conc Go.ConcN
theorem Az.CY{P:Program}{B:Base}{main:Bool}{K:ax→an→Goroutine→Prop}{T:Tree}{R:ax}{H:an}{g:Goroutine}(h:Az P B main K T R H g)(hs:∀ R H g,K R H g→g.status = .running):g.status = .running:=by
 induction T generalizing R H g with
 | node ι f ih =>
  rcases h with h | ⟨h,_⟩ | ⟨R',H',i,_,h⟩
  ·exact hs _ _ _ h
  ·exact h
  ·exact ih i h
theorem BX{gs:Array Goroutine}{i:Nat}{g:Goroutine}(h:gs[i]? = some g):i < gs.size:=(Array.getElem?_eq_some_iff.1 h).1
theorem GF.woken{P:Program}{K:Goroutine→Prop}{z z':Prop}{a a' x:Goroutine}{w:World}(h:GF K z x)(hz:(mayWake P a=true∧a'.status ≠ .blocked∧a'.status ≠ .waiting)∨(z→z')):GF K z' (woken P a a' w x):=by
 obtain ⟨g0,hK,hr,ho,hg⟩:=h
 refine ⟨g0,hK,hr,ho,?_⟩
 rcases hg with rfl | ⟨rfl,VW⟩
 ·left
  unfold Conc.woken
  split
  ·exact again_running _ (.inl hr)
  ·rfl
 ·rcases hz with ⟨h1,h2,h3⟩ | hz
  ·left
   unfold Conc.woken
   rw [if_pos (by simp [h1,h2,h3])]
   obtain ⟨f,c,st,d,o⟩:=g0
   simp only at hr ho
   subst hr ho
   rfl
  ·unfold Conc.woken
   split
   ·left
    obtain ⟨f,c,st,d,o⟩:=g0
    simp only at hr ho
    subst hr ho
    rfl
   ·right; exact ⟨rfl,hz VW⟩
theorem AA.run{P:Program}{K:Goroutine→Prop}(hK:∀ g,K g→g.status = .running):∀ {q:Nat} {g:Goroutine},AA P K q g→g.status = .running
 | 0,_,h=>hK _ h
 | _+1,_,h=>h.elim (hK _) (·.1)
section
variable {F:Fx} {Q:Nat} {T0:Mp} {D:Nat→Ab} {m:Nat→Ms} {js:Nat→Nat} {s s':Sh} {th:Nat→Option Th} {mu:Nat→Bool} {dd:Nat→Nat} {gs:Array Goroutine} {w:World} {t:Trace} {sl:Option (Nat × Nat)} {i:Nat} {g:Goroutine}
theorem KW.run{n k j:Nat}{T:Lp}{R:ax}{H:an}(h:KW F n k j T R H g)(hn:0 < n)(ho:pZ F.N T):g.status = .running∧g.offers=none:=by
 cases n with
 | zero=>omega
 | succ n=>have:=h ho; exact ⟨this.1,this.2.1⟩
theorem KM.run{n:Nat}{T:Mp}{R:ax}{H:an}(h:KM F n T R H g)(hn:0 < n):g.status = .running∧g.offers=none:=by
 cases n with
 | zero=>omega
 | succ n=>exact ⟨h.1,h.2.1⟩
theorem pB.look{μ:Nat}{mm:Ms}{x:Option Th}{b:Bool}{d:Nat}{A:Ab}(h:pB F μ s i mm x b d g A)(VX:0 < μ)(hT:∀ k j T,A = .wk k j T→pZ F.N T) :
  (g.status = .running)∨(g.status = .finished∧A = .no)∨(g.status = .blocked∧mm=none∧((∃ k j c,A = .wk k j (.s1 c)∧s.ms=0)∨(A = .mn .w3∧s.ws=0))):=by
 cases A with
 | no =>
  obtain ⟨_,_,q,_,hq⟩:=h
  rcases hq.status with x | x
  ·exact .inl x
  ·exact .inr (.inl ⟨x,rfl⟩)
 | wk k j T =>
  obtain ⟨_,_,_,y,n,_,hn,h⟩:=h
  have ho:=hT k j T rfl
  split at h
  ·obtain ⟨q,_,hq⟩:=h
   exact .inl (hq.run λ g hg=>(hg.run (by omega) ho).1)
  ·rcases h with ⟨Tr,_,h⟩ | ⟨rfl,⟨c,rfl⟩,g0,hK,hr,_,hg⟩
   ·exact .inl (h.CY λ R H g hg=>(KW.run hg (by omega) ho).1)
   ·rcases hg with rfl | ⟨rfl,hz⟩
    ·exact .inl hr
    ·exact .inr (.inr ⟨rfl,rfl,.inl ⟨k,j,c,rfl,hz⟩⟩)
 | mn T =>
  obtain ⟨_,_,_,y,n,_,hn,h⟩:=h
  rcases h with ⟨Tr,_,h⟩ | ⟨rfl,rfl,g0,hK,hr,_,hg⟩
  ·exact .inl (h.CY λ R H g hg=>(KM.run hg (by omega)).1)
  ·rcases hg with rfl | ⟨rfl,hz⟩
   ·exact .inl hr
   ·exact .inr (.inr ⟨rfl,rfl,.inr ⟨rfl,hz⟩⟩)
theorem pB.woken{μ KC:Nat}{mm:Ms}{x:Option Th}{b:Bool}{d:Nat}{A:Ab}{a a':Goroutine}{w':World}(h:pB F μ s i mm x b d g A)(VX:0 < μ)(hT:∀ k j T,A = .wk k j T→pZ F.N T)(hle:KC≤μ)
  (hz:(mayWake F.P a=true∧a'.status ≠ .blocked∧a'.status ≠ .waiting)∨(s'.ms≤s.ms∧s'.ws≤s.ws)):pB F KC s' i mm x b d (Conc.woken F.P a a' w' g) A:=by
 have run:g.status = .running→Conc.woken F.P a a' w' g=g:=λ hr=>by
  unfold Conc.woken
  split
  ·exact again_running _ (.inl hr)
  ·rfl
 cases A with
 | no =>
  obtain ⟨h1,h2,q,h3,hq⟩:=h
  exact ⟨h1,h2,q,h3,by rw [woken_quitsD hq]; exact hq⟩
 | wk k j T =>
  obtain ⟨h1,h2,h3,y,n,h4,hn,h⟩:=h
  have ho:=hT k j T rfl
  refine ⟨h1,h2,h3,y,n,h4,by omega,?_⟩
  split
  ·rename_i hm
   rw [if_pos hm] at h
   obtain ⟨q,h5,hq⟩:=h
   exact ⟨q,h5,by rw [run (hq.run λ g hg=>(hg.run (by omega) ho).1)]; exact hq⟩
  ·rename_i hm
   rw [if_neg hm] at h
   rcases h with ⟨Tr,h5,h⟩ | ⟨h5,h6,hS⟩
   ·exact .inl ⟨Tr,h5,by rw [run (h.CY λ R H g hg=>(KW.run hg (by omega) ho).1)]; exact h⟩
   ·exact .inr ⟨h5,h6,hS.woken (hz.imp id λ z h0=>by omega)⟩
 | mn T =>
  obtain ⟨h1,h2,h3,y,n,h4,hn,h⟩:=h
  refine ⟨h1,h2,h3,y,n,h4,by omega,?_⟩
  rcases h with ⟨Tr,h5,h⟩ | ⟨h5,h6,hS⟩
  ·exact .inl ⟨Tr,h5,by rw [run (h.CY λ R H g hg=>(KM.run hg (by omega)).1)]; exact h⟩
  ·exact .inr ⟨h5,h6,hS.woken (hz.imp id λ z h0=>by omega)⟩
theorem MI.at(h:MI F Q T0 D m js s th mu dd gs w t)(d:Nat):MI F Q T0 D m js s th mu dd gs (w.at d) t:=⟨h.mem.at d,h.tr,h.vQ,h.out,h.bk⟩
theorem MI.mJ(h:MI F Q T0 D m js s th mu dd gs w t)(i:Nat):∀ k j T,D i = .wk k j T→pZ F.N T:=λ k j T hd=>(h.bk.mJ i k j T hd).1
theorem MI.sB(h:MI F Q T0 D m js s th mu dd gs w t)(hi:gs[i]? = some g){x:Ab}{m':Ms}{iC:Mp}{iq:Nat→Nat}{jx:Nat→Option Th}{mu':Nat→Bool}{dd':Nat→Nat}{g':Goroutine}{w':World}{t':Trace}
  (hz:(mayWake F.P g=true∧g'.status ≠ .blocked∧g'.status ≠ .waiting)∨(s'.ms≤s.ms∧s'.ws≤s.ws))
  (hM:MM F Q (cq D i x) s' gs.size≤MM F Q D s gs.size) (hm:fb F.B jx (gu F s' iq (cnt (cq D i x) gs.size).hl) w') (ht:cS (some (am F)) (some (aw F)) jx mu' dd' [F.bm,F.bw] (pN F (cnt (cq D i x) gs.size).hl) w'.heap.size t')
  (hs:pB F (MM F Q (cq D i x) s' gs.size) s' i m' (jx i) (mu' i) (dd' i) g' x) (ho:∀ j,j≠i→jx j=th j∧mu' j=mu j∧dd' j=dd j) (hb:Bk F Q iC (cq D i x) iq s' gs.size) :
  MI F Q iC (cq D i x) (mc m i m') iq s' jx mu' dd' ((gs.map (Conc.woken F.P g g' w')).setIfInBounds i g') w' t':=by
 have bE:=BX hi
 have fC:((gs.map (Conc.woken F.P g g' w')).setIfInBounds i g').size=gs.size:=by simp
 refine ⟨by rw [fC]; exact hm,by rw [fC]; exact ht,λ j y hj=>?_,λ j hj=>?_,by rw [fC]; exact hb⟩
 ·rw [fC]
  by_cases gj:j=i
  ·subst gj
   rw [Array.getElem?_setIfInBounds_self_of_lt (by simpa using bE)] at hj; cases hj
   rw [jz,Kb]; exact hs
  ·rw [Array.getElem?_setIfInBounds_ne (Ne.symm gj),Array.getElem?_map] at hj
   obtain ⟨z,VW,rfl⟩:=Option.map_eq_some_iff.1 hj
   obtain ⟨e1,e2,e3⟩:=ho j gj
   rw [ft gj,F0 gj,e1,e2,e3]
   exact (h.vQ j z VW).woken h.bk.r7 (h.mJ j) hM hz
 ·rw [fC] at hj
  obtain ⟨e1,e2,e3⟩:=ho j (by omega)
  rw [e1,e2,e3]; exact h.out j hj
theorem aEn{D:Nat→Ab}{i:Nat}{x:Ab}(h:D i=x):cq D i x=D:=by
 funext j; unfold cq; split
 ·rename_i e; subst e; exact h.symm
 ·rfl
theorem MI.still(h:MI F Q T0 D m js s th mu dd gs w t)(hi:gs[i]? = some g){m':Ms}{jx:Nat→Option Th}{dd':Nat→Nat}{g':Goroutine}{w':World}{t':Trace}(hm:fb F.B jx (gu F s js (cnt D gs.size).hl) w')(ht:cS (some (am F)) (some (aw F)) jx mu dd' [F.bm,F.bw] (pN F (cnt D gs.size).hl) w'.heap.size t')
  (hs:pB F (MM F Q D s gs.size) s i m' (jx i) (mu i) (dd' i) g' (D i)) (ho:∀ j,j≠i→jx j=th j∧dd' j=dd j) :
  MI F Q T0 D (mc m i m') js s jx mu dd' ((gs.map (Conc.woken F.P g g' w')).setIfInBounds i g') w' t':=by
 have e:=aEn (D:=D) (i:=i) rfl
 have:=h.sB (x:=D i) (m':=m') (iC:=T0) (iq:=js) (s':=s) (jx:=jx) (mu':=mu) (dd':=dd') (g':=g') (w':=w') (t':=t') hi (.inr ⟨Nat.le_refl _,Nat.le_refl _⟩) (by rw [e]; exact Nat.le_refl _) (by rw [e]; exact hm) (by rw [e]; exact ht) (by rw [e]; exact hs) (λ j hj=>⟨(ho j hj).1,rfl,(ho j hj).2⟩) (by rw [e]; exact h.bk)
 rwa [e] at this
end
end Go.Lg
namespace Go.Lg
open Go.Conc Go.ConcN
theorem aak{t u:Trace}{g:Nat}:∀ {r:Nat},r≤u.size→(t++u).deaf g (t.size+r)=(u.toList.take r).foldl (deafStep g) (Deaf t g)
 | 0,_=>by simp only [Nat.add_zero,List.take_zero,List.foldl_nil]; exact deaf_old (Nat.le_refl _)
 | r+1,h=>by
  have ih:=aak (t:=t) (u:=u) (g:=g) (r:=r) (by omega)
  have hr:r < u.size:=by omega
  have hu:(t++u)[t.size+r]? = some u[r]:=by
   rw [Array.getElem?_append_right (by omega),Nat.add_sub_cancel_left,Array.getElem?_eq_getElem hr]
  rw [← Nat.add_assoc,deaf_succ hu,ih]
  have:u.toList.take (r+1)=u.toList.take r++[u[r]]:=by
   rw [List.take_add_one]
   simp [hr]
  rw [this,List.foldl_append]
  rfl
theorem aal{g:Nat}:∀ {l:List MemOp} {d:Nat},(∀ op∈l,op.act ≠ .mark .enable)→d≤l.foldl (deafStep g) d
 | [],_,_=>Nat.le_refl _
 | y::l,d,h=>by
  have h1:d≤deafStep g d y:=by
   unfold deafStep
   split
   ·split <;> omega
   ·rename_i e; exact absurd e (h y (by simp))
   ·exact Nat.le_refl _
  exact Nat.le_trans h1 (aal λ op au=>h op (List.mem_cons_of_mem _ au))
section
variable {F:Fx} {th:Nat→Option Th} {mu:Nat→Bool} {dd:Nat→Nat} {s:Sh} {js:Nat→Nat} {hl i:Nat} {w:World} {t:Trace} {fn:FuncId} {pos:String} {es:Array Event} {R:ax} {H:an}
theorem ac6(h:fb F.B th (gu F s js hl) w):F.bm < w.heap.size:=lb (h.ny _ _ (yQ F s js hl))
theorem Na(h:fb F.B th (gu F s js hl) w):F.bw < w.heap.size:=lb (h.ny _ _ (yR F s js hl))
theorem aiJ(_:fb F.B th (gu F s js hl) w)(he:pA F es):∀ op∈MemOp.ofEvents i fn pos es,op.g=i∧(op.act = .mark .disable∨op.act = .mark .enable∨∃ a wr,op.act = .access ⟨.cell a,wr,true⟩∧(a.block=F.bm∨a.block=F.bw)):=by
 intro op au
 obtain ⟨e,nF,rfl⟩:=zL au
 refine ⟨rfl,?_⟩
 rcases he with he | ⟨a,ha,rfl⟩
 ·obtain ⟨a,wr,rfl,ha⟩:=he e nF
  exact .inr (.inr ⟨a,wr,by cases wr <;> rfl,ha⟩)
 ·simp only [semEvents,List.mem_toArray,List.mem_cons,List.not_mem_nil,or_false] at nF
  rcases nF with rfl | rfl | rfl | rfl
  ·exact .inl rfl
  ·exact .inr (.inr ⟨a,false,rfl,ha⟩)
  ·exact .inr (.inr ⟨a,true,rfl,ha⟩)
  ·exact .inr (.inl rfl)
theorem aiI(he:pA F es)(d:Nat):deafBehind d es=d:=by
 rcases he with he | ⟨a,_,rfl⟩
 ·obtain ⟨l⟩:=es
  unfold deafBehind
  simp only [List.foldl_toArray']
  induction l with
  | nil=>rfl
  | cons e l ih =>
   obtain ⟨a,wr,rfl,_⟩:=he e (by simp)
   exact ih λ e' Ml=>he e' (by simp at Ml ⊢; exact .inr Ml)
 ·simp [deafBehind,semEvents]
theorem cS.Qh(hM:fb F.B th (gu F s js hl) w)(h:cS (some (am F)) (some (aw F)) th mu dd [F.bm,F.bw] (pN F hl) w.heap.size t)(hi:th i=some ⟨R,H⟩)(he:pA F es)(hc:mu i=false∨1≤dd i) :
  cS (some (am F)) (some (aw F)) th mu dd [F.bm,F.bw] (pN F hl) w.heap.size (t++MemOp.ofEvents i fn pos es):=by
 have Em:=aiJ (i:=i) (fn:=fn) (pos:=pos) hM he
 have:=cS.app (u:=MemOp.ofEvents i fn pos es) (n':=w.heap.size) (R':=R) (H':=H) (d':=dd i) hM rfl (G9 F s js hl) (G8 F s js hl) h hi (λ op au=>(Em op au).1) (λ op au a ha=>?_) (λ op au=>?_) (λ op au a=>?_) (by rw [Deaf_own,h.deaf i,aiI he]) ?_ (Nat.le_refl _) (λ _ _ x=>.inl x) (λ _ o x=>.inl ⟨o,x⟩)
 ·rwa [C0 hi,me] at this
 ·rcases (Em op au).2 with e | e | ⟨a',wr,e,hb⟩ <;> rw [e] at ha
  ·cases ha
  ·cases ha
  ·simp only [MemAct.touch?,Option.some.injEq] at ha
   subst ha
   exact .inr ⟨a'.block,rfl,by rcases hb with hb | hb <;> simp [hb],.inl rfl⟩
 ·rcases (Em op au).2 with e | e | ⟨a',wr,e,hb⟩ <;> rw [e]
  ·trivial
  ·trivial
  ·show a'.block < _
   rcases hb with hb | hb <;> rw [hb]
   ·exact ac6 hM
   ·exact Na hM
 ·rcases (Em op au).2 with e | e | ⟨a',wr,e,hb⟩ <;> rw [e] <;> intro x <;> cases x
 ·refine hc.imp id λ hd k a hk HV eP=>?_
  rcases eP with eP | ⟨g,hg,hz⟩
  ·obtain ⟨op,h1,h2⟩:=touch_of HV
   rcases getElem?_append_cases h1 with ⟨bE,_⟩ | ⟨_,h3⟩
   ·omega
   ·rcases (Em op h3).2 with e | e | ⟨a',wr,e,hb⟩ <;> rw [e] at h2
    ·cases h2
    ·cases h2
    ·simp only [MemAct.touch?,Option.some.injEq] at h2
     subst h2; exact eP rfl
  ·obtain ⟨op,h1,h2⟩:=touch_of HV
   have bE:=lt_size_of_getElem? h1
   rw [Array.size_append] at bE
   have hgi:g=i:=by
    rcases getElem?_append_cases h1 with ⟨bE,_⟩ | ⟨_,h3⟩
    ·omega
    ·rw [Trace.g?,h1] at hg
     simp only [Option.map_some,Option.some.injEq] at hg
     rw [← hg]; exact (Em op h3).1
   subst hgi
   obtain ⟨r,rfl⟩:∃ r,k=t.size+r:=⟨k - t.size,by omega⟩
   rw [aak (by omega),h.deaf g] at hz
   have hup:dd g≤((MemOp.ofEvents g fn pos es).toList.take r).foldl (deafStep g) (dd g):=by
    refine aal λ op' SU=>?_
    rcases he with he | ⟨a',ha',rfl⟩
    ·have hm:op'∈MemOp.ofEvents g fn pos es:=by simpa using List.mem_of_mem_take SU
     obtain ⟨e,nF,rfl⟩:=zL hm
     obtain ⟨a',wr,rfl,_⟩:=he e nF
     cases wr <;> (intro x; cases x)
    ·have hr:r≤3:=by simp [MemOp.ofEvents,semEvents] at bE; omega
     have e4:(MemOp.ofEvents g fn pos (semEvents a')).toList=[⟨g,fn,pos,.mark .disable⟩,⟨g,fn,pos,.access ⟨.cell a',false,true⟩⟩,⟨g,fn,pos,.access ⟨.cell a',true,true⟩⟩,⟨g,fn,pos,.mark .enable⟩]:=by simp [MemOp.ofEvents,semEvents,MemAct.ofEvent]
     rw [e4] at SU
     have h3:op'∈[(⟨g,fn,pos,.mark .disable⟩:MemOp),⟨g,fn,pos,.access ⟨.cell a',false,true⟩⟩,⟨g,fn,pos,.access ⟨.cell a',true,true⟩⟩]:=by
      have:([(⟨g,fn,pos,.mark .disable⟩:MemOp),⟨g,fn,pos,.access ⟨.cell a',false,true⟩⟩,⟨g,fn,pos,.access ⟨.cell a',true,true⟩⟩,⟨g,fn,pos,.mark .enable⟩]).take r <+: ([(⟨g,fn,pos,.mark .disable⟩:MemOp),⟨g,fn,pos,.access ⟨.cell a',false,true⟩⟩,⟨g,fn,pos,.access ⟨.cell a',true,true⟩⟩,⟨g,fn,pos,.mark .enable⟩]).take 3:=List.take_prefix_take_left hr
      exact this.subset SU
     simp only [List.mem_cons,List.not_mem_nil,or_false] at h3
     rcases h3 with rfl | rfl | rfl <;> (intro x; cases x)
   omega
theorem cS.word{m:Mark}{Zg Zk:Option Addr}{sh:List Nat}{fr:Option Nat}{n:Nat}(h:cS Zg Zk th mu dd sh fr n t)(hm:m = .disable∨m = .enable) :
  cS Zg Zk th mu (gb dd i (deafBehind (dd i) (said m))) sh fr n (t++MemOp.ofEvents i fn pos (said m)):=by
 refine h.leaves λ e he=>?_
 simp only [said,List.mem_toArray,List.mem_cons,List.not_mem_nil,or_false] at he
 subst he
 rcases hm with rfl | rfl <;> rfl
end
end Go.Lg
namespace Go.Lg
open Go.Conc Go.ConcN
theorem LK(c:Lc):ob (hd c)=1:=by unfold hd; split <;> rfl
theorem ajE(c:Lc):ob (jb c)=1:=by unfold jb; split <;> rfl
theorem aap(m:Wd):ob (hu m)=1:=by unfold hu; split <;> rfl
theorem Nu(c:Lc):jU (hd c)=false:=by unfold hd; split <;> rfl
theorem aBz(c:Lc):jU (jb c)=false:=by unfold jb; split <;> rfl
theorem adM(m:Wd):jU (hu m)=false:=by unfold hu; split <;> rfl
inductive KD (F:Fx):Lp→Lp→Array Event→Prop
 | at {T T' es}:pA F es→ob T'=ob T→jU T'=jU T→KD F T T' es
 | yV {T T'}:ob T=0→ob T'=1→jU T'=jU T→KD F T T' (said .disable)
 | en {T T'}:ob T=1→ob T'=0→jU T'=jU T→KD F T T' (said .enable)
theorem Sl{c:Lc}{T:Lp}(h1:∀ c,T ≠ .sq c)(h2:∀ c,T ≠ .c2 c):hd c≠T:=by unfold hd; split <;> exact λ e=>by subst e; first | exact h1 _ rfl | exact h2 _ rfl
theorem Xk{c:Lc}{T:Lp}(h1:∀ c,T ≠ .c1 c)(h2:∀ c,T ≠ .r1 c):jb c≠T:=by unfold jb; split <;> exact λ e=>by subst e; first | exact h1 _ rfl | exact h2 _ rfl
theorem UN{m:Wd}{T:Lp}(h1:T ≠ .ue)(h2:∀ c,T ≠ .uc c):hu m≠T:=by unfold hu; split <;> exact λ e=>by subst e; first | exact h1 rfl | exact h2 _ rfl
theorem dc.inv{s s':Sh}{T T':Lp}(h:dc T s T' s'):(∀ js,T' = .ul js→T = .la)∧(T' = .ud→gv T=true)∧(T' = .quit→T = .d1∨T = .d4):=by
 have k1:∀ c,(∀ js,hd c = .ul js→T = .la)∧(hd c = .ud→gv T=true)∧(hd c = .quit→T = .d1∨T = .d4):=λ c=>⟨λ js e=>absurd e (Sl (by simp) (by simp)),λ e=>absurd e (Sl (by simp) (by simp)),λ e=>absurd e (Sl (by simp) (by simp))⟩
 have k2:∀ c,(∀ js,jb c = .ul js→T = .la)∧(jb c = .ud→gv T=true)∧(jb c = .quit→T = .d1∨T = .d4):=λ c=>⟨λ js e=>absurd e (Xk (by simp) (by simp)),λ e=>absurd e (Xk (by simp) (by simp)),λ e=>absurd e (Xk (by simp) (by simp))⟩
 have k3:∀ c,(∀ js,hu c = .ul js→T = .la)∧(hu c = .ud→gv T=true)∧(hu c = .quit→T = .d1∨T = .d4):=λ c=>⟨λ js e=>absurd e (UN (by simp) (by simp)),λ e=>absurd e (UN (by simp) (by simp)),λ e=>absurd e (UN (by simp) (by simp))⟩
 cases h
 case r0=>exact k1 _
 case r1=>exact k1 _
 case r3=>exact k1 _
 case xN=>exact k1 _
 case x8=>exact k2 _
 case x9=>exact k3 _
 case ux=>exact k3 _
 case wo c _ _=>cases c.ws <;> simp
 case s1 c _ _=>cases c.sv <;> simp
 all_goals simp [gv]
theorem JS(i:Nat)(fn:FuncId)(pos:String)(m:Mark):MemOp.ofEvents i fn pos (said m)=#[⟨i,fn,pos,.mark m⟩]:=by simp [MemOp.ofEvents,said,MemAct.ofEvent]
section
variable {F:Fx} {Q:Nat} {T0:Mp} {D:Nat→Ab} {m:Nat→Ms} {js:Nat→Nat} {s s':Sh} {th:Nat→Option Th} {mu:Nat→Bool} {dd:Nat→Nat} {gs:Array Goroutine} {w w':World} {t:Trace} {sl:Option (Nat × Nat)} {i k j:Nat} {g g':Goroutine} {T T':Lp}
theorem dc.XP(h:dc T s T' s'):(T = .us∨T = .d4)∨(s'.ms≤s.ms∧s'.ws≤s.ws):=by
 cases h
 case us=>exact .inl (.inl rfl)
 case d4=>exact .inl (.inr rfl)
 case s1 c m h=>exact .inr ⟨by simp only; omega,Nat.le_refl _⟩
 all_goals exact .inr ⟨Nat.le_refl _,Nat.le_refl _⟩
theorem gg.XP{T T':Mp}(h:gg T s T' s'):s'.ms≤s.ms∧s'.ws≤s.ws:=by
 cases h
 case w3 m h=>exact ⟨Nat.le_refl _,by simp only; omega⟩
 all_goals exact ⟨Nat.le_refl _,Nat.le_refl _⟩
theorem evK(dk:dc T s T' s'){es:Array Event}(he:D1 F T es)(h1:T ≠ .la)(h2:gv T=false)(h3:T ≠ .wr)(hq:T' ≠ .quit):KD F T T' es:=by
 cases dk
 case ld=>rw [show es=said .disable from he]; exact .yV rfl rfl rfl
 case ud=>rw [show es=said .disable from he]; exact .yV rfl rfl rfl
 case le=>rw [show es=said .enable from he]; exact .en rfl rfl rfl
 case Ol=>rw [show es=said .enable from he]; exact .en rfl rfl rfl
 case Om=>rw [show es=said .enable from he]; exact .en rfl rfl rfl
 case wk=>rw [show es=said .disable from he]; exact .yV rfl rfl rfl
 case la=>exact absurd rfl h1
 case ur=>cases h2
 case wr=>exact absurd rfl h3
 case Hg=>exact absurd rfl hq
 case d4=>exact absurd rfl hq
 case r0=>exact .at he (LK _) (Nu _)
 case r1=>exact .at he (LK _) (Nu _)
 case r3=>exact .at he (LK _) (Nu _)
 case xN=>exact .at he (LK _) (Nu _)
 case x8=>exact .at he (ajE _) (aBz _)
 case wo c _ _=>exact .at he (by cases c.ws <;> rfl) (by cases c.ws <;> rfl)
 case s1 c _ _=>exact .at he (by cases c.sv <;> rfl) (by cases c.sv <;> rfl)
 case x9=>exact .at he (aap _) (adM _)
 case ux=>exact .at he (aap _) (adM _)
 all_goals exact .at he rfl rfl
theorem aBD{K:Nat→Lp→ax→an→Goroutine→Prop}{R:ax}{H:an}(dk:dc T s T' s')(h1:T ≠ .la)(h2:gv T=false)(hq:T' ≠ .quit)(h:wi F K k j T T' R H g') :
  if jU T' then ∃ q,AA F.P (K j T' R H) q g' else Own F.P F.B false (K j T') R H g':=by
 cases hT:T' with
 | quit=>exact absurd hT hq
 | ul js=>exact absurd (dk.inv.1 js hT) h1
 | ud=>rw [dk.inv.2.1 hT] at h2; cases h2
 | _=>subst hT; exact h
theorem ajA(h:MI F Q T0 D m js s th mu dd gs w t)(hi:gs[i]? = some g)(hd:D i = .wk k j T):0 < i∧dd i=ob T∧mu i=jU T:=by
 have:=h.vQ i g hi
 rw [hd] at this
 exact ⟨this.1,this.2.1,this.2.2.1⟩
theorem MI.work(h:MI F Q T0 D m js s th mu dd gs w t)(hi:gs[i]? = some g)(hd:D i = .wk k j T){y:Th}(hy:th i=some y){n:Nat}(hn:MM F Q D s gs.size≤n)(hK:KW F n k j T y.R y.H g) :
  ((∃ c,T = .s1 c)∧s.ms=0∧stepG F.P false g w = .go { g with status:=.blocked } w #[]) ∨
  ∃ ik w' ops D' m' iq s' jx mu' dd',(∀ sl,runT F.P (crowd gs w sl) i=(.next (crowd ik w' sl),ops))∧ik.size=gs.size∧MI F Q T0 D' m' iq s' jx mu' dd' ik w' (t++ops)∧MM F Q D' s' ik.size < MM F Q D s gs.size:=by
 have bE:=BX hi
 obtain ⟨iR,jO,df⟩:=ajA h hi hd
 have wR:(i == 0)=false:=by simp; omega
 obtain ⟨ot,oj,oh,ok,on⟩:=h.bk.mJ i k j T hd
 have hle:=wx (D:=D) bE
 rw [hd] at hle
 have hMp:=h.bk.r7
 obtain ⟨n',rfl⟩:∃ n',n=n'+1:=⟨n - 1,by omega⟩
 obtain ⟨kh,aMw,aqx,cL⟩:=hK ot
 obtain ⟨R,H⟩:=y
 rcases cL w s (h.mem.fits i _ hy) (PK h.mem) (h.bk.rC.vI hle) (h.bk.aig.okW hle) with hb | ⟨g',w',es,T',s',dk,zl,jP,cL,mC,Mv⟩
 ·exact .inl hb
 right
 have hr:∀ sl,runT F.P (crowd gs w sl) i=(.next (crowd ((gs.map (Conc.woken F.P g g' w')).setIfInBounds i g') w' sl),MemOp.ofEvents i g.frame.fn g.frame.place es):=λ sl=>runT_crowd_go hi (by rw [wR]; exact cL)
 have fC:((gs.map (Conc.woken F.P g g' w')).setIfInBounds i g').size=gs.size:=by simp
 have hbm:=ac6 h.mem
 have hbw:=Na h.mem
 have wk:(g'.status = .running∨g'.status = .finished)→(mayWake F.P g=true∧g'.status ≠ .blocked∧g'.status ≠ .waiting)∨(s'.ms≤s.ms∧s'.ws≤s.ws):=λ hs=>by
  rcases dk.XP with hx | hx
  ·exact .inl ⟨aqx hx,by rcases hs with e | e <;> rw [e] <;> simp,by rcases hs with e | e <;> rw [e] <;> simp⟩
  ·exact .inr hx
 have other:∀ (x1:Option Th) (x2:Bool) (x3:Nat),∀ j,j≠i→fN th i x1 j=th j∧nR mu i x2 j=mu j∧gb dd i x3 j=dd j:=λ x1 x2 x3 j hj=>⟨eA hj,Xx hj,sD hj⟩
 have Nv:nR mu i (mu i)=mu:=by funext j; unfold nR; split <;> simp [*]
 by_cases hq:T' = .quit
 ·
  subst hq
  obtain ⟨q,hq⟩:=Mv
  have zb:(T = .d1∨T = .d4):=dk.inv.2.2 rfl
  have hjJ:j=F.J:=by rcases zb with rfl | rfl <;> exact oj
  have aqy:mu i=true:=by rw [df]; rcases zb with rfl | rfl <;> rfl
  have hd1:dd i=1:=by rw [jO]; rcases zb with rfl | rfl <;> rfl
  have jM:pA F es:=by rcases zb with rfl | rfl <;> exact jP
  obtain ⟨my,nz⟩:=h.bk.quit hd bE dk hjJ (by rcases zb with rfl | rfl <;> rfl)
  have eP:(cnt (cq D i .no) gs.size).hl=(cnt D gs.size).hl:=by
   have:=(uM (D:=D) bE .no).hl
   rw [hd] at this
   rcases zb with rfl | rfl <;> simpa [cA,cW,Cn.busy,Cn.zero] using this
  have mE:=(cS.Qh (fn:=g.frame.fn) (pos:=g.frame.place) h.mem h.tr hy jM (.inr (by omega))).die aqy
  rw [← mC.size] at mE
  refine ⟨_,_,_,_,mc m i (some (qN q)),js,s',fN th i none,nR mu i (mu i),gb dd i (dd i),hr,fC,h.sB hi (wk hq.status) (Nat.le_of_lt nz) (by rw [eP]; exact fb.drop (h.mem.put mC)) (by rw [eP,Nv,me]; exact mE) ?_ (other _ _ _) my,by rw [fC]; exact nz⟩
  rw [eY,sE,hd1]
  exact ⟨rfl,iR,q,rfl,hq⟩
 by_cases HX:T = .la
 ·
  subst HX
  cases dk
  obtain ⟨T2,te⟩:=Mv js ok
  obtain ⟨my,nz⟩:=h.bk.work (T':=.ul js) hd bE .la trivial rfl rfl (by simp)
  have Mu:=my.r7
  have wT:MM F Q (cq D i (.wk k j (.ul js))) s gs.size≤n':=by omega
  have Mt:(cnt D gs.size).hl=0:=by
   have:=h.bk.rC.ow; have:=h.bk.rC.l1
   have:=hle.ow
   simp only [cA,cW,Cn.busy,Cn.zero] at this
   omega
  have tp:(cnt (cq D i (.wk k j (.ul js))) gs.size).hl=1:=by
   have:=(uM (D:=D) bE (.wk k j (.ul js))).hl
   rw [hd] at this
   simp only [cA,cW,Cn.busy,Cn.zero] at this
   omega
  have e1:es=said (.acquire (am F)):=jP
  subst e1
  have hm:=h.mem
  have ht:=h.tr
  rw [Mt] at hm ht
  have pQ:dd i=0:=by rw [jO]; rfl
  have mE:=cS.acquire (b:=F.bo) (o:=F.cont js) (y:=⟨i,g.frame.fn,g.frame.place,.mark (.acquire (am F))⟩) ht hy rfl rfl pQ hbm
  rw [← mC.size,← JS] at mE
  refine ⟨_,_,_,_,mc m i (some T2),js,s,fN th i (some ⟨R,(F.bo,F.cont js)::H⟩),nR mu i (mu i),gb dd i 0,hr,fC,h.sB hi (wk (.inl (te.CY λ R H g hg=>(KW.run hg (by omega) trivial).1))) (Nat.le_of_lt nz) (by rw [tp]; exact fb.take (hm.put mC) hy (by omega)) (by rw [tp,Nv,show gb dd i 0=dd by rw [← pQ]; exact me _ _]; exact mE) ?_ (other _ _ _) my,by rw [fC]; exact nz⟩
  rw [eY,sE,On,df]
  exact ⟨iR,rfl,rfl,_,n',rfl,wT,.inl ⟨T2,rfl,te⟩⟩
 by_cases hur:gv T=true
 ·
  cases T with
  | ur js0 =>
   have hjj:js0=js:=oh
   subst hjj
   cases dk
   obtain ⟨js1,H',e1,e2,T2,te⟩:=Mv
   cases e1
   subst e2
   obtain ⟨my,nz⟩:=h.bk.ur hd bE
   have Mu:=my.r7
   have wT:MM F Q (cq D i (.wk k (j+1) .ud)) s gs.size≤n':=by omega
   have tp:(cnt D gs.size).hl≠0:=by
    have:=hle.hl
    simp only [cA,cW,Cn.busy,Cn.zero] at this
    omega
   have Mt:(cnt (cq D i (.wk k (j+1) .ud)) gs.size).hl=0:=by
    have:=(uM (D:=D) bE (.wk k (j+1) .ud)).hl
    rw [hd] at this
    simp only [cA,cW,Cn.busy,Cn.zero] at this
    have:=h.bk.rC.ow; have:=h.bk.rC.l1
    omega
   have e1:es=said (.releaseMerge (am F)):=jP
   subst e1
   have pQ:dd i=0:=by rw [jO]; rfl
   have ht:=h.tr
   rw [show pN F (cnt D gs.size).hl=none by simp [pN,tp]] at ht
   have mE:=cS.release (H':=H') (y:=⟨i,g.frame.fn,g.frame.place,.mark (.releaseMerge (am F))⟩) ht hy (List.mem_cons_self) (λ x hx=>List.mem_cons_of_mem _ hx) rfl rfl pQ hbm
   rw [← mC.size,← JS] at mE
   refine ⟨_,_,_,_,mc m i (some T2),gb js0 k (j+1),s,fN th i (some ⟨R,H'⟩),nR mu i (mu i),gb dd i 0,hr,fC,h.sB hi (wk (.inl (te.CY λ R H g hg=>(KW.run hg (by omega) trivial).1))) (Nat.le_of_lt nz) (by rw [Mt]; exact fb.am1 (h.mem.put mC) tp hy) (by rw [Mt,Nv,show gb dd i 0=dd by rw [← pQ]; exact me _ _]; exact mE) ?_ (other _ _ _) my,by rw [fC]; exact nz⟩
   rw [eY,sE,On,df]
   exact ⟨iR,rfl,rfl,_,n',rfl,wT,.inl ⟨T2,rfl,te⟩⟩
  | _=>cases hur
 have MJ:gv T=false:=by simpa using hur
 have UO:zP js T':=by
  cases dk
  case la=>exact absurd rfl HX
  case ul=>exact oh
  case r0=>exact NB _
  case r1=>exact NB _
  case r3=>exact NB _
  case xN=>exact NB _
  case x8=>exact aBL _
  case wo c _ _=>cases c.ws <;> trivial
  case s1 c _ _=>cases c.sv <;> trivial
  case x9=>exact adV _
  case ux=>exact adV _
  all_goals trivial
 obtain ⟨my,nz⟩:=h.bk.work hd bE dk zl UO MJ hq
 have Mu:=my.r7
 have wT:MM F Q (cq D i (.wk k j T')) s' gs.size≤n':=by omega
 have zk:=aBD dk HX MJ hq Mv
 have oT':pZ F.N T':=by
  have:=my.mJ i k j T' (jz _ _ _)
  exact this.1
 have eP:(cnt (cq D i (.wk k j T')) gs.size).hl=(cnt D gs.size).hl:=by
  have:=(uM (D:=D) bE (.wk k j T')).hl
  rw [hd] at this
  have e:(cW T').hl=(cW T).hl:=by
   cases dk
   case la=>exact absurd rfl HX
   case ur=>cases MJ
   case r0=>rw [rH]; rfl
   case r1=>rw [rH]; rfl
   case r3=>rw [rH]; rfl
   case xN=>rw [rH]; rfl
   case x8=>rw [QO]; rfl
   case wo c _ _=>cases c.ws <;> rfl
   case s1 c _ _=>cases c.sv <;> rfl
   case J2 c _=>generalize (c.sv && _)=b; cases b <;> rfl
   case a1 b=>cases b <;> rfl
   case x9=>unfold hu; split <;> rfl
   case ux=>unfold hu; split <;> rfl
   all_goals rfl
  simp only [cA] at this
  omega
 have Ss:g'.status = .running:=by
  cases hm:jU T' with
  | true =>
   simp only [hm,if_true] at zk
   obtain ⟨q,hq⟩:=zk
   exact hq.run λ g hg=>(hg.run (by omega) oT').1
  | false =>
   simp only [hm,Bool.false_eq_true,if_false] at zk
   obtain ⟨T2,te⟩:=zk
   exact te.CY λ R H g hg=>(KW.run hg (by omega) oT').1
 obtain ⟨m',S7⟩:∃ m',pB F (MM F Q (cq D i (.wk k j T')) s' gs.size) s' i m' (some ⟨R,H⟩) (jU T') (ob T') g' (.wk k j T'):=by
  cases hm:jU T' with
  | true =>
   simp only [hm,if_true] at zk
   obtain ⟨q,hq⟩:=zk
   exact ⟨some (qN q),iR,rfl,hm.symm,_,n',rfl,wT,by rw [if_pos hm]; exact ⟨q,rfl,hq⟩⟩
  | false =>
   simp only [hm,Bool.false_eq_true,if_false] at zk
   obtain ⟨T2,te⟩:=zk
   exact ⟨some T2,iR,rfl,hm.symm,_,n',rfl,wT,by rw [if_neg (by simp [hm])]; exact .inl ⟨T2,rfl,te⟩⟩
 have mE:cS (some (am F)) (some (aw F)) th (nR mu i (jU T')) (gb dd i (ob T')) [F.bm,F.bw] (pN F (cnt D gs.size).hl) w.heap.size (t++MemOp.ofEvents i g.frame.fn g.frame.place es):=by
  by_cases ve:T = .wr
  ·subst ve
   cases dk
   have e1:es=said (.releaseMerge (aw F)):=jP
   subst e1
   have pQ:dd i=0:=by rw [jO]; rfl
   have:=cS.aFL (y:=⟨i,g.frame.fn,g.frame.place,.mark (.releaseMerge (aw F))⟩) (i:=i) h.tr rfl rfl pQ hbw
   rw [show gb dd i (ob .wk)=dd by rw [show ob .wk=dd i from pQ.symm]; exact me _ _,JS]
   exact this
  ·have WH:jU T'=jU T→nR mu i (jU T')=mu:=λ e=>by rw [e,← df]; exact Nv
   cases evK dk jP HX MJ ve hq with
   | «at» ha e1 e2 =>
    rw [WH e2,e1,← jO,me]
    refine cS.Qh h.mem h.tr hy ha ?_
    rw [df,jO]
    cases dk <;> first | exact .inl rfl | exact .inr (Nat.le_refl _) | (cases e1)
   | yV e1 e2 e3 =>
    have:=cS.word (i:=i) (fn:=g.frame.fn) (pos:=g.frame.place) h.tr (m:=.disable) (.inl rfl)
    rw [WH e3,e2]
    rwa [show deafBehind (dd i) (said .disable)=1 by rw [jO,e1]; rfl] at this
   | en e1 e2 e3 =>
    have:=cS.word (i:=i) (fn:=g.frame.fn) (pos:=g.frame.place) h.tr (m:=.enable) (.inr rfl)
    rw [WH e3,e2]
    rwa [show deafBehind (dd i) (said .enable)=0 by rw [jO,e1]; rfl] at this
 rw [← mC.size] at mE
 refine ⟨_,_,_,_,mc m i m',js,s',fN th i (some ⟨R,H⟩),nR mu i (jU T'),gb dd i (ob T'),hr,fC,h.sB hi (wk (.inl Ss)) (Nat.le_of_lt nz) (by rw [eP,C0 hy]; exact h.mem.put mC) (by rw [eP,C0 hy]; exact mE) (by rw [eY,On,sE]; exact S7) (other _ _ _) my,by rw [fC]; exact nz⟩
end
end Go.Lg
namespace Go.Lg
open Go.Conc Go.ConcN
section
variable {F:Fx} {Q:Nat} {T0:Mp} {D:Nat→Ab} {m:Nat→Ms} {js:Nat→Nat} {s s':Sh} {th:Nat→Option Th} {mu:Nat→Bool} {dd:Nat→Nat} {gs:Array Goroutine} {w w':World} {t:Trace} {sl:Option (Nat × Nat)} {i k j:Nat} {g g':Goroutine} {R:ax} {H:an} {hl:Nat} {fn:FuncId} {pos:String}
theorem cS.aDl{mk:Mark}(hM:fb F.B th (gu F s js hl) w)(h:cS (some (am F)) (some (aw F)) th mu dd [F.bm,F.bw] (pN F hl) w.heap.size t)(hi:th 0=some ⟨R,H⟩)(hm:mk = .read (qg F)∨mk = .write (qg F))(hc:mu 0=false) :
  cS (some (am F)) (some (aw F)) th mu dd [F.bm,F.bw] (pN F hl) w.heap.size (t++MemOp.ofEvents 0 fn pos (said mk)):=by
 rw [JS]
 have hd:Deaf (t++#[⟨0,fn,pos,.mark mk⟩]) 0=dd 0:=by
  rw [Deaf_push]
  unfold deafStep
  rcases hm with rfl | rfl <;> exact h.deaf 0
 have:=cS.app (u:=#[⟨0,fn,pos,.mark mk⟩]) (n':=w.heap.size) (R':=R) (H':=H) (d':=dd 0) hM rfl (G9 F s js hl) (G8 F s js hl) h hi (λ op au=>by rw [xD au]) (λ op au a ha=>?_) (λ op au=>?_) (λ op au a=>?_) hd (.inl hc) (Nat.le_refl _) (λ _ _ x=>.inl x) (λ _ o x=>.inl ⟨o,x⟩)
 ·rwa [C0 hi,me] at this
 ·rw [xD au] at ha
  refine .inr ⟨F.bw,?_,by simp,.inr ⟨?_,rfl⟩⟩ <;> rcases hm with rfl | rfl <;> (simp only [MemAct.touch?,Option.some.injEq] at ha; subst ha; rfl)
 ·rw [xD au]
  rcases hm with rfl | rfl <;> exact Na hM
 ·rw [xD au]
  rcases hm with rfl | rfl <;> (intro x; cases x)
theorem pB.mono{μ KC:Nat}{mm:Ms}{x:Option Th}{b:Bool}{d:Nat}{A:Ab}(h:pB F μ s i mm x b d g A)(hle:KC≤μ):pB F KC s i mm x b d g A:=by
 cases A with
 | no=>exact h
 | wk k j T =>
  obtain ⟨h1,h2,h3,y,n,h4,hn,h⟩:=h
  exact ⟨h1,h2,h3,y,n,h4,by omega,h⟩
 | mn T =>
  obtain ⟨h1,h2,h3,y,n,h4,hn,h⟩:=h
  exact ⟨h1,h2,h3,y,n,h4,by omega,h⟩
inductive Gm (F:Fx):Mp→Mp→Array Event→Prop
 | at {T T' es}:pA F es→oO T'=oO T→Gm F T T' es
 | yV {T T'}:oO T=0→oO T'=1→Gm F T T' (said .disable)
 | en {T T'}:oO T=1→oO T'=0→Gm F T T' (said .enable)
 | sd {T T' mk}:oO T'=oO T→mk = .read (qg F)∨mk = .write (qg F)→Gm F T T' (said mk)
theorem evN{T T':Mp}(dk:gg T s T' s'){es:Array Event}(he:AV F T es)(h1:T ≠ .wq):Gm F T T' es:=by
 cases dk
 case ka=>rw [show es=said .disable from he]; exact .yV rfl rfl
 case wa=>rw [show es=said .disable from he]; exact .yV rfl rfl
 case ke=>rw [show es=said .enable from he]; exact .en rfl rfl
 case we=>rw [show es=said .enable from he]; exact .en rfl rfl
 case kd=>rw [show es=said (.read (qg F)) from he]; exact .sd rfl (.inl rfl)
 case wW=>rw [show es=said (.write (qg F)) from he]; exact .sd rfl (.inr rfl)
 case wq=>exact absurd rfl h1
 all_goals exact .at he rfl
theorem aai(h:MI F Q T0 D m js s th mu dd gs w t)(hi:gs[0]? = some g):dd 0=oO T0∧mu 0=false:=by
 have:=h.vQ 0 g hi
 rw [h.bk.d0] at this
 exact ⟨this.2.1,this.2.2.1⟩
theorem KM.go_{n r:Nat}(h:KM F (n+1) (.go r) R H g):∀ w s,Fits F.B R H w→fp F s w→ov F.N (.go r) s→∃ g' child,stepG F.P true g w = .spawn g' child w #[]∧Own F.P F.B false (KW F n (F.N - (r+1)) 0 .ld) R [] child∧Own F.P F.B true (KM F n (kq r)) R H g':=h.2.2
theorem KM.wq_{n:Nat}(h:KM F (n+1) .wq R H g):∀ w s,Fits F.B R H w→fp F s w→ov F.N .wq s→∃ g' w',stepG F.P true g w = .go g' w' (said (.acquire (aw F)))∧cb F s w w'∧∀ js,(∀ k,k < F.N→js k=F.J)→F.mj R ((F.bo,F.cont js)::H) g':=h.2.2
theorem KM.other{n:Nat}{T:Mp}(h:KM F (n+1) T R H g)(h1:∀ r,T ≠ .go r)(h2:T ≠ .wq):∀ w s,Fits F.B R H w→fp F s w→ov F.N T s→(T = .w3∧s.ws=0∧stepG F.P true g w = .go { g with status:=.blocked } w #[]) ∨
  ∃ g' w' es T' s',gg T s T' s'∧AV F T es∧stepG F.P true g w = .go g' w' es∧cb F s' w w'∧Own F.P F.B true (KM F n T') R H g':=by
 cases T <;> first | exact absurd rfl (h1 _) | exact absurd rfl h2 | exact h.2.2
theorem MI.main(h:MI F Q T0 D m js s th mu dd gs w t)(hi:gs[0]? = some g){y:Th}(hy:th 0=some y){n:Nat}(hn:MM F Q D s gs.size≤n)(hK:KM F n T0 y.R y.H g)(h2:T0 ≠ .wq) :
  (T0 = .w3∧s.ws=0∧stepG F.P true g w = .go { g with status:=.blocked } w #[]) ∨
  ∃ iC ik w' ops D' m' iq s' jx mu' dd',(∀ sl,runT F.P (crowd gs w sl) 0=(.next (crowd ik w' sl),ops))∧MI F Q iC D' m' iq s' jx mu' dd' ik w' (t++ops)∧MM F Q D' s' ik.size < MM F Q D s gs.size:=by
 have bE:=BX hi
 obtain ⟨jO,df⟩:=aai h hi
 have hMp:=h.bk.r7
 obtain ⟨n',rfl⟩:∃ n',n=n'+1:=⟨n - 1,by omega⟩
 obtain ⟨R,H⟩:=y
 have hf:=h.mem.fits 0 _ hy
 have bg:=PK h.mem
 have iQ:=h.bk.aig.ov
 by_cases h1:∃ r,T0 = .go r
 ·
  right
  obtain ⟨r,rfl⟩:=h1
  obtain ⟨g',child,cL,⟨T1,hc⟩,⟨T2,hg⟩⟩:=hK.go_ w s hf bg iQ
  obtain ⟨my,nz⟩:=h.bk.spawn
  have Mu:=my.r7
  obtain ⟨o1,o2,o3⟩:=h.out gs.size (Nat.le_refl _)
  have fC:((gs.setIfInBounds 0 g').push child).size=gs.size+1:=by simp
  have hh:(cnt (cq (cq D gs.size (.wk (F.N - (r+1)) 0 .ld)) 0 (.mn (kq r))) (gs.size+1)).hl=(cnt D gs.size).hl:=by
   have:=(aag (D:=D) h.bk.pos (.mn (kq r)) (.wk (F.N - (r+1)) 0 .ld) rfl (by rw [h.bk.d0]; rfl)).hl
   simpa [cA,cW,Cn.busy,Cn.zero] using this
  have hr:∀ sl,runT F.P (crowd gs w sl) 0=(.next (crowd ((gs.setIfInBounds 0 g').push child) w sl),#[⟨0,g.frame.fn,g.frame.place,.go gs.size⟩,⟨gs.size,child.frame.fn,g.frame.place,.start⟩]):=λ sl=>by
   have:=runT_crowd_spawn (P:=F.P) (sl:=sl) hi (show stepG F.P (0 == 0) g w=_ from cL)
   rw [this]
   simp [MemOp.ofEvents]
  have pQ:dd 0=0:=by rw [jO]; rfl
  have mE:=h.tr.spawn (c:=gs.size) (x:=⟨0,g.frame.fn,g.frame.place,.go gs.size⟩) (y:=⟨gs.size,child.frame.fn,g.frame.place,.start⟩) hy (aS.refl R) o1 ⟨rfl,rfl⟩ ⟨rfl,rfl⟩ pQ o3 (by omega) o2
  have mB:=h.mem.add (c:=gs.size) hy (aS.refl R)
  refine ⟨kq r,_,w,_,_,mc (mc m gs.size (some T1)) 0 (some T2),js,s,_,mu,gb dd 0 (oO (kq r)),hr,⟨by rw [fC,hh]; exact mB,?_,λ a x ha=>?_,λ a ha=>?_,by rw [fC]; exact my⟩,by rw [fC]; exact nz⟩
  ·rw [fC,hh]
   have:gb dd 0 (oO (kq r))=dd:=by
    rw [show oO (kq r)=dd 0 by rw [pQ]; cases r <;> rfl]; exact me _ _
   rw [this]; exact mE
  ·rw [fC]
   by_cases uY:a=0
   ·subst uY
    rw [Array.getElem?_push,if_neg (by simp; omega),Array.getElem?_setIfInBounds_self_of_lt bE] at ha
    cases ha
    rw [jz,Kb,sE,eA (by omega),hy,df]
    exact ⟨rfl,rfl,rfl,_,n',rfl,by omega,.inl ⟨T2,rfl,hg⟩⟩
   ·by_cases Mg:a=gs.size
    ·subst Mg
     rw [Array.getElem?_push,if_pos (by simp)] at ha
     cases ha
     rw [ft (by omega),jz,F0 (by omega),Kb,sD (by omega),eY,o2,o3]
     exact ⟨by omega,rfl,rfl,_,n',rfl,by omega,by rw [if_neg (by simp [jU])]; exact .inl ⟨T1,rfl,hc⟩⟩
    ·rw [Array.getElem?_push,if_neg (by simp; omega),Array.getElem?_setIfInBounds_ne (by omega)] at ha
     rw [ft uY,ft Mg,F0 uY,F0 Mg,sD uY,eA Mg]
     exact (h.vQ a x ha).mono (Nat.le_of_lt nz)
  ·rw [fC] at ha
   rw [eA (by omega),sD (by omega)]
   exact h.out a (by omega)
 have uT:∀ r,T0 ≠ .go r:=λ r e=>h1 ⟨r,e⟩
 rcases hK.other uT h2 w s hf bg iQ with hb | ⟨g',w',es,T',s',dk,jP,cL,mC,T2,te⟩
 ·exact .inl hb
 right
 have ape:T' ≠ .fin:=λ e=>by subst e; cases dk; exact h2 rfl
 have hr:∀ sl,runT F.P (crowd gs w sl) 0=(.next (crowd ((gs.map (Conc.woken F.P g g' w')).setIfInBounds 0 g') w' sl),MemOp.ofEvents 0 g.frame.fn g.frame.place es):=λ sl=>runT_crowd_go hi (show stepG F.P (0 == 0) g w=_ from cL)
 have fC:((gs.map (Conc.woken F.P g g' w')).setIfInBounds 0 g').size=gs.size:=by simp
 obtain ⟨my,nz⟩:=h.bk.aBn dk ape
 have Mu:=my.r7
 have eP:(cnt (cq D 0 (.mn T')) gs.size).hl=(cnt D gs.size).hl:=by
  have:=(uM (D:=D) bE (.mn T')).hl
  rw [h.bk.d0] at this
  simpa [cA,Cn.zero] using this
 have mE:cS (some (am F)) (some (aw F)) th mu (gb dd 0 (oO T')) [F.bm,F.bw] (pN F (cnt D gs.size).hl) w.heap.size (t++MemOp.ofEvents 0 g.frame.fn g.frame.place es):=by
  cases evN dk jP h2 with
  | «at» ha e1 =>
   rw [e1,← jO,me]
   exact cS.Qh h.mem h.tr hy ha (.inl df)
  | yV e1 e2 =>
   have:=cS.word (i:=0) (fn:=g.frame.fn) (pos:=g.frame.place) h.tr (m:=.disable) (.inl rfl)
   rw [e2]
   rwa [show deafBehind (dd 0) (said .disable)=1 by rw [jO,e1]; rfl] at this
  | en e1 e2 =>
   have:=cS.word (i:=0) (fn:=g.frame.fn) (pos:=g.frame.place) h.tr (m:=.enable) (.inr rfl)
   rw [e2]
   rwa [show deafBehind (dd 0) (said .enable)=0 by rw [jO,e1]; rfl] at this
  | sd e1 e2 =>
   rw [e1,← jO,me]
   exact cS.aDl h.mem h.tr hy e2 df
 rw [← mC.size] at mE
 refine ⟨T',_,_,_,_,mc m 0 (some T2),js,s',fN th 0 (some ⟨R,H⟩),nR mu 0 (mu 0),gb dd 0 (oO T'),hr,h.sB hi (.inr dk.XP) (Nat.le_of_lt nz) (by rw [eP,C0 hy]; exact h.mem.put mC) ?_ ?_ (λ j hj=>⟨eA hj,Xx hj,sD hj⟩) my,by rw [fC]; exact nz⟩
 ·rw [eP,C0 hy,show nR mu 0 (mu 0)=mu by funext j; unfold nR; split <;> simp [*]]; exact mE
 ·rw [eY,On,sE,df]
  exact ⟨rfl,rfl,rfl,_,n',rfl,by omega,.inl ⟨T2,rfl,te⟩⟩
theorem MI.aEd(h:MI F Q .wq D m js s th mu dd gs w t)(hi:gs[0]? = some g){y:Th}(hy:th 0=some y){n:Nat}(hn:MM F Q D s gs.size≤n)(hK:KM F n .wq y.R y.H g) :
  ∃ ik g' w' ops q dd' R' H',(∀ sl,runT F.P (crowd gs w sl) 0=(.next (crowd ik w' sl),ops))∧ik[0]? = some g'∧F.mj R' H' g'∧v9 F.P F.B R' H' ik w' (t++ops) q dd':=by
 have bE:=BX hi
 obtain ⟨jO,df⟩:=aai h hi
 have hMp:=h.bk.r7
 obtain ⟨n',rfl⟩:∃ n',n=n'+1:=⟨n - 1,by omega⟩
 obtain ⟨R,H⟩:=y
 obtain ⟨g',w',cL,mC,rO⟩:=hK.wq_ w s (h.mem.fits 0 _ hy) (PK h.mem) h.bk.aig.ov
 have hwg:=h.bk.aig.wg
 obtain ⟨_,_,_,hlv,hdw,hd4⟩:=hwg
 have heq:=h.bk.aig.eq
 have aMz:(cnt D gs.size).jy=0:=by omega
 have adS:∀ a k j T,D a ≠ .wk k j T:=λ a k j T e=>by
  have ha:a < gs.size:=by
   apply Classical.byContradiction
   intro hn
   rw [h.bk.out a (by omega)] at e; cases e
  have hle:=wx (D:=D) ha
  rw [e] at hle
  have hq:T ≠ .quit:=λ e'=>by
   have:=(h.bk.mJ a k j T e).2.1
   subst e'; exact this
  have e1:=hle.lv
  have e2:=hle.dw
  have e3:=hle.d4
  simp only [cA] at e1 e2 e3
  cases T <;> simp only [cW,Cn.busy,Cn.zero] at e1 e2 e3 <;> first | omega | skip
  case a1 b=>cases b <;> simp only [Bool.false_eq_true,if_false,if_true] at e1 <;> omega
  case quit=>exact hq rfl
 have P9:∀ a,a≠0→D a = .no:=λ a ha=>by
  cases hd:D a with
  | no=>rfl
  | wk k j T=>exact absurd hd (adS a k j T)
  | mn T=>exact absurd (h.bk.main a T hd) ha
 have hhl:(cnt D gs.size).hl=0:=by
  have:∀ n,c8 n (λ a=>(cA (D a)).hl)=0:=λ n=>by
   have e:c8 n (λ a=>(cA (D a)).hl)=c8 n (λ _=>0):=Ka λ a _=>by
    by_cases ha:a=0
    ·subst ha; rw [h.bk.d0]; rfl
    ·rw [P9 a ha]; rfl
   rw [e]
   have hz:∀ n,c8 n (λ _=>0)=0:=by intro n; induction n with | zero=>rfl | succ n ih=>simp only [c8,ih]
   exact hz n
  exact this _
 have UM:th=only ⟨R,H⟩:=by
  funext a
  unfold only
  split
  ·rename_i e; subst e; exact hy
  ·rename_i e
   rcases Nat.lt_or_ge a gs.size with hl | hg
   ·have:=h.vQ a _ (Array.getElem?_eq_getElem hl)
    rw [P9 a e] at this
    exact this.1
   ·exact (h.out a hg).1
 have gU:∀ k,k < F.N→js k=F.J:=λ k hk=>by
  rcases h.bk.done k (by simpa [rem] using hk) with z | ⟨a,j,T,z⟩
  ·exact z
  ·exact absurd z (adS a k j T)
 have pQ:dd 0=0:=by rw [jO]; rfl
 have hm:=h.mem.put mC
 have ht:=h.tr
 rw [hhl,UM] at hm ht
 have Bb:F.bo < w.heap.size:=by rw [← mC.size]; exact lb (hm.ny F.bo (F.cont js) (by simp [gu]))
 have mE:=cS.aFw (b:=F.bo) (o:=F.cont js) (y:=⟨0,g.frame.fn,g.frame.place,.mark (.acquire (aw F))⟩) ht Bb rfl rfl pQ df (Na h.mem)
 rw [← mC.size,← JS] at mE
 have mB:=fb.take (hl':=1) hm (i:=0) rfl (by omega)
 rw [NG] at mB
 have hr:∀ sl,runT F.P (crowd gs w sl) 0=(.next (crowd ((gs.map (Conc.woken F.P g g' w')).setIfInBounds 0 g') w' sl),MemOp.ofEvents 0 g.frame.fn g.frame.place (said (.acquire (aw F)))):=λ sl=>runT_crowd_go hi (show stepG F.P (0 == 0) g w=_ from cL)
 have fC:((gs.map (Conc.woken F.P g g' w')).setIfInBounds 0 g').size=gs.size:=by simp
 refine ⟨_,g',w',_,λ a=>match m a with | some T=>Classical.epsilon λ q=>m a=some (qN q)∧∀ x,gs[a]? = some x→QuitsD F.P q (dd a) x | none=>0,dd,R,(F.bo,F.cont js)::H,hr,Array.getElem?_setIfInBounds_self_of_lt (by simpa using bE),rO js gU,⟨⟨mB.fits,mB.apart,λ c o hc=>(by cases hc),λ c o hc=>(by cases hc)⟩,mE,pQ,λ a ha=>(h.out a (by simpa using ha)).2.2,λ a x ha hx=>?_⟩⟩
 rw [Array.getElem?_setIfInBounds_ne (by omega),Array.getElem?_map] at hx
 obtain ⟨z,hz,rfl⟩:=Option.map_eq_some_iff.1 hx
 have hs:=h.vQ a z hz
 rw [P9 a (by omega)] at hs
 obtain ⟨_,_,q,hq,hQ⟩:=hs
 rw [woken_quitsD hQ]
 have hex:∃ q,m a=some (qN q)∧∀ x,gs[a]? = some x→QuitsD F.P q (dd a) x:=⟨q,hq,λ x hx=>by rw [hz] at hx; cases hx; exact hQ⟩
 have:=(Classical.epsilon_spec hex).2 z hz
 simp only [hq] at this ⊢
 exact this
def N6(m:Nat→Ms)(gs:Array Goroutine):Nat:=c8 gs.size λ a=>if (m a).isNone∧(gs[a]?.map (·.status))=some .running then 1 else 0
def GA(a b:Nat × List Ms × Nat):Prop:=a.1 < b.1∨(a.1=b.1∧(One oI a.2.1 b.2.1∨(a.2.1=b.2.1∧a.2.2 < b.2.2)))
theorem GA.wf:WellFounded GA:=by
 have key:∀ p l r,Acc GA (p,l,r):=by
  intro p
  induction p using Nat.strongRecOn with
  | ind p ihp =>
   intro l
   induction l using One.wf.induction with
   | _ l VZ =>
    intro r
    induction r using Nat.strongRecOn with
    | ind r ihr =>
     refine ⟨_,λ y hy=>?_⟩
     obtain ⟨q,l',r'⟩:=y
     rcases hy with h | ⟨h1,h2 | ⟨h2,h3⟩⟩
     ·exact ihp q h l' r'
     ·simp only at h1; subst h1; exact VZ l' h2 r'
     ·simp only at h1 h2; subst h1 h2; exact ihr r' h3
 exact ⟨λ ⟨p,l,r⟩=>key p l r⟩
def Fp(F:Fx)(Q:Nat)(D:Nat→Ab)(m:Nat→Ms)(s:Sh)(gs:Array Goroutine):Nat × List Ms × Nat:=(MM F Q D s gs.size,(List.range gs.size).map m,N6 m gs)
theorem WG{m:Nat→Ms}{n i:Nat}{a b:Ms}(hi:i < n)(hb:m i=b)(hl:oI a b):One oI ((List.range n).map (mc m i a)) ((List.range n).map m):=by
 have e:(List.range n).map (mc m i a)=((List.range n).map m).set i a:=by
  apply List.ext_getElem?
  intro j
  rw [List.getElem?_set]
  by_cases hj:i=j
  ·subst hj; simp [hi,Kb]
  ·simp only [hj,if_false,List.getElem?_map]
   cases hr:(List.range n)[j]? with
   | none=>rfl
   | some k =>
    have hk:k=j:=by
     obtain ⟨_,h2⟩:=List.getElem?_eq_some_iff.1 hr
     simpa using h2.symm
    subst hk
    simp [F0 (Ne.symm hj)]
 rw [e]
 exact One.set (by simp [hi,hb]) hl
end
end Go.Lg
namespace Go.Lg
open Go.Conc Go.ConcN
theorem Xr{f:Nat→Nat}:∀ {n:Nat},0 < c8 n f→∃ i,i < n∧0 < f i
 | n+1,h=>by
  simp only [c8] at h
  rcases Nat.eq_zero_or_pos (f n) with hz | hp
  ·obtain ⟨i,hi,h2⟩:=Xr (n:=n) (f:=f) (by omega)
   exact ⟨i,by omega,h2⟩
  ·exact ⟨n,by omega,hp⟩
section
variable {F:Fx} {Post:Value→World→Prop} {Q:Nat} {T0:Mp} {D:Nat→Ab} {m:Nat→Ms} {js:Nat→Nat} {s s':Sh} {th:Nat→Option Th} {mu:Nat→Bool} {dd:Nat→Nat} {gs:Array Goroutine} {w w':World} {t:Trace} {sl:Option (Nat × Nat)} {i k j:Nat} {g g':Goroutine}
theorem MI.look(h:MI F Q T0 D m js s th mu dd gs w t)(hi:gs[i]? = some g):(g.status = .running)∨(g.status = .finished∧D i = .no)∨(g.status = .blocked∧m i=none∧((∃ k j c,D i = .wk k j (.s1 c)∧s.ms=0)∨(D i = .mn .w3∧s.ws=0))) :=
 (h.vQ i g hi).look h.bk.r7 (h.mJ i)
theorem MI.awake(h:MI F Q T0 D m js s th mu dd gs w t):∀ x∈gs,awake x:=by
 intro x hx
 obtain ⟨i,hi,rfl⟩:=Array.mem_iff_getElem.1 hx
 rcases h.look (Array.getElem?_eq_getElem hi) with e | ⟨e,_⟩ | ⟨e,_⟩
 ·exact awake_of (.inl e)
 ·exact awake_of (.inr (.inr e))
 ·exact awake_of (.inr (.inl e))
theorem MI.aeK(h:MI F Q T0 D m js s th mu dd gs w t):∃ (i:Nat) (g:Goroutine),gs[i]? = some g∧g.status = .running:=by
 apply Classical.byContradiction
 intro Bi
 have wkr:∀ i,i < gs.size→∀ k j T,D i = .wk k j T→∃ c,T = .s1 c∧s.ms=0:=λ i hi k j T hd=>by
  rcases h.look (Array.getElem?_eq_getElem hi) with e | ⟨_,e⟩ | ⟨_,_,⟨k',j',c,e,hz⟩ | ⟨e,_⟩⟩
  ·exact absurd ⟨i,_,Array.getElem?_eq_getElem hi,e⟩ Bi
  ·rw [hd] at e; cases e
  ·rw [hd] at e; cases e; exact ⟨c,rfl,hz⟩
  ·rw [hd] at e; cases e
 have tS:∀ f:Cn→Nat,f .zero=0→(∀ c,f (cW (.s1 c))=0)→c8 gs.size (λ i=>f (cA (D i)))=0:=λ f h0 h1=>by
  apply Classical.byContradiction
  intro hp
  obtain ⟨i,hi,tt⟩:=Xr (n:=gs.size) (f:=λ i=>f (cA (D i))) (by omega)
  cases hd:D i with
  | no=>rw [hd] at tt; simp only [cA] at tt; omega
  | mn T=>rw [hd] at tt; simp only [cA] at tt; omega
  | wk k j T =>
   obtain ⟨c,rfl,_⟩:=wkr i hi k j T hd
   rw [hd] at tt; simp only [cA,h1] at tt; omega
 have hw3:T0 = .w3∧s.ws=0:=by
  have hi:=Array.getElem?_eq_getElem h.bk.pos
  rcases h.look hi with e | ⟨_,e⟩ | ⟨_,_,⟨k',j',c,e,hz⟩ | ⟨e,hz⟩⟩
  ·exact absurd ⟨0,_,hi,e⟩ Bi
  ·rw [h.bk.d0] at e; cases e
  ·rw [h.bk.d0] at e; cases e
  ·rw [h.bk.d0] at e; cases e; exact ⟨rfl,hz⟩
 obtain ⟨rfl,kl⟩:=hw3
 have hdw:(cnt D gs.size).dw=0:=tS (·.dw) rfl λ _=>rfl
 have hd4:(cnt D gs.size).d4=0:=tS (·.d4) rfl λ _=>rfl
 have l6:(cnt D gs.size).ow=0:=tS (·.ow) rfl λ _=>rfl
 have hhl:(cnt D gs.size).hl=0:=tS (·.hl) rfl λ _=>rfl
 have hpu:(cnt D gs.size).pu=0:=tS (·.pu) rfl λ _=>rfl
 have hpc:(cnt D gs.size).pc=0:=tS (·.pc) rfl λ _=>rfl
 have HF:(cnt D gs.size).al=0:=tS (·.al) rfl λ _=>rfl
 have ha1:(cnt D gs.size).a1=0:=tS (·.a1) rfl λ _=>rfl
 have hak:(cnt D gs.size).ak=0:=tS (·.ak) rfl λ _=>rfl
 have hux:(cnt D gs.size).ux=0:=tS (·.ux) rfl λ _=>rfl
 have hwk:(cnt D gs.size).wk=0:=tS (·.wk) rfl λ _=>rfl
 have hlv:0 < (cnt D gs.size).lv:=by
  rcases h.bk.aig.wg with ⟨_,_,_,h4,⟨_,h6⟩ | ⟨h5,_⟩⟩ | ⟨_,_,_,_,h5⟩
  ·omega
  ·omega
  ·omega
 have heq:=h.bk.aig.eq
 unfold Cn.jy at heq
 have hz:0 < (cnt D gs.size).z:=by omega
 obtain ⟨i,hi,tt⟩:=Xr (n:=gs.size) (f:=λ i=>(cA (D i)).z) hz
 have Ei:s.ms=0:=by
  cases hd:D i with
  | no=>rw [hd] at tt; simp [cA,Cn.zero] at tt
  | mn T=>rw [hd] at tt; simp [cA,Cn.zero] at tt
  | wk k j T=>exact (wkr i hi k j T hd).choose_spec.2
 have a1:=h.bk.rC.ow
 have a2:=h.bk.rC.md
 have a3:=h.bk.rC.i4
 omega
theorem aBr{gs:Array Goroutine}{g:Goroutine}{w:World}:gs.map (Conc.woken F.P g { g with status:=.blocked } w)=gs:=by
 have:Conc.woken F.P g { g with status:=.blocked } w=id:=by funext o; simp [Conc.woken]
 rw [this,Array.map_id]
theorem MI.ghost(h:MI F Q T0 D m js s th mu dd gs w t)(hi:gs[i]? = some g){m':Ms}{x:Th}{R:ax}{H:an}(UM:th i=some ⟨R,H⟩)(hu:fF F.B R H w x.R x.H w)(hs:pB F (MM F Q D s gs.size) s i m' (some x) (mu i) (dd i) g (D i)) :
  MI F Q T0 D (mc m i m') js s (fN th i (some x)) mu dd gs w t:=by
 obtain ⟨hm,ht⟩:=abE h.mem (G9 F s js _) (G8 F s js _) h.tr UM hu
 have bE:=BX hi
 refine ⟨hm,ht,λ a y ha=>?_,λ a ha=>?_,h.bk⟩
 ·by_cases e:a=i
  ·subst e
   rw [hi] at ha; cases ha
   rw [Kb,eY]; exact hs
  ·rw [F0 e,eA e]; exact h.vQ a y ha
 ·rw [eA (by omega)]; exact h.out a ha
theorem MI.aCx(rO:F.mj=iB F.P F.B Post):∀ (μ:Nat × List Ms × Nat) (gs:Array Goroutine) (w:World) (sl:Option (Nat × Nat)) (t:Trace) (T0:Mp) (D:Nat→Ab) (m:Nat→Ms) (js:Nat→Nat) (s:Sh) (th:Nat→Option Th) (mu:Nat→Bool) (dd:Nat→Nat),
  MI F Q T0 D m js s th mu dd gs w t→Fp F Q D m s gs=μ→∀ i g,gs[i]? = some g→g.status = .running→∀ m0,stepT F.P m0=runT F.P (crowd gs w sl) i→kW F.P Post m0 t:=by
 intro μ
 induction μ using GA.wf.induction with
 | _ μ ih =>
  intro gs w sl t T0 D m js s th mu dd h VX i g hi kh m0 Eh
  subst VX
  have bE:=BX hi
  have next:∀ (ik:Array Goroutine) (w':World) (p7:Option (Nat × Nat)) (t':Trace) (iC:Mp) (D':Nat→Ab) (m':Nat→Ms) (iq:Nat→Nat) (s':Sh) (jx:Nat→Option Th) (mu':Nat→Bool) (dd':Nat→Nat),MI F Q iC D' m' iq s' jx mu' dd' ik w' t' →
    GA (Fp F Q D' m' s' ik) (Fp F Q D m s gs)→kW F.P Post (crowd ik w' p7) t':=by
   intro ik w' p7 t' iC D' m' iq s' jx mu' dd' h' hl
   obtain ⟨a,ga,d,Xi,ha,Bo,cL⟩:=crowd_pick (P:=F.P) (gs:=ik) (w:=w') (sl:=p7) h'.awake h'.aeK
   exact ih _ hl ik (w'.at d) Xi t' iC D' m' iq s' jx mu' dd' (h'.at d) rfl a ga ha Bo _ cL
  have hs:=h.vQ i g hi
  have go:∀ (m':Ms) (x:Option Th) (d':Nat) (g':Goroutine) (w':World) (es:Array Event),stepG F.P (i == 0) g w = .go g' w' es→fb F.B (fN th i x) (gu F s js (cnt D gs.size).hl) w' →
    cS (some (am F)) (some (aw F)) (fN th i x) mu (gb dd i d') [F.bm,F.bw] (pN F (cnt D gs.size).hl) w'.heap.size (t++MemOp.ofEvents i g.frame.fn g.frame.place es) →
    pB F (MM F Q D s gs.size) s i m' x (mu i) d' g' (D i)→(oI m' (m i)∨(m'=m i∧m i=none∧g'={ g with status:=.blocked }))→kW F.P Post m0 t:=by
   intro m' x d' g' w' es cL hm ht S7 Ei
   have hr:=runT_crowd_go (P:=F.P) (sl:=sl) hi cL
   have hP:=h.still hi (m':=m') (jx:=fN th i x) (dd':=gb dd i d') (g':=g') (w':=w') hm ht (by rw [eY,sE]; exact S7) (λ a ha=>⟨eA ha,sD ha⟩)
   refine kW.step (Eh.trans hr) (next _ _ _ _ _ _ _ _ _ _ _ _ hP ?_)
   have fC:((gs.map (Conc.woken F.P g g' w')).setIfInBounds i g').size=gs.size:=by simp
   unfold Fp
   rw [fC]
   rcases Ei with hl | ⟨e1,e2,e3⟩
   ·exact .inr ⟨rfl,.inl (WG bE rfl hl)⟩
   ·subst e3
    have em:mc m i m'=m:=by funext a; unfold mc; split <;> simp [*]
    refine .inr ⟨rfl,.inr ⟨by rw [em],?_⟩⟩
    show N6 _ _ < N6 _ _
    rw [em]
    unfold N6
    rw [fC,aBr]
    have:=CW (f:=λ a=>if (m a).isNone∧(gs[a]?.map (·.status))=some .running then 1 else 0) (g:=λ a=>if (m a).isNone∧(((gs.setIfInBounds i { g with status:=.blocked })[a]?).map (·.status))=some .running then 1 else 0) bE (λ a ha=>by
     simp only [Array.getElem?_setIfInBounds_ne (Ne.symm ha)])
    simp only [e2,hi,Option.isNone_none,Option.map_some,kh,true_and,if_true,Array.getElem?_setIfInBounds_self_of_lt bE] at this
    simp at this
    simp
    omega
  have Ag:∀ x,th i=x→fN th i x=th:=λ x hx=>C0 hx
  have nx:(∃ ik w' ops D' m' iq s' jx mu' dd',(∀ sl,runT F.P (crowd gs w sl) i=(.next (crowd ik w' sl),ops))∧ik.size=gs.size∧MI F Q T0 D' m' iq s' jx mu' dd' ik w' (t++ops)∧MM F Q D' s' ik.size < MM F Q D s gs.size)→kW F.P Post m0 t:=by
   rintro ⟨ik,w',ops,D',m',iq,s',jx,mu',dd',hr,_,hP,hl⟩
   exact kW.step (Eh.trans (hr sl)) (next _ _ _ _ _ _ _ _ _ _ _ _ hP (.inl hl))
  cases hd:D i with
  | no =>
   rw [hd] at hs
   obtain ⟨hn,iR,q,hq,hQ⟩:=hs
   have wR:(i == 0)=false:=by simp; omega
   cases q with
   | zero=>rw [hQ.1] at kh; cases kh
   | succ q =>
    rcases hQ with e | ⟨_,g',es,nF,cL,hQ⟩
    ·rw [e.1] at kh; cases kh
    ·refine go (some (qN q)) none (deafBehind (dd i) es) g' w es (by rw [wR]; exact cL w) ?_ ?_ ?_ (.inl (by rw [hq]; exact adO q))
     ·rw [Ag _ hn]; exact h.mem
     ·rw [Ag _ hn]; exact h.tr.leaves nF
     ·rw [hd]; exact ⟨rfl,iR,q,rfl,hQ⟩
  | wk k j T =>
   rw [hd] at hs
   obtain ⟨iR,jO,df,y,n,hy,hn,hs⟩:=hs
   have wR:(i == 0)=false:=by simp; omega
   have stop:KW F n k j T y.R y.H g→kW F.P Post m0 t:=by
    intro hK
    rcases h.work hi hd hy hn hK with ⟨⟨c,rfl⟩,hz,cL⟩ | hN
    ·refine go none (some y) (dd i) _ w #[] (by rw [wR]; exact cL) ?_ ?_ ?_ ?_
     ·rw [Ag _ hy]; exact h.mem
     ·rw [Ag _ hy,me,ofEvents_none,Array.append_empty]; exact h.tr
     ·rw [hd]
      have ho:=h.mJ i k j _ hd
      have hp:=h.bk.r7
      exact ⟨iR,jO,df,y,n,rfl,hn,by rw [if_neg (by simp [jU])]; exact .inr ⟨rfl,⟨c,rfl⟩,g,hK,kh,(KW.run hK (by omega) ho).2,.inr ⟨rfl,hz⟩⟩⟩
     ·cases hmi:m i with
      | none=>exact .inr ⟨rfl,rfl,rfl⟩
      | some T'=>exact .inl .none
    ·exact nx hN
   by_cases Ej:jU T=true
   ·rw [if_pos Ej] at hs
    obtain ⟨q,hq,hQ⟩:=hs
    cases q with
    | zero=>exact stop hQ
    | succ q =>
     rcases hQ with hK | ⟨_,g',cL,hQ⟩
     ·exact stop hK
     ·refine go (some (qN q)) (some y) (dd i) g' w #[] (by rw [wR]; exact cL w) ?_ ?_ ?_ (.inl (by rw [hq]; exact adO q))
      ·rw [Ag _ hy]; exact h.mem
      ·rw [Ag _ hy,me,ofEvents_none,Array.append_empty]; exact h.tr
      ·rw [hd]; exact ⟨iR,jO,df,y,n,rfl,hn,by rw [if_pos Ej]; exact ⟨q,rfl,hQ⟩⟩
   ·rw [if_neg Ej] at hs
    have hmf:mu i=false:=by rw [df]; simpa using Ej
    rcases hs with ⟨Tr,HE,hO⟩ | ⟨hm,⟨c,rfl⟩,g0,hK,hr0,nG,hg⟩
    ·obtain ⟨ι,f⟩:=Tr
     obtain ⟨R,H⟩:=y
     rcases hO with hK | ⟨_,cL⟩ | ⟨R',H',a,Su,hO⟩
     ·exact stop hK
     ·obtain ⟨g',w',es,R',H',a,h1,h2,h3,h4⟩:=cL w (h.mem.fits i _ hy)
      obtain ⟨hm,ht⟩:=JW h.mem (G9 F s js _) (G8 F s js _) h.tr hy (.inl hmf) h2 (.inl hmf) h3 g.frame.fn g.frame.place
      refine go (some (f a)) (some ⟨R',H'⟩) (dd i) g' w' es (by rw [wR]; exact h1) hm (by rw [me]; exact ht) ?_ (.inl (by rw [HE]; exact .some (.mk f a)))
      rw [hd]; exact ⟨iR,jO,df,_,n,rfl,hn,by rw [if_neg Ej]; exact .inl ⟨f a,rfl,h4⟩⟩
     ·have hP:=h.ghost (x:=⟨R',H'⟩) (m':=some (f a)) hi hy (Su w (h.mem.fits i _ hy)) (by rw [hd]; exact ⟨iR,jO,df,_,n,rfl,hn,by rw [if_neg Ej]; exact .inl ⟨f a,rfl,hO⟩⟩)
      exact ih (Fp F Q D (mc m i (some (f a))) s gs) (.inr ⟨rfl,.inl (WG bE HE (.some (.mk f a)))⟩) gs w sl t _ _ _ _ _ _ _ _ hP rfl i g hi kh m0 Eh
    ·rcases hg with rfl | ⟨rfl,_⟩
     ·exact stop hK
     ·cases kh
  | mn T =>
   have h0:i=0:=h.bk.main i T hd
   subst h0
   have zb:T=T0:=by have:=h.bk.d0; rw [hd] at this; cases this; rfl
   subst zb
   rw [hd] at hs
   obtain ⟨_,jO,df,y,n,hy,hn,hs⟩:=hs
   have stop:KM F n T y.R y.H g→kW F.P Post m0 t:=by
    intro hK
    by_cases hwq:T = .wq
    ·subst hwq
     obtain ⟨ik,g',w',ops,q,dd',R',H',hr,Ss,hJ,hA⟩:=h.aEd hi hy hn hK
     rw [rO] at hJ
     exact kW.step (Eh.trans (hr sl)) (hJ ik w' sl _ q dd' Ss hA)
    ·rcases h.main hi hy hn hK hwq with ⟨rfl,hz,cL⟩ | ⟨iC,ik,w',ops,D',m',iq,s',jx,mu',dd',hr,hP,hl⟩
     ·refine go none (some y) (dd 0) _ w #[] cL ?_ ?_ ?_ ?_
      ·rw [Ag _ hy]; exact h.mem
      ·rw [Ag _ hy,me,ofEvents_none,Array.append_empty]; exact h.tr
      ·rw [hd]
       have hp:=h.bk.r7
       exact ⟨rfl,jO,df,y,n,rfl,hn,.inr ⟨rfl,rfl,g,hK,kh,(KM.run hK (by omega)).2,.inr ⟨rfl,hz⟩⟩⟩
      ·cases hmi:m 0 with
       | none=>exact .inr ⟨rfl,rfl,rfl⟩
       | some T'=>exact .inl .none
     ·exact kW.step (Eh.trans (hr sl)) (next _ _ _ _ _ _ _ _ _ _ _ _ hP (.inl hl))
   rcases hs with ⟨Tr,HE,hO⟩ | ⟨hm,rfl,g0,hK,hr0,nG,hg⟩
   ·obtain ⟨ι,f⟩:=Tr
    obtain ⟨R,H⟩:=y
    rcases hO with hK | ⟨_,cL⟩ | ⟨R',H',a,Su,hO⟩
    ·exact stop hK
    ·obtain ⟨g',w',es,R',H',a,h1,h2,h3,h4⟩:=cL w (h.mem.fits 0 _ hy)
     obtain ⟨hm,ht⟩:=JW h.mem (G9 F s js _) (G8 F s js _) h.tr hy (.inl df) h2 (.inl df) h3 g.frame.fn g.frame.place
     refine go (some (f a)) (some ⟨R',H'⟩) (dd 0) g' w' es h1 hm (by rw [me]; exact ht) ?_ (.inl (by rw [HE]; exact .some (.mk f a)))
     rw [hd]; exact ⟨rfl,jO,df,_,n,rfl,hn,.inl ⟨f a,rfl,h4⟩⟩
    ·have hP:=h.ghost (x:=⟨R',H'⟩) (m':=some (f a)) hi hy (Su w (h.mem.fits 0 _ hy)) (by rw [hd]; exact ⟨rfl,jO,df,_,n,rfl,hn,.inl ⟨f a,rfl,hO⟩⟩)
     exact ih (Fp F Q D (mc m 0 (some (f a))) s gs) (.inr ⟨rfl,.inl (WG bE HE (.some (.mk f a)))⟩) gs w sl t _ _ _ _ _ _ _ _ hP rfl 0 g hi kh m0 Eh
   ·rcases hg with rfl | ⟨rfl,_⟩
    ·exact stop hK
    ·cases kh
theorem MI.runs(rO:F.mj=iB F.P F.B Post)(h:MI F Q T0 D m js s th mu dd gs w t):kW F.P Post (crowd gs w sl) t:=by
 obtain ⟨a,ga,d,Xi,ha,Bo,cL⟩:=crowd_pick (P:=F.P) (gs:=gs) (w:=w) (sl:=sl) h.awake h.aeK
 exact MI.aCx rO _ gs (w.at d) Xi t T0 D m js s th mu dd (h.at d) rfl a ga ha Bo _ cL
end
end Go.Lg
