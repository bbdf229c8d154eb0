/- A mutex that any number of goroutines share; the machine of workers behind a mutex and a wait group: it runs to its end. Conditions: none. -/
import Derived.Test.YtihapemckcdicaaGreatDoorQWLgB
import Derived.Conc.MarkLaws
namespace Go.Lg
structure Wd where
 l:Nat
 w:Nat
 s:Nat
 n:Nat
 deriving DecidableEq
def Wd.val(m:Wd):Int:=m.l+2 * m.w+4 * m.s+8 * m.n
def Wd.ok(N:Nat)(m:Wd):Prop:=m.l≤1∧m.w≤1∧m.s≤1∧m.n≤N
def Wd.zero:Wd:=⟨0,0,0,0⟩
theorem Wd.val_inj{N N':Nat}{a b:Wd}(ha:a.ok N)(hb:b.ok N')(h:a.val=b.val):a=b:=by
 obtain ⟨l,w,s,n⟩:=a
 obtain ⟨l',w',s',n'⟩:=b
 simp only [Wd.ok,Wd.val,Wd.mk.injEq] at *
 omega
structure Sh where
 mu:Wd
 ms:Nat
 v:Nat
 w:Nat
 ws:Nat
structure Lc where
 old:Wd
 aw:Bool
 sv:Bool
 it:Nat
 ws:Bool
inductive Lp
 | ld | l0 | r0 | sq (c:Lc) | c1 (c:Lc) | r1 (c:Lc) | c2 (c:Lc) | r3 (c:Lc) | t1 (c:Lc) | s1 (c:Lc) | t2 (c:Lc) | r2 (c:Lc) | a1 (keep:Bool)
 | le | lc | la | ul (js:Nat→Nat) | uv (js:Nat→Nat) | ur (js:Nat→Nat) | ud | u0 | uc (old:Wd) | ux | us | ue
 | wv | wr | wk | d1 | d2 | d3 | d4 | quit
def hd(c:Lc):Lp:=if c.old.l=1∧c.old.s=0 then .sq c else .c2 c
def nw(c:Lc):Wd:={ l:=if c.old.s=0 then 1 else c.old.l,w:=if c.aw then 0 else c.old.w,s:=if c.sv∧c.old.l=1 then 1 else c.old.s,n:=if c.old.l=1∨c.old.s=1 then c.old.n+1 else c.old.n }
def hu(m:Wd):Lp:=if m.n=0∨m.l=1∨m.w=1∨m.s=1 then .ue else .uc m
def jN(c:Lc):Lp:=if c.aw=false∧c.old.w=0∧c.old.n≠0 then .c1 c else .r1 c
inductive dF:Lp→Sh→Lp→Sh→Prop
 | ld {s}:dF .ld s .l0 s
 | aiX {s}:s.mu = .zero→dF .l0 s .le { s with mu:=⟨1,0,0,0⟩ }
 | aiW {s}:s.mu ≠ .zero→dF .l0 s .r0 s
 | r0 {s}:dF .r0 s (hd ⟨s.mu,false,false,0,false⟩) s
 | S3 {s c}:dF (.sq c) s (.c2 c) s
 | AA {s c}:c.it < 4→dF (.sq c) s (jN c) s
 | VC {s c}:s.mu=c.old→dF (.c1 c) s (.r1 { c with aw:=true }) { s with mu:={ c.old with w:=1 } }
 | VA {s c}:s.mu≠c.old→dF (.c1 c) s (.r1 c) s
 | r1 {s c}:dF (.r1 c) s (hd { c with old:=s.mu,it:=c.it+1 }) s
 | VH {s c}:s.mu=c.old→c.old.l=0→c.old.s=0→dF (.c2 c) s .le { s with mu:=nw c }
 | zd {s c}:s.mu=c.old→(c.old.l=1∨c.old.s=1)→dF (.c2 c) s (if c.ws then .s1 c else .t1 c) { s with mu:=nw c }
 | VJ {s c}:s.mu≠c.old→dF (.c2 c) s (.r3 c) s
 | r3 {s c}:dF (.r3 c) s (hd { c with old:=s.mu }) s
 | t1 {s c} (b:Bool):dF (.t1 c) s (.s1 { c with ws:=b }) s
 | s1 {s c m}:s.ms=m+1→dF (.s1 c) s (if c.sv then .r2 c else .t2 c) { s with ms:=m }
 | t2 {s c} (b:Bool):dF (.t2 c) s (.r2 { c with sv:=b }) s
 | N0 {s c}:s.mu.s=1→dF (.r2 c) s (.a1 (c.sv && s.mu.n != 1)) s
 | An {s c}:s.mu.s=0→dF (.r2 c) s (hd { c with old:=s.mu,aw:=true,it:=0 }) s
 | a1 {s b}:dF (.a1 b) s .le { s with mu:=⟨1,s.mu.w,if b then s.mu.s else 0,s.mu.n - 1⟩ }
 | le {s}:dF .le s .lc s
 | lc {s}:dF .lc s .la s
 | la {s js}:dF .la s (.ul js) s
 | ul {s js}:dF (.ul js) s (.uv js) s
 | uv {s js}:dF (.uv js) s (.ur js) s
 | ur {s js}:dF (.ur js) s .ud s
 | ud {s}:dF .ud s .u0 s
 | u0z {s}:s.mu.w=0→s.mu.s=0→s.mu.n=0→dF .u0 s .ue { s with mu:={ s.mu with l:=0 } }
 | AB {s}:¬ (s.mu.w=0∧s.mu.s=0∧s.mu.n=0)→s.mu.s=0→dF .u0 s (hu { s.mu with l:=0 }) { s with mu:={ s.mu with l:=0 } }
 | u0h {s}:s.mu.s=1→dF .u0 s .us { s with mu:={ s.mu with l:=0 } }
 | alJ {s m}:s.mu=m→dF (.uc m) s .us { s with mu:={ m with w:=1,n:=m.n - 1 } }
 | acZ {s m}:s.mu≠m→dF (.uc m) s .ux s
 | ux {s}:dF .ux s (hu s.mu) s
 | us {s}:dF .us s .ue { s with ms:=s.ms+1 }
 | Tc {s}:dF .ue s .ld s
 | Td {s}:dF .ue s .wv s
 | wv {s}:dF .wv s .wr s
 | wr {s}:dF .wr s .wk s
 | wk {s}:dF .wk s .d1 s
 | Kz {s}:(s.v≠1∨s.w=0)→dF .d1 s .quit { s with v:=s.v - 1 }
 | VX {s}:s.v=1→s.w=1→dF .d1 s .d2 { s with v:=0 }
 | d2 {s}:dF .d2 s .d3 s
 | d3 {s}:dF .d3 s .d4 { s with v:=0,w:=0 }
 | d4 {s}:dF .d4 s .quit { s with ws:=s.ws+1 }
structure Cn where
 ow:Nat
 hl:Nat
 pu:Nat
 pc:Nat
 al:Nat
 z:Nat
 a1:Nat
 ak:Nat
 ux:Nat
 wk:Nat
 lv:Nat
 dw:Nat
 d4:Nat
def vf(c:Lc):Nat:=if c.aw then 1 else 0
def Cn.zero:Cn:=⟨0,0,0,0,0,0,0,0,0,0,0,0,0⟩
def Cn.busy:Cn:={ Cn.zero with wk:=1,lv:=1 }
def cW:Lp→Cn
 | .le | .lc | .la | .ud | .u0=>{ Cn.busy with ow:=1 }
 | .ul _ | .uv _ | .ur _=>{ Cn.busy with hl:=1 }
 | .us=>{ Cn.busy with pu:=1 }
 | .t2 _ | .r2 _=>{ Cn.busy with wk:=0,pc:=1 }
 | .a1 b=>if b then { Cn.busy with wk:=0,ak:=1 } else { Cn.busy with wk:=0,a1:=1 }
 | .sq c | .c1 c | .r1 c | .c2 c | .r3 c=>{ Cn.busy with al:=vf c }
 | .t1 _ | .s1 _=>{ Cn.busy with wk:=0,z:=1 }
 | .uc _ | .ux=>{ Cn.busy with ux:=1 }
 | .d2 | .d3=>{ Cn.zero with wk:=1,dw:=1 }
 | .d4=>{ Cn.zero with wk:=1,d4:=1 }
 | .quit=>Cn.zero
 | _=>Cn.busy
structure Cn.Bn (c x y c':Cn):Prop where
 ow:c'.ow+x.ow=c.ow+y.ow
 hl:c'.hl+x.hl=c.hl+y.hl
 pu:c'.pu+x.pu=c.pu+y.pu
 pc:c'.pc+x.pc=c.pc+y.pc
 al:c'.al+x.al=c.al+y.al
 z:c'.z+x.z=c.z+y.z
 a1:c'.a1+x.a1=c.a1+y.a1
 ak:c'.ak+x.ak=c.ak+y.ak
 ux:c'.ux+x.ux=c.ux+y.ux
 wk:c'.wk+x.wk=c.wk+y.wk
 lv:c'.lv+x.lv=c.lv+y.lv
 dw:c'.dw+x.dw=c.dw+y.dw
 d4:c'.d4+x.d4=c.d4+y.d4
structure Cn.Le (x c:Cn):Prop where
 ow:x.ow≤c.ow
 hl:x.hl≤c.hl
 pu:x.pu≤c.pu
 pc:x.pc≤c.pc
 al:x.al≤c.al
 z:x.z≤c.z
 a1:x.a1≤c.a1
 ak:x.ak≤c.ak
 ux:x.ux≤c.ux
 wk:x.wk≤c.wk
 lv:x.lv≤c.lv
 dw:x.dw≤c.dw
 d4:x.d4≤c.d4
structure dB (N:Nat) (c:Cn) (s:Sh):Prop where
 l1:s.mu.l≤1
 w1:s.mu.w≤1
 s1:s.mu.w+s.mu.s≤1
 ow:c.ow+c.hl=s.mu.l
 al:c.al≤s.mu.w
 md:((s.mu.s=0∨s.mu.l=1)∧c.pu+c.pc+c.al+s.ms=s.mu.w∧c.a1+c.ak=0∧s.mu.n+c.pu+s.ms=c.z)∨(s.mu.s=1∧s.mu.l=0∧c.pu+c.pc+c.a1+c.ak+c.al+s.ms=1∧s.mu.n=c.z+c.pc+c.a1+c.ak)
 ak:2 * c.ak≤s.mu.n
 sn:s.mu.s=0∨1≤s.mu.n
 i4:s.mu.l=1∨s.mu.w=1∨s.mu.s=1∨s.mu.n=0∨1≤c.ux
 wN:c.wk+c.z+c.pc+c.a1+c.ak≤N
def rF(N:Nat):Lp→Prop
 | .sq c=>c.old.ok N∧c.it≤4∧(c.sv=true→c.aw=true)∧(c.aw=true→c.old.w=1)∧c.old.l=1∧c.old.s=0
 | .c1 c=>c.old.ok N∧c.it < 4∧c.sv=false∧c.aw=false∧c.old.l=1∧c.old.s=0∧c.old.w=0∧c.old.n≠0
 | .r1 c=>c.old.ok N∧c.it < 4∧(c.sv=true→c.aw=true)
 | .c2 c=>c.old.ok N∧c.it≤4∧(c.sv=true→c.aw=true)∧(c.aw=true→c.old.w=1)
 | .r3 c=>c.old.ok N∧c.it≤4∧(c.sv=true→c.aw=true)
 | .t1 c=>c.ws=false
 | .t2 c=>c.sv=false
 | .uc m=>m.ok N∧m.l=0∧m.w=0∧m.s=0∧m.n≠0
 | _=>True
def Fz(N:Nat)(T:Lp)(s:Sh):Prop:=s.mu.ok N∧(match T with
 | .r1 c | .r3 c=>c.aw=true→s.mu.w=1
 | .r2 _=>(s.mu.s=1∧s.mu.l=0∧s.mu.w=0∧s.mu.n≠0)∨(s.mu.s=0∧s.mu.w=1)
 | .a1 b=>s.mu.s=1∧s.mu.l=0∧s.mu.w=0∧s.mu.n≠0∧(b=true→2≤s.mu.n)
 | .u0=>s.mu.l=1
 | .us=>s.ms=0
 | _=>True)
theorem GK{c:Lc}(h:c.aw=true):vf c=1:=by simp [vf,h]
theorem Kc{c:Lc}(h:c.aw=false):vf c=0:=by simp [vf,h]
section
variable {N:Nat} {c c':Cn} {s s':Sh} {T T':Lp}
theorem dB.Fz(h:dB N c s)(hle:(cW T).Le c):Fz N T s:=by
 obtain ⟨h1,h2,h3,h4,h5,h6,h8,h9,BA,KV⟩:=h
 obtain ⟨e1,e2,e3,e4,e5,e6,e7,e8,e9,eZ,fa,ey,fb⟩:=hle
 refine ⟨⟨h1,h2,by omega,by omega⟩,?_⟩
 cases T <;> simp only [cW,Cn.busy,Cn.zero] at * <;> first | trivial | skip
 case r1 c=>intro ha; rw [GK ha] at e5; omega
 case r3 c=>intro ha; rw [GK ha] at e5; omega
 case r2 c=>omega
 case a1 b =>
  cases b
  ·simp only [oA,if_false] at e7 e8
   exact ⟨by omega,by omega,by omega,by omega,λ hb=>by cases hb⟩
  ·simp only [if_true] at e7 e8
   exact ⟨by omega,by omega,by omega,by omega,λ _=>by omega⟩
 case u0=>omega
 case us=>omega
theorem tK(c:Lc):cW (hd c)={ Cn.busy with al:=vf c }:=by unfold hd; split <;> rfl
theorem VT(c:Lc):cW (jN c)={ Cn.busy with al:=vf c }:=by unfold jN; split <;> rfl
theorem Su{c:Lc}(h1:c.old.ok N)(h2:c.it≤4)(h3:c.sv=true→c.aw=true)(h4:c.aw=true→c.old.w=1):rF N (hd c):=by
 unfold hd; split
 ·exact ⟨h1,h2,h3,h4,by omega,by omega⟩
 ·exact ⟨h1,h2,h3,h4⟩
set_option maxHeartbeats 2000000 in
theorem dB.step(h:dB N c s)(hT:rF N T)(hle:(cW T).Le c)(dL:dF T s T' s')(hc:c.Bn (cW T) (cW T') c'):dB N c' s'∧rF N T':=by
 have hS:=h.Fz hle
 obtain ⟨h1,h2,h3,h4,h5,h6,h8,h9,BA,KV⟩:=h
 obtain ⟨g1,g2,g3,g4,g5,g6,g7,g8,g9,dm,c7,c8,c9⟩:=hc
 obtain ⟨e1,e2,e3,e4,e5,e6,e7,e8,e9,eZ,fa,ey,fb⟩:=hle
 obtain ⟨⟨q1,q2,q3,q4⟩,hS⟩:=hS
 obtain ⟨⟨ml,mw,mz,mn⟩,ms,v,w,ws⟩:=s
 obtain ⟨ow,hl,pu,pc,al',z,a1,ak,ux,wk,lv,dw,d4⟩:=c
 obtain ⟨eN,hl',eP,eO,eJ,z',eH,eI,eR,eS,eM,eL,eK⟩:=c'
 dsimp only at h1 h2 h3 h4 h5 h6 h8 h9 BA KV g1 g2 g3 g4 g5 g6 g7 g8 g9 dm c7 c8 c9 e1 e2 e3 e4 e5 e6 e7 e8 e9 eZ fa ey fb q1 q2 q3 q4 hS
 cases dL with
 | ld =>
  simp only [cW,Cn.busy,Cn.zero] at g1 g2 g3 g4 g5 g6 g7 g8 g9 dm c7 c8 c9 e1 e2 e3 e4 e5 e6 e7 e8 e9 eZ fa ey fb
  exact ⟨(by show dB N ⟨eN,hl',eP,eO,eJ,z',eH,eI,eR,eS,eM,eL,eK⟩ ⟨⟨ml,mw,mz,mn⟩,ms,v,w,ws⟩; constructor <;> dsimp only <;> omega),trivial⟩
 | aiX hm =>
  simp only [Wd.zero,Wd.mk.injEq] at hm
  obtain ⟨rfl,rfl,rfl,rfl⟩:=hm
  simp only [cW,Cn.busy,Cn.zero] at g1 g2 g3 g4 g5 g6 g7 g8 g9 dm c7 c8 c9 e1 e2 e3 e4 e5 e6 e7 e8 e9 eZ fa ey fb
  exact ⟨(by show dB N ⟨eN,hl',eP,eO,eJ,z',eH,eI,eR,eS,eM,eL,eK⟩ ⟨⟨1,0,0,0⟩,ms,v,w,ws⟩; constructor <;> dsimp only <;> omega),trivial⟩
 | aiW hm =>
  simp only [cW,Cn.busy,Cn.zero] at g1 g2 g3 g4 g5 g6 g7 g8 g9 dm c7 c8 c9 e1 e2 e3 e4 e5 e6 e7 e8 e9 eZ fa ey fb
  exact ⟨(by show dB N ⟨eN,hl',eP,eO,eJ,z',eH,eI,eR,eS,eM,eL,eK⟩ ⟨⟨ml,mw,mz,mn⟩,ms,v,w,ws⟩; constructor <;> dsimp only <;> omega),trivial⟩
 | r0 =>
  simp only [tK] at g1 g2 g3 g4 g5 g6 g7 g8 g9 dm c7 c8 c9
  simp only [cW,Cn.busy,Cn.zero] at g1 g2 g3 g4 g5 g6 g7 g8 g9 dm c7 c8 c9 e1 e2 e3 e4 e5 e6 e7 e8 e9 eZ fa ey fb
  rw [Kc rfl] at g5
  exact ⟨(by show dB N ⟨eN,hl',eP,eO,eJ,z',eH,eI,eR,eS,eM,eL,eK⟩ ⟨⟨ml,mw,mz,mn⟩,ms,v,w,ws⟩; constructor <;> dsimp only <;> omega),Su ⟨q1,q2,q3,q4⟩ (by simp) (by simp) (by simp)⟩
 | @S3 _ c =>
  simp only [cW,Cn.busy,Cn.zero] at g1 g2 g3 g4 g5 g6 g7 g8 g9 dm c7 c8 c9 e1 e2 e3 e4 e5 e6 e7 e8 e9 eZ fa ey fb
  exact ⟨(by show dB N ⟨eN,hl',eP,eO,eJ,z',eH,eI,eR,eS,eM,eL,eK⟩ ⟨⟨ml,mw,mz,mn⟩,ms,v,w,ws⟩; constructor <;> dsimp only <;> omega),hT.1,hT.2.1,hT.2.2.1,hT.2.2.2.1⟩
 | @AA _ c hi =>
  obtain ⟨t1,t2,t3,t4,t5,t6⟩:=hT
  simp only [VT] at g1 g2 g3 g4 g5 g6 g7 g8 g9 dm c7 c8 c9
  simp only [cW,Cn.busy,Cn.zero] at g1 g2 g3 g4 g5 g6 g7 g8 g9 dm c7 c8 c9 e1 e2 e3 e4 e5 e6 e7 e8 e9 eZ fa ey fb
  refine ⟨(by show dB N ⟨eN,hl',eP,eO,eJ,z',eH,eI,eR,eS,eM,eL,eK⟩ ⟨⟨ml,mw,mz,mn⟩,ms,v,w,ws⟩; constructor <;> dsimp only <;> omega),?_⟩
  unfold jN; split
  ·rename_i hx
   refine ⟨t1,hi,?_,hx.1,t5,t6,hx.2.1,hx.2.2⟩
   cases Zh:c.sv with
   | false=>rfl
   | true=>rw [t3 Zh] at hx; cases hx.1
  ·exact ⟨t1,hi,t3⟩
 | @VC _ c hm =>
  obtain ⟨old,aw,sv,it,wz⟩:=c
  cases hm
  obtain ⟨⟨o1,o2,o3,o4⟩,t2,t3,t4,t5,t6,t7,t8⟩:=hT
  simp only at t2 t3 t4 t5 t6 t7 t8
  subst t4
  simp only [cW,Cn.busy,Cn.zero] at g1 g2 g3 g4 g5 g6 g7 g8 g9 dm c7 c8 c9 e1 e2 e3 e4 e5 e6 e7 e8 e9 eZ fa ey fb
  rw [Kc rfl,GK rfl] at g5
  rw [Kc rfl] at e5
  exact ⟨(by show dB N ⟨eN,hl',eP,eO,eJ,z',eH,eI,eR,eS,eM,eL,eK⟩ ⟨⟨ml,1,mz,mn⟩,ms,v,w,ws⟩; constructor <;> dsimp only <;> omega),⟨o1,o2,o3,o4⟩,t2,λ _=>rfl⟩
 | @VA _ c hm =>
  simp only [cW,Cn.busy,Cn.zero] at g1 g2 g3 g4 g5 g6 g7 g8 g9 dm c7 c8 c9 e1 e2 e3 e4 e5 e6 e7 e8 e9 eZ fa ey fb
  exact ⟨(by show dB N ⟨eN,hl',eP,eO,eJ,z',eH,eI,eR,eS,eM,eL,eK⟩ ⟨⟨ml,mw,mz,mn⟩,ms,v,w,ws⟩; constructor <;> dsimp only <;> omega),hT.1,hT.2.1,λ hx=>by rw [hT.2.2.1] at hx; cases hx⟩
 | @r1 _ c =>
  simp only [tK] at g1 g2 g3 g4 g5 g6 g7 g8 g9 dm c7 c8 c9
  simp only [cW,Cn.busy,Cn.zero] at g1 g2 g3 g4 g5 g6 g7 g8 g9 dm c7 c8 c9 e1 e2 e3 e4 e5 e6 e7 e8 e9 eZ fa ey fb
  have ea:vf { c with old:=⟨ml,mw,mz,mn⟩,it:=c.it+1 }=vf c:=rfl
  rw [ea] at g5
  exact ⟨(by show dB N ⟨eN,hl',eP,eO,eJ,z',eH,eI,eR,eS,eM,eL,eK⟩ ⟨⟨ml,mw,mz,mn⟩,ms,v,w,ws⟩; constructor <;> dsimp only <;> omega),Su ⟨q1,q2,q3,q4⟩ (by have:=hT.2.1; simp only; omega) hT.2.2 hS⟩
 | @VH _ c hm hl hs =>
  obtain ⟨old,aw,sv,it,wz⟩:=c
  cases hm
  simp only at hl hs
  subst hl hs
  obtain ⟨⟨o1,o2,o3,o4⟩,t2,t3,t4⟩:=hT
  simp only at t3 t4
  simp only [cW,Cn.busy,Cn.zero] at g1 g2 g3 g4 g5 g6 g7 g8 g9 dm c7 c8 c9 e1 e2 e3 e4 e5 e6 e7 e8 e9 eZ fa ey fb
  have en:nw ⟨⟨0,mw,0,mn⟩,aw,sv,it,wz⟩=⟨1,if aw then 0 else mw,0,mn⟩:=by simp [nw]
  rw [en]
  cases aw
  ·rw [Kc rfl] at g5 e5
   exact ⟨(by show dB N ⟨eN,hl',eP,eO,eJ,z',eH,eI,eR,eS,eM,eL,eK⟩ ⟨⟨1,mw,0,mn⟩,ms,v,w,ws⟩; constructor <;> dsimp only <;> omega),trivial⟩
  ·rw [GK rfl] at g5 e5
   have:=t4 rfl
   exact ⟨(by show dB N ⟨eN,hl',eP,eO,eJ,z',eH,eI,eR,eS,eM,eL,eK⟩ ⟨⟨1,0,0,mn⟩,ms,v,w,ws⟩; constructor <;> dsimp only <;> omega),trivial⟩
 | @zd _ c hm hq =>
  obtain ⟨old,aw,sv,it,wz⟩:=c
  cases hm
  obtain ⟨⟨o1,o2,o3,o4⟩,t2,t3,t4⟩:=hT
  simp only at t3 t4 hq
  have ez:cW (if wz=true then Lp.s1 ⟨⟨ml,mw,mz,mn⟩,aw,sv,it,wz⟩ else Lp.t1 ⟨⟨ml,mw,mz,mn⟩,aw,sv,it,wz⟩)={ Cn.busy with wk:=0,z:=1 }:=by cases wz <;> rfl
  simp only at g1 g2 g3 g4 g5 g6 g7 g8 g9 dm c7 c8 c9
  simp only [ez] at g1 g2 g3 g4 g5 g6 g7 g8 g9 dm c7 c8 c9
  simp only [cW,Cn.busy,Cn.zero] at g1 g2 g3 g4 g5 g6 g7 g8 g9 dm c7 c8 c9 e1 e2 e3 e4 e5 e6 e7 e8 e9 eZ fa ey fb
  refine ⟨?_,by cases wz <;> first | rfl | trivial⟩
  cases aw
  ·cases sv
   ·rw [Kc rfl] at g5 e5
    by_cases hz:mz=0
    ·subst hz
     have vA:ml=1:=by omega
     subst vA
     have en:nw ⟨⟨1,mw,0,mn⟩,false,false,it,wz⟩=⟨1,mw,0,mn+1⟩:=by simp [nw]
     rw [en]
     exact (by show dB N ⟨eN,hl',eP,eO,eJ,z',eH,eI,eR,eS,eM,eL,eK⟩ ⟨⟨1,mw,0,mn+1⟩,ms,v,w,ws⟩; constructor <;> dsimp only <;> omega)
    ·have hz1:mz=1:=by omega
     subst hz1
     have en:nw ⟨⟨ml,mw,1,mn⟩,false,false,it,wz⟩=⟨ml,mw,1,mn+1⟩:=by simp [nw]
     rw [en]
     exact (by show dB N ⟨eN,hl',eP,eO,eJ,z',eH,eI,eR,eS,eM,eL,eK⟩ ⟨⟨ml,mw,1,mn+1⟩,ms,v,w,ws⟩; constructor <;> dsimp only <;> omega)
   ·exact absurd (t3 rfl) (by simp)
  ·rw [GK rfl] at g5 e5
   have hw:=t4 rfl
   have hz:mz=0:=by omega
   have vA:ml=1:=by omega
   subst hz vA hw
   cases sv
   ·have en:nw ⟨⟨1,1,0,mn⟩,true,false,it,wz⟩=⟨1,0,0,mn+1⟩:=by simp [nw]
    rw [en]
    exact (by show dB N ⟨eN,hl',eP,eO,eJ,z',eH,eI,eR,eS,eM,eL,eK⟩ ⟨⟨1,0,0,mn+1⟩,ms,v,w,ws⟩; constructor <;> dsimp only <;> omega)
   ·have en:nw ⟨⟨1,1,0,mn⟩,true,true,it,wz⟩=⟨1,0,1,mn+1⟩:=by simp [nw]
    rw [en]
    exact (by show dB N ⟨eN,hl',eP,eO,eJ,z',eH,eI,eR,eS,eM,eL,eK⟩ ⟨⟨1,0,1,mn+1⟩,ms,v,w,ws⟩; constructor <;> dsimp only <;> omega)
 | @VJ _ c hm =>
  simp only [cW,Cn.busy,Cn.zero] at g1 g2 g3 g4 g5 g6 g7 g8 g9 dm c7 c8 c9 e1 e2 e3 e4 e5 e6 e7 e8 e9 eZ fa ey fb
  exact ⟨(by show dB N ⟨eN,hl',eP,eO,eJ,z',eH,eI,eR,eS,eM,eL,eK⟩ ⟨⟨ml,mw,mz,mn⟩,ms,v,w,ws⟩; constructor <;> dsimp only <;> omega),hT.1,hT.2.1,hT.2.2.1⟩
 | @r3 _ c =>
  simp only [tK] at g1 g2 g3 g4 g5 g6 g7 g8 g9 dm c7 c8 c9
  simp only [cW,Cn.busy,Cn.zero] at g1 g2 g3 g4 g5 g6 g7 g8 g9 dm c7 c8 c9 e1 e2 e3 e4 e5 e6 e7 e8 e9 eZ fa ey fb
  have ea:vf { c with old:=⟨ml,mw,mz,mn⟩ }=vf c:=rfl
  rw [ea] at g5
  exact ⟨(by show dB N ⟨eN,hl',eP,eO,eJ,z',eH,eI,eR,eS,eM,eL,eK⟩ ⟨⟨ml,mw,mz,mn⟩,ms,v,w,ws⟩; constructor <;> dsimp only <;> omega),Su ⟨q1,q2,q3,q4⟩ hT.2.1 hT.2.2 hS⟩
 | @t1 _ c b =>
  simp only [cW,Cn.busy,Cn.zero] at g1 g2 g3 g4 g5 g6 g7 g8 g9 dm c7 c8 c9 e1 e2 e3 e4 e5 e6 e7 e8 e9 eZ fa ey fb
  exact ⟨(by show dB N ⟨eN,hl',eP,eO,eJ,z',eH,eI,eR,eS,eM,eL,eK⟩ ⟨⟨ml,mw,mz,mn⟩,ms,v,w,ws⟩; constructor <;> dsimp only <;> omega),trivial⟩
 | @s1 _ c m hm =>
  have ez:cW (if c.sv=true then Lp.r2 c else Lp.t2 c)={ Cn.busy with wk:=0,pc:=1 }:=by cases c.sv <;> rfl
  simp only at hm
  simp only [ez] at g1 g2 g3 g4 g5 g6 g7 g8 g9 dm c7 c8 c9
  simp only [cW,Cn.busy,Cn.zero] at g1 g2 g3 g4 g5 g6 g7 g8 g9 dm c7 c8 c9 e1 e2 e3 e4 e5 e6 e7 e8 e9 eZ fa ey fb
  refine ⟨(by show dB N ⟨eN,hl',eP,eO,eJ,z',eH,eI,eR,eS,eM,eL,eK⟩ ⟨⟨ml,mw,mz,mn⟩,m,v,w,ws⟩; constructor <;> dsimp only <;> omega),?_⟩
  cases Zh:c.sv with
  | false=>exact Zh
  | true=>trivial
 | @t2 _ c b =>
  simp only [cW,Cn.busy,Cn.zero] at g1 g2 g3 g4 g5 g6 g7 g8 g9 dm c7 c8 c9 e1 e2 e3 e4 e5 e6 e7 e8 e9 eZ fa ey fb
  exact ⟨(by show dB N ⟨eN,hl',eP,eO,eJ,z',eH,eI,eR,eS,eM,eL,eK⟩ ⟨⟨ml,mw,mz,mn⟩,ms,v,w,ws⟩; constructor <;> dsimp only <;> omega),trivial⟩
 | @N0 _ c hm =>
  simp only at hm; subst hm
  simp only [cW,Cn.busy,Cn.zero] at g1 g2 g3 g4 g5 g6 g7 g8 g9 dm c7 c8 c9 e1 e2 e3 e4 e5 e6 e7 e8 e9 eZ fa ey fb
  refine ⟨?_,trivial⟩
  cases hb:(c.sv && mn != 1) with
  | false =>
   simp only [hb,oA,if_false] at g1 g2 g3 g4 g5 g6 g7 g8 g9 dm c7 c8 c9
   exact (by show dB N ⟨eN,hl',eP,eO,eJ,z',eH,eI,eR,eS,eM,eL,eK⟩ ⟨⟨ml,mw,1,mn⟩,ms,v,w,ws⟩; constructor <;> dsimp only <;> omega)
  | true =>
   have hn1:mn≠1:=by simp at hb; exact hb.2
   simp only [hb,if_true] at g1 g2 g3 g4 g5 g6 g7 g8 g9 dm c7 c8 c9
   exact (by show dB N ⟨eN,hl',eP,eO,eJ,z',eH,eI,eR,eS,eM,eL,eK⟩ ⟨⟨ml,mw,1,mn⟩,ms,v,w,ws⟩; constructor <;> dsimp only <;> omega)
 | @An _ c hm =>
  simp only at hm; subst hm
  simp only [tK] at g1 g2 g3 g4 g5 g6 g7 g8 g9 dm c7 c8 c9
  simp only [cW,Cn.busy,Cn.zero] at g1 g2 g3 g4 g5 g6 g7 g8 g9 dm c7 c8 c9 e1 e2 e3 e4 e5 e6 e7 e8 e9 eZ fa ey fb
  rw [GK rfl] at g5
  exact ⟨(by show dB N ⟨eN,hl',eP,eO,eJ,z',eH,eI,eR,eS,eM,eL,eK⟩ ⟨⟨ml,mw,0,mn⟩,ms,v,w,ws⟩; constructor <;> dsimp only <;> omega),Su ⟨q1,q2,q3,q4⟩ (by simp) (λ _=>rfl) (λ _=>by simp only; omega)⟩
 | @a1 _ b =>
  obtain ⟨r1,r2,r3,r4,r5⟩:=hS
  subst r1 r2 r3
  simp only [cW,Cn.busy,Cn.zero] at g1 g2 g3 g4 g5 g6 g7 g8 g9 dm c7 c8 c9 e1 e2 e3 e4 e5 e6 e7 e8 e9 eZ fa ey fb
  cases b
  ·simp only [oA,if_false] at g1 g2 g3 g4 g5 g6 g7 g8 g9 dm c7 c8 c9 e1 e2 e3 e4 e5 e6 e7 e8 e9 eZ fa ey fb
   exact ⟨(by show dB N ⟨eN,hl',eP,eO,eJ,z',eH,eI,eR,eS,eM,eL,eK⟩ ⟨⟨1,0,0,mn - 1⟩,ms,v,w,ws⟩; constructor <;> dsimp only <;> omega),trivial⟩
  ·simp only [if_true] at g1 g2 g3 g4 g5 g6 g7 g8 g9 dm c7 c8 c9 e1 e2 e3 e4 e5 e6 e7 e8 e9 eZ fa ey fb
   exact ⟨(by show dB N ⟨eN,hl',eP,eO,eJ,z',eH,eI,eR,eS,eM,eL,eK⟩ ⟨⟨1,0,1,mn - 1⟩,ms,v,w,ws⟩; constructor <;> dsimp only <;> omega),trivial⟩
 | le =>
  simp only [cW,Cn.busy,Cn.zero] at g1 g2 g3 g4 g5 g6 g7 g8 g9 dm c7 c8 c9 e1 e2 e3 e4 e5 e6 e7 e8 e9 eZ fa ey fb
  exact ⟨(by show dB N ⟨eN,hl',eP,eO,eJ,z',eH,eI,eR,eS,eM,eL,eK⟩ ⟨⟨ml,mw,mz,mn⟩,ms,v,w,ws⟩; constructor <;> dsimp only <;> omega),trivial⟩
 | lc =>
  simp only [cW,Cn.busy,Cn.zero] at g1 g2 g3 g4 g5 g6 g7 g8 g9 dm c7 c8 c9 e1 e2 e3 e4 e5 e6 e7 e8 e9 eZ fa ey fb
  exact ⟨(by show dB N ⟨eN,hl',eP,eO,eJ,z',eH,eI,eR,eS,eM,eL,eK⟩ ⟨⟨ml,mw,mz,mn⟩,ms,v,w,ws⟩; constructor <;> dsimp only <;> omega),trivial⟩
 | la =>
  simp only [cW,Cn.busy,Cn.zero] at g1 g2 g3 g4 g5 g6 g7 g8 g9 dm c7 c8 c9 e1 e2 e3 e4 e5 e6 e7 e8 e9 eZ fa ey fb
  exact ⟨(by show dB N ⟨eN,hl',eP,eO,eJ,z',eH,eI,eR,eS,eM,eL,eK⟩ ⟨⟨ml,mw,mz,mn⟩,ms,v,w,ws⟩; constructor <;> dsimp only <;> omega),trivial⟩
 | ul =>
  simp only [cW,Cn.busy,Cn.zero] at g1 g2 g3 g4 g5 g6 g7 g8 g9 dm c7 c8 c9 e1 e2 e3 e4 e5 e6 e7 e8 e9 eZ fa ey fb
  exact ⟨(by show dB N ⟨eN,hl',eP,eO,eJ,z',eH,eI,eR,eS,eM,eL,eK⟩ ⟨⟨ml,mw,mz,mn⟩,ms,v,w,ws⟩; constructor <;> dsimp only <;> omega),trivial⟩
 | uv =>
  simp only [cW,Cn.busy,Cn.zero] at g1 g2 g3 g4 g5 g6 g7 g8 g9 dm c7 c8 c9 e1 e2 e3 e4 e5 e6 e7 e8 e9 eZ fa ey fb
  exact ⟨(by show dB N ⟨eN,hl',eP,eO,eJ,z',eH,eI,eR,eS,eM,eL,eK⟩ ⟨⟨ml,mw,mz,mn⟩,ms,v,w,ws⟩; constructor <;> dsimp only <;> omega),trivial⟩
 | ur =>
  simp only [cW,Cn.busy,Cn.zero] at g1 g2 g3 g4 g5 g6 g7 g8 g9 dm c7 c8 c9 e1 e2 e3 e4 e5 e6 e7 e8 e9 eZ fa ey fb
  exact ⟨(by show dB N ⟨eN,hl',eP,eO,eJ,z',eH,eI,eR,eS,eM,eL,eK⟩ ⟨⟨ml,mw,mz,mn⟩,ms,v,w,ws⟩; constructor <;> dsimp only <;> omega),trivial⟩
 | ud =>
  simp only [cW,Cn.busy,Cn.zero] at g1 g2 g3 g4 g5 g6 g7 g8 g9 dm c7 c8 c9 e1 e2 e3 e4 e5 e6 e7 e8 e9 eZ fa ey fb
  exact ⟨(by show dB N ⟨eN,hl',eP,eO,eJ,z',eH,eI,eR,eS,eM,eL,eK⟩ ⟨⟨ml,mw,mz,mn⟩,ms,v,w,ws⟩; constructor <;> dsimp only <;> omega),trivial⟩
 | u0z a b d =>
  simp only at a b d; subst a b d
  simp only [cW,Cn.busy,Cn.zero] at g1 g2 g3 g4 g5 g6 g7 g8 g9 dm c7 c8 c9 e1 e2 e3 e4 e5 e6 e7 e8 e9 eZ fa ey fb
  exact ⟨(by show dB N ⟨eN,hl',eP,eO,eJ,z',eH,eI,eR,eS,eM,eL,eK⟩ ⟨⟨0,0,0,0⟩,ms,v,w,ws⟩; constructor <;> dsimp only <;> omega),trivial⟩
 | AB a b =>
  simp only at a b; subst b
  by_cases hx:mn=0∨(0:Nat)=1∨mw=1∨(0:Nat)=1
  ·have eh:hu ⟨0,mw,0,mn⟩ = .ue:=by simp only [hu,hx,if_true]
   simp only [eh] at g1 g2 g3 g4 g5 g6 g7 g8 g9 dm c7 c8 c9
   simp only [cW,Cn.busy,Cn.zero] at g1 g2 g3 g4 g5 g6 g7 g8 g9 dm c7 c8 c9 e1 e2 e3 e4 e5 e6 e7 e8 e9 eZ fa ey fb
   rw [eh]
   exact ⟨(by show dB N ⟨eN,hl',eP,eO,eJ,z',eH,eI,eR,eS,eM,eL,eK⟩ ⟨⟨0,mw,0,mn⟩,ms,v,w,ws⟩; constructor <;> dsimp only <;> omega),trivial⟩
  ·have eh:hu ⟨0,mw,0,mn⟩ = .uc ⟨0,mw,0,mn⟩:=by simp only [hu,hx,if_false]
   simp only [eh] at g1 g2 g3 g4 g5 g6 g7 g8 g9 dm c7 c8 c9
   simp only [cW,Cn.busy,Cn.zero] at g1 g2 g3 g4 g5 g6 g7 g8 g9 dm c7 c8 c9 e1 e2 e3 e4 e5 e6 e7 e8 e9 eZ fa ey fb
   rw [eh]
   exact ⟨(by show dB N ⟨eN,hl',eP,eO,eJ,z',eH,eI,eR,eS,eM,eL,eK⟩ ⟨⟨0,mw,0,mn⟩,ms,v,w,ws⟩; constructor <;> dsimp only <;> omega),⟨by simp,q2,by simp,q4⟩,rfl,by simp only; omega,rfl,by simp only; omega⟩
 | u0h a =>
  simp only at a; subst a
  simp only [cW,Cn.busy,Cn.zero] at g1 g2 g3 g4 g5 g6 g7 g8 g9 dm c7 c8 c9 e1 e2 e3 e4 e5 e6 e7 e8 e9 eZ fa ey fb
  exact ⟨(by show dB N ⟨eN,hl',eP,eO,eJ,z',eH,eI,eR,eS,eM,eL,eK⟩ ⟨⟨0,mw,1,mn⟩,ms,v,w,ws⟩; constructor <;> dsimp only <;> omega),trivial⟩
 | alJ a =>
  cases a
  obtain ⟨⟨o1,o2,o3,o4⟩,t2,t3,t4,t5⟩:=hT
  simp only at t2 t3 t4 t5
  subst t2 t3 t4
  simp only [cW,Cn.busy,Cn.zero] at g1 g2 g3 g4 g5 g6 g7 g8 g9 dm c7 c8 c9 e1 e2 e3 e4 e5 e6 e7 e8 e9 eZ fa ey fb
  exact ⟨(by show dB N ⟨eN,hl',eP,eO,eJ,z',eH,eI,eR,eS,eM,eL,eK⟩ ⟨⟨0,1,0,mn - 1⟩,ms,v,w,ws⟩; constructor <;> dsimp only <;> omega),trivial⟩
 | acZ a =>
  simp only [cW,Cn.busy,Cn.zero] at g1 g2 g3 g4 g5 g6 g7 g8 g9 dm c7 c8 c9 e1 e2 e3 e4 e5 e6 e7 e8 e9 eZ fa ey fb
  exact ⟨(by show dB N ⟨eN,hl',eP,eO,eJ,z',eH,eI,eR,eS,eM,eL,eK⟩ ⟨⟨ml,mw,mz,mn⟩,ms,v,w,ws⟩; constructor <;> dsimp only <;> omega),trivial⟩
 | ux =>
  by_cases hx:mn=0∨ml=1∨mw=1∨mz=1
  ·have eh:hu ⟨ml,mw,mz,mn⟩ = .ue:=by simp only [hu,hx,if_true]
   simp only [eh] at g1 g2 g3 g4 g5 g6 g7 g8 g9 dm c7 c8 c9
   simp only [cW,Cn.busy,Cn.zero] at g1 g2 g3 g4 g5 g6 g7 g8 g9 dm c7 c8 c9 e1 e2 e3 e4 e5 e6 e7 e8 e9 eZ fa ey fb
   rw [eh]
   exact ⟨(by show dB N ⟨eN,hl',eP,eO,eJ,z',eH,eI,eR,eS,eM,eL,eK⟩ ⟨⟨ml,mw,mz,mn⟩,ms,v,w,ws⟩; constructor <;> dsimp only <;> omega),trivial⟩
  ·have eh:hu ⟨ml,mw,mz,mn⟩ = .uc ⟨ml,mw,mz,mn⟩:=by simp only [hu,hx,if_false]
   simp only [eh] at g1 g2 g3 g4 g5 g6 g7 g8 g9 dm c7 c8 c9
   simp only [cW,Cn.busy,Cn.zero] at g1 g2 g3 g4 g5 g6 g7 g8 g9 dm c7 c8 c9 e1 e2 e3 e4 e5 e6 e7 e8 e9 eZ fa ey fb
   rw [eh]
   exact ⟨(by show dB N ⟨eN,hl',eP,eO,eJ,z',eH,eI,eR,eS,eM,eL,eK⟩ ⟨⟨ml,mw,mz,mn⟩,ms,v,w,ws⟩; constructor <;> dsimp only <;> omega),⟨q1,q2,q3,q4⟩,by simp only; omega,by simp only; omega,by simp only; omega,by simp only; omega⟩
 | us =>
  simp only [cW,Cn.busy,Cn.zero] at g1 g2 g3 g4 g5 g6 g7 g8 g9 dm c7 c8 c9 e1 e2 e3 e4 e5 e6 e7 e8 e9 eZ fa ey fb
  exact ⟨(by show dB N ⟨eN,hl',eP,eO,eJ,z',eH,eI,eR,eS,eM,eL,eK⟩ ⟨⟨ml,mw,mz,mn⟩,ms+1,v,w,ws⟩; constructor <;> dsimp only <;> omega),trivial⟩
 | Tc =>
  simp only [cW,Cn.busy,Cn.zero] at g1 g2 g3 g4 g5 g6 g7 g8 g9 dm c7 c8 c9 e1 e2 e3 e4 e5 e6 e7 e8 e9 eZ fa ey fb
  exact ⟨(by show dB N ⟨eN,hl',eP,eO,eJ,z',eH,eI,eR,eS,eM,eL,eK⟩ ⟨⟨ml,mw,mz,mn⟩,ms,v,w,ws⟩; constructor <;> dsimp only <;> omega),trivial⟩
 | Td =>
  simp only [cW,Cn.busy,Cn.zero] at g1 g2 g3 g4 g5 g6 g7 g8 g9 dm c7 c8 c9 e1 e2 e3 e4 e5 e6 e7 e8 e9 eZ fa ey fb
  exact ⟨(by show dB N ⟨eN,hl',eP,eO,eJ,z',eH,eI,eR,eS,eM,eL,eK⟩ ⟨⟨ml,mw,mz,mn⟩,ms,v,w,ws⟩; constructor <;> dsimp only <;> omega),trivial⟩
 | wv =>
  simp only [cW,Cn.busy,Cn.zero] at g1 g2 g3 g4 g5 g6 g7 g8 g9 dm c7 c8 c9 e1 e2 e3 e4 e5 e6 e7 e8 e9 eZ fa ey fb
  exact ⟨(by show dB N ⟨eN,hl',eP,eO,eJ,z',eH,eI,eR,eS,eM,eL,eK⟩ ⟨⟨ml,mw,mz,mn⟩,ms,v,w,ws⟩; constructor <;> dsimp only <;> omega),trivial⟩
 | wr =>
  simp only [cW,Cn.busy,Cn.zero] at g1 g2 g3 g4 g5 g6 g7 g8 g9 dm c7 c8 c9 e1 e2 e3 e4 e5 e6 e7 e8 e9 eZ fa ey fb
  exact ⟨(by show dB N ⟨eN,hl',eP,eO,eJ,z',eH,eI,eR,eS,eM,eL,eK⟩ ⟨⟨ml,mw,mz,mn⟩,ms,v,w,ws⟩; constructor <;> dsimp only <;> omega),trivial⟩
 | wk =>
  simp only [cW,Cn.busy,Cn.zero] at g1 g2 g3 g4 g5 g6 g7 g8 g9 dm c7 c8 c9 e1 e2 e3 e4 e5 e6 e7 e8 e9 eZ fa ey fb
  exact ⟨(by show dB N ⟨eN,hl',eP,eO,eJ,z',eH,eI,eR,eS,eM,eL,eK⟩ ⟨⟨ml,mw,mz,mn⟩,ms,v,w,ws⟩; constructor <;> dsimp only <;> omega),trivial⟩
 | Kz a =>
  simp only [cW,Cn.busy,Cn.zero] at g1 g2 g3 g4 g5 g6 g7 g8 g9 dm c7 c8 c9 e1 e2 e3 e4 e5 e6 e7 e8 e9 eZ fa ey fb
  exact ⟨(by show dB N ⟨eN,hl',eP,eO,eJ,z',eH,eI,eR,eS,eM,eL,eK⟩ ⟨⟨ml,mw,mz,mn⟩,ms,v - 1,w,ws⟩; constructor <;> dsimp only <;> omega),trivial⟩
 | VX a b =>
  simp only [cW,Cn.busy,Cn.zero] at g1 g2 g3 g4 g5 g6 g7 g8 g9 dm c7 c8 c9 e1 e2 e3 e4 e5 e6 e7 e8 e9 eZ fa ey fb
  exact ⟨(by show dB N ⟨eN,hl',eP,eO,eJ,z',eH,eI,eR,eS,eM,eL,eK⟩ ⟨⟨ml,mw,mz,mn⟩,ms,0,w,ws⟩; constructor <;> dsimp only <;> omega),trivial⟩
 | d2 =>
  simp only [cW,Cn.zero] at g1 g2 g3 g4 g5 g6 g7 g8 g9 dm c7 c8 c9 e1 e2 e3 e4 e5 e6 e7 e8 e9 eZ fa ey fb
  exact ⟨(by show dB N ⟨eN,hl',eP,eO,eJ,z',eH,eI,eR,eS,eM,eL,eK⟩ ⟨⟨ml,mw,mz,mn⟩,ms,v,w,ws⟩; constructor <;> dsimp only <;> omega),trivial⟩
 | d3 =>
  simp only [cW,Cn.zero] at g1 g2 g3 g4 g5 g6 g7 g8 g9 dm c7 c8 c9 e1 e2 e3 e4 e5 e6 e7 e8 e9 eZ fa ey fb
  exact ⟨(by show dB N ⟨eN,hl',eP,eO,eJ,z',eH,eI,eR,eS,eM,eL,eK⟩ ⟨⟨ml,mw,mz,mn⟩,ms,0,0,ws⟩; constructor <;> dsimp only <;> omega),trivial⟩
 | d4 =>
  simp only [cW,Cn.zero] at g1 g2 g3 g4 g5 g6 g7 g8 g9 dm c7 c8 c9 e1 e2 e3 e4 e5 e6 e7 e8 e9 eZ fa ey fb
  exact ⟨(by show dB N ⟨eN,hl',eP,eO,eJ,z',eH,eI,eR,eS,eM,eL,eK⟩ ⟨⟨ml,mw,mz,mn⟩,ms,v,w,ws+1⟩; constructor <;> dsimp only <;> omega),trivial⟩
end
inductive Mp
 | ka (r:Nat) | kc (r:Nat) | kv (r:Nat) | kd (r:Nat) | ke (r:Nat) | go (r:Nat) | wa | w1 | w2 (v:Nat) | wV | wW | w3 | w4 | we | qv | wq | fin
def lg:Nat→Mp
 | 0=>.wa
 | r+1=>.ka r
inductive gP:Mp→Sh→Mp→Sh→Prop
 | ka {s r}:gP (.ka r) s (.kc r) s
 | kc1 {s r}:s.v=0→gP (.kc r) s (.kv r) { s with v:=1 }
 | kv {s r}:gP (.kv r) s (.kd r) s
 | kcn {s r}:s.v≠0→gP (.kc r) s (.ke r) { s with v:=s.v+1 }
 | kd {s r}:gP (.kd r) s (.ke r) s
 | ke {s r}:gP (.ke r) s (.go r) s
 | wa {s}:gP .wa s .w1 s
 | w1z {s}:s.v=0→gP .w1 s .we s
 | w1n {s}:s.v≠0→gP .w1 s (.w2 s.v) s
 | amw {s}:gP (.w2 s.v) s .wV { s with w:=1 }
 | wV {s}:gP .wV s .wW s
 | amv {s v}:s.v≠v→gP (.w2 v) s .w1 s
 | wW {s}:gP .wW s .w3 s
 | w3 {s m}:s.ws=m+1→gP .w3 s .w4 { s with ws:=m }
 | w4 {s}:gP .w4 s .we s
 | we {s}:gP .we s .qv s
 | qv {s}:gP .qv s .wq s
 | wq {s}:gP .wq s .fin s
def rem:Mp→Nat
 | .ka r | .kc r | .kv r | .kd r | .ke r | .go r=>r+1
 | _=>0
def Cn.jZ(c:Cn):Nat:=c.wk+c.z+c.pc+c.a1+c.ak
def lD(c:Cn)(s:Sh):Mp→Prop
 | .ka _ | .kc _ | .wa | .w1=>s.v=c.lv∧s.w=0∧s.ws=0∧c.dw=0∧c.d4=0
 | .w2 v=>s.v=c.lv∧s.w=0∧s.ws=0∧c.dw=0∧c.d4=0∧v≠0
 | .kv _ | .kd _ | .ke _ | .go _=>s.v=c.lv+1∧s.w=0∧s.ws=0∧c.dw=0∧c.d4=0
 | .wV | .wW | .w3=>(s.w=1∧s.ws=0∧c.d4=0∧s.v=c.lv∧((s.v=0∧c.dw=1)∨(1≤s.v∧c.dw=0)))∨(s.w=0∧s.v=0∧c.lv=0∧c.dw=0∧c.d4+s.ws=1)
 | _=>s.v=0∧s.w=0∧s.ws=0∧c.lv=0∧c.dw=0∧c.d4=0
structure pn (N:Nat) (T0:Mp) (c:Cn) (s:Sh):Prop where
 wg:lD c s T0
 eq:c.lv+c.dw+c.d4=c.jZ
 le:c.jZ+rem T0≤N
def okW(N:Nat):Lp→Sh→Prop
 | .d1,s=>1≤s.v∧s.v≤N∧s.w≤1
 | .d2,s=>s.v=0∧s.w=1
 | .d4,s=>s.ws=0
 | _,_=>True
def uy(N:Nat):Mp→Sh→Prop
 | .kc _,s=>s.w=0∧s.v+1≤N
 | .w1,s=>s.w=0∧s.v≤N
 | .w2 v,s=>s.w=0∧s.v≤N∧v≠0
 | .w4,s=>s.v=0∧s.w=0
 | .w3,s=>s.ws≤1
 | _,_=>True
section
variable {N:Nat} {c c':Cn} {s s':Sh} {T T':Lp} {T0 ju:Mp}
theorem VS(T:Lp):(cW T).lv+(cW T).dw+(cW T).d4=(cW T).jZ:=by
 cases T <;> simp [cW,Cn.busy,Cn.zero,Cn.jZ]
 case a1 b=>cases b <;> simp
theorem Cn.Bn.jZ{x y:Cn}(h:c.Bn x y c'):c'.jZ+x.jZ=c.jZ+y.jZ:=by
 have:=h.wk; have:=h.z; have:=h.pc; have:=h.a1; have:=h.ak
 unfold Cn.jZ; omega
theorem pn.okW(h:pn N T0 c s)(hle:(cW T).Le c):okW N T s:=by
 obtain ⟨h1,h2,h3⟩:=h
 have e1:=hle.lv
 have e2:=hle.dw
 have e3:=hle.d4
 cases T <;> simp only [cW,Cn.busy,Cn.zero] at e1 e2 e3 <;> first | trivial | skip
 all_goals
  show _
  cases T0 <;> simp only [lD,rem] at h1 h3 <;> simp only [Go.Lg.okW] <;> omega
theorem pn.uy(h:pn N T0 c s):uy N T0 s:=by
 obtain ⟨h1,h2,h3⟩:=h
 cases T0 <;> simp only [lD,rem] at h1 h3 <;> simp only [Go.Lg.uy] <;> omega
set_option maxHeartbeats 2000000 in
theorem pn.step(h:pn N T0 c s)(hle:(cW T).Le c)(dL:dF T s T' s')(hc:c.Bn (cW T) (cW T') c'):pn N T0 c' s':=by
 obtain ⟨h1,h2,h3⟩:=h
 have q1:=VS T
 have q2:=VS T'
 have q3:=hc.jZ
 have c7:=hc.lv
 have c8:=hc.dw
 have c9:=hc.d4
 have e1:=hle.lv
 have e2:=hle.dw
 have e3:=hle.d4
 have same:(cW T').lv=(cW T).lv→(cW T').dw=(cW T).dw→(cW T').d4=(cW T).d4→s'.v=s.v→s'.w=s.w→s'.ws=s.ws→pn N T0 c' s':=by
  intro a1 a2 a3 a4 a5 a6
  refine ⟨?_,by omega,by omega⟩
  cases T0 <;> simp only [lD,a4,a5,a6] at h1 ⊢ <;> omega
 cases dL
 case Kz a =>
  refine ⟨?_,by omega,by simp only [cW,Cn.busy,Cn.zero,Cn.jZ] at q3; unfold Cn.jZ at h3 ⊢; omega⟩
  simp only [cW,Cn.busy,Cn.zero] at c7 c8 c9 e1 e2 e3
  clear q1 q2 q3 h2 h3 same hc hle
  have wt:lD c s .w3→lD c' { s with v:=s.v - 1 } .w3:=λ h=>by
   simp only [lD] at h ⊢
   rcases h with ⟨a1,a2,a3,a4,a5⟩ | ⟨a1,a2,a3,a4,a5⟩
   ·rcases a5 with ⟨a5,a6⟩ | ⟨a5,a6⟩ <;> first | omega | (refine .inl ⟨a1,a2,by omega,by omega,.inr ⟨by omega,by omega⟩⟩)
   ·first | omega | (omega)
  cases T0 <;> first | exact wt h1 | (simp only [lD] at h1 ⊢; omega)
 case VX a b =>
  refine ⟨?_,by omega,by simp only [cW,Cn.busy,Cn.zero,Cn.jZ] at q3; unfold Cn.jZ at h3 ⊢; omega⟩
  simp only [cW,Cn.busy,Cn.zero] at c7 c8 c9 e1 e2 e3
  clear q1 q2 q3 h2 h3 same hc hle
  have wt:lD c s .w3→lD c' { s with v:=0 } .w3:=λ h=>by
   simp only [lD] at h ⊢
   rcases h with ⟨a1,a2,a3,a4,a5⟩ | ⟨a1,a2,a3,a4,a5⟩
   ·rcases a5 with ⟨a5,a6⟩ | ⟨a5,a6⟩ <;> first | omega | (exact .inl ⟨a1,a2,by omega,by omega,.inl ⟨trivial,by omega⟩⟩)
   ·first | omega | (omega)
  cases T0 <;> first | exact wt h1 | (simp only [lD] at h1 ⊢; omega)
 case d3 =>
  refine ⟨?_,by omega,by simp only [cW,Cn.zero,Cn.jZ] at q3; unfold Cn.jZ at h3 ⊢; omega⟩
  simp only [cW,Cn.zero] at c7 c8 c9 e1 e2 e3
  clear q1 q2 q3 h2 h3 same hc hle
  have wt:lD c s .w3→lD c' { s with v:=0,w:=0 } .w3:=λ h=>by
   simp only [lD] at h ⊢
   rcases h with ⟨a1,a2,a3,a4,a5⟩ | ⟨a1,a2,a3,a4,a5⟩
   ·rcases a5 with ⟨a5,a6⟩ | ⟨a5,a6⟩ <;> first | omega | (exact .inr ⟨trivial,trivial,by omega,by omega,by omega⟩)
   ·first | omega | (omega)
  cases T0 <;> first | exact wt h1 | (simp only [lD] at h1 ⊢; omega)
 case d4 =>
  refine ⟨?_,by omega,by simp only [cW,Cn.zero,Cn.jZ] at q3; unfold Cn.jZ at h3 ⊢; omega⟩
  simp only [cW,Cn.zero] at c7 c8 c9 e1 e2 e3
  clear q1 q2 q3 h2 h3 same hc hle
  have wt:lD c s .w3→lD c' { s with ws:=s.ws+1 } .w3:=λ h=>by
   simp only [lD] at h ⊢
   rcases h with ⟨a1,a2,a3,a4,a5⟩ | ⟨a1,a2,a3,a4,a5⟩
   ·rcases a5 with ⟨a5,a6⟩ | ⟨a5,a6⟩ <;> first | omega | (omega)
   ·first | omega | (exact .inr ⟨a1,a2,by omega,by omega,by omega⟩)
  cases T0 <;> first | exact wt h1 | (simp only [lD] at h1 ⊢; omega)
 case r0=>refine same ?_ ?_ ?_ rfl rfl rfl <;> simp only [tK] <;> rfl
 case r1=>refine same ?_ ?_ ?_ rfl rfl rfl <;> simp only [tK] <;> rfl
 case r3=>refine same ?_ ?_ ?_ rfl rfl rfl <;> simp only [tK] <;> rfl
 case An=>refine same ?_ ?_ ?_ rfl rfl rfl <;> simp only [tK] <;> rfl
 case AA=>refine same ?_ ?_ ?_ rfl rfl rfl <;> simp only [VT] <;> rfl
 case zd c0 hm hq=>refine same ?_ ?_ ?_ rfl rfl rfl <;> cases c0.ws <;> rfl
 case s1 c0 m hm=>refine same ?_ ?_ ?_ rfl rfl rfl <;> cases c0.sv <;> rfl
 case N0 c0 hm=>refine same ?_ ?_ ?_ rfl rfl rfl <;> cases (c0.sv && s.mu.n != 1) <;> rfl
 case a1 b=>refine same ?_ ?_ ?_ rfl rfl rfl <;> cases b <;> rfl
 case AB a b=>refine same ?_ ?_ ?_ rfl rfl rfl <;> simp only [hu] <;> split <;> rfl
 case ux=>refine same ?_ ?_ ?_ rfl rfl rfl <;> simp only [hu] <;> split <;> rfl
 all_goals exact same rfl rfl rfl rfl rfl rfl
theorem pn.main(h:pn N T0 c s)(dL:gP T0 s ju s'):pn N ju c s':=by
 obtain ⟨h1,h2,h3⟩:=h
 cases dL
 case amw =>
  obtain ⟨a1,a2,a3,a4,a5,a6⟩:=h1
  exact ⟨.inl ⟨rfl,a3,a5,a1,.inr ⟨by dsimp only; omega,a4⟩⟩,h2,by simp only [rem] at h3 ⊢; omega⟩
 case wV=>exact ⟨h1,h2,h3⟩
 case wW=>exact ⟨h1,h2,h3⟩
 all_goals refine ⟨?_,h2,?_⟩ <;> simp only [lD,rem] at h1 h3 ⊢ <;> omega
theorem dB.main(h:dB N c s)(dL:gP T0 s ju s'):dB N c s':=by
 obtain ⟨h1,h2,h3,h4,h5,h6,h8,h9,BA,KV⟩:=h
 cases dL <;> exact ⟨h1,h2,h3,h4,h5,h6,h8,h9,BA,KV⟩
theorem pn.spawn{r:Nat}(h:pn N (.go r) c s)(hc:c.Bn Cn.zero (cW .ld) c'):pn N (lg r) c' s:=by
 obtain ⟨h1,h2,h3⟩:=h
 have q1:=VS .ld
 have q3:=hc.jZ
 have c7:=hc.lv
 have c8:=hc.dw
 have c9:=hc.d4
 cases r <;> refine ⟨?_,?_,?_⟩ <;> simp only [lD,rem,lg,cW,Cn.busy,Cn.zero,Cn.jZ] at * <;> omega
theorem dB.spawn{r:Nat}(h:dB N c s)(hg:pn N (.go r) c s)(hc:c.Bn Cn.zero (cW .ld) c'):dB N c' s:=by
 have hle:=hg.le
 obtain ⟨h1,h2,h3,h4,h5,h6,h8,h9,BA,KV⟩:=h
 obtain ⟨g1,g2,g3,g4,g5,g6,g7,g8,g9,dm,c7,c8,c9⟩:=hc
 simp only [cW,Cn.busy,Cn.zero,Cn.jZ,rem] at *
 constructor <;> omega
end
def iP:Lp→Nat
 | .ld | .l0 | .r0=>9
 | .sq c | .c1 c | .r1 c | .c2 c | .r3 c=>if c.aw then 8 else 9
 | .t1 _ | .s1 _=>6
 | .t2 _ | .r2 _ | .a1 _=>8
 | .le | .lc | .la | .ul _ | .uv _ | .ur _=>5
 | .ud | .u0=>16
 | .uc _ | .ux=>15
 | .us=>14
 | .ue=>10
 | .wv | .wr | .wk | .d1=>8
 | .d2 | .d3=>6
 | .d4=>5
 | .quit=>0
def kH(m:Wd):Lp→Nat
 | .ld=>31
 | .l0=>30
 | .r0=>29
 | .sq c=>(4 - c.it) * 5+(if c.old=m then 0 else 5)+3
 | .c1 c=>(4 - c.it) * 5+(if c.old=m then 0 else 5)+2
 | .r1 c=>(4 - c.it) * 5+1
 | .c2 c=>(4 - c.it) * 5+(if c.old=m then 0 else 5)+1
 | .r3 c=>(4 - c.it) * 5+5
 | .t1 _=>2
 | .s1 _=>1
 | .t2 _=>25
 | .r2 _=>24
 | .le=>5
 | .lc=>4
 | .la=>3
 | .ul _=>2
 | .uv _=>1
 | .ud=>1
 | .uc o=>if o=m then 0 else 3
 | .ux=>2
 | .wv=>3
 | .wr=>2
 | .wk=>1
 | .d2=>1
 | _=>0
def ia:Lp→Bool
 | .ur _=>true
 | _=>false
theorem aPH(m:Wd)(T:Lp):kH m T≤31:=by
 cases T <;> simp only [kH] <;> (try split) <;> omega
theorem S6(c:Lc):iP (hd c)=if c.aw then 8 else 9:=by unfold hd; split <;> rfl
theorem SX{c:Lc}{m:Wd}(h:c.old=m):kH m (hd c)≤(4 - c.it) * 5+3:=by unfold hd; split <;> simp only [kH,h,if_true] <;> omega
theorem dF.Qc{N:Nat}{s s':Sh}{T T':Lp}(hT:rF N T)(dL:dF T s T' s') :
  iP T'+3 * s'.ms+3 * s'.ws < iP T+3 * s.ms+3 * s.ws+(if ia T then 20 else 0) ∨
  (iP T'+3 * s'.ms+3 * s'.ws=iP T+3 * s.ms+3 * s.ws∧ia T=false∧s'.mu=s.mu∧s'.v=s.v∧kH s.mu T' < kH s.mu T):=by
 cases dL
 case r0=>right; have:=SX (c:=⟨s.mu,false,false,0,false⟩) (m:=s.mu) rfl; rw [S6]; generalize kH s.mu (hd _)=x at this ⊢; exact ⟨rfl,rfl,rfl,rfl,by simp only [kH]; simp only at this; omega⟩
 case S3 c=>right; simp [iP,kH,ia]
 case AA c h=>right; unfold jN; split <;> simp [iP,kH,ia]; omega
 case VC c h=>left; obtain ⟨_,_,_,t4,_⟩:=hT; simp [iP,t4,ia]
 case VA c h=>right; simp [iP,kH,ia,Ne.symm h]
 case r1 c =>
  right; obtain ⟨_,t2,_⟩:=hT
  have:=SX (c:={ c with old:=s.mu,it:=c.it+1 }) (m:=s.mu) rfl
  rw [S6]; generalize kH s.mu (hd _)=x at this ⊢; exact ⟨rfl,rfl,rfl,rfl,by simp only [kH]; simp only at this; omega⟩
 case VH c h _ _=>left; simp only [iP,ia]; split <;> simp
 case zd c h _=>left; simp only [ia]; cases c.ws <;> cases hb:c.aw <;> simp [iP,hb]
 case VJ c h=>right; simp [iP,kH,ia,Ne.symm h]
 case r3 c =>
  right
  have:=SX (c:={ c with old:=s.mu }) (m:=s.mu) rfl
  rw [S6]; generalize kH s.mu (hd _)=x at this ⊢; exact ⟨rfl,rfl,rfl,rfl,by simp only [kH]; simp only at this; omega⟩
 case t1 c b=>right; simp [iP,kH,ia]
 case s1 c m h=>left; cases c.sv <;> simp [iP,ia,h] <;> omega
 case t2 c b=>right; simp [iP,kH,ia]
 case N0 c h=>right; simp [iP,kH,ia]
 case An c h =>
  right
  have:=SX (c:={ c with old:=s.mu,aw:=true,it:=0 }) (m:=s.mu) rfl
  rw [S6]; generalize kH s.mu (hd _)=x at this ⊢; exact ⟨rfl,rfl,rfl,rfl,by simp only [kH]; simp only at this; omega⟩
 case AB a b=>left; unfold hu; split <;> simp [iP,ia]
 case acZ m h=>right; simp [iP,kH,ia,Ne.symm h]
 case ux=>unfold hu; split <;> simp [iP,kH,ia]
 case us=>left; simp [iP,ia]; omega
 case d4=>left; simp [iP,ia]; omega
 case ur=>left; simp [iP,ia]; omega
 all_goals simp [iP,kH,ia]
def stM(J:Nat):Mp→Nat
 | .ka r | .kc r=>(r+1) * (20 * J+20)+15
 | .kv r | .kd r | .ke r | .go r=>(r+1) * (20 * J+20)+14
 | .wa | .w1 | .w2 _=>10
 | .wV | .wW | .w3=>8
 | .w4 | .we | .qv | .wq=>6
 | .fin=>0
def CR(v:Nat):Mp→Nat
 | .ka _=>1
 | .kv _=>3
 | .kd _=>2
 | .ke _=>1
 | .wa=>6
 | .w1=>4
 | .w2 u=>if u=v then 1 else 5
 | .wV=>2
 | .wW=>1
 | .w4=>3
 | .we=>2
 | .qv=>1
 | _=>0
theorem aPG(v:Nat)(T:Mp):CR v T≤31:=by
 cases T <;> simp only [CR] <;> (try split) <;> omega
theorem gP.Qc{J:Nat}{s s':Sh}{T T':Mp}(dL:gP T s T' s') :
  stM J T'+3 * s'.ms+3 * s'.ws < stM J T+3 * s.ms+3 * s.ws ∨
  (stM J T'+3 * s'.ms+3 * s'.ws=stM J T+3 * s.ms+3 * s.ws∧s'.mu=s.mu∧s'.v=s.v∧CR s.v T' < CR s.v T):=by
 cases dL
 case w1n h=>right; simp [stM,CR]
 case amv v h=>right; simp [stM,CR,Ne.symm h]
 case w3 m h=>left; simp [stM,h]; omega
 all_goals simp [stM,CR]
theorem aP8(J r:Nat):stM J (lg r)+(20 * J+iP .ld) < stM J (.go r):=by
 cases r with
 | zero=>simp [lg,stM,iP]; omega
 | succ r=>simp only [lg,stM,iP,Nat.add_mul]; omega
open Go.Conc Go.ConcN
def Dq(P:Program)(K:Goroutine→Prop):Nat→Goroutine→Prop
 | 0,g=>K g
 | n+1,g=>K g∨(g.status = .running∧∃ g',(∀ w,stepG P false g w = .go g' w #[])∧Dq P K n g')
structure Fx where
 P:Program
 B:Base
 bm:Nat
 bw:Nat
 bo:Nat
 tm:TypeId
 tw:TypeId
 N:Nat
 J:Nat
 cont:(Nat→Nat)→Obj
 ho:bm≠bw∧bm≠bo∧bw≠bo
 hJ:0 < J
 hN:N≤4
 mj:az→ah→Goroutine→Prop
def qy(tm:TypeId)(s:Sh):Obj:=.cells #[.int .i32 s.mu.val,.int .u32 (s.ms:Int)] tm (0,0)
def AR(s:Sh):Int:=4294967296 * s.v+s.w
def qP(tw:TypeId)(s:Sh):Obj:=.cells #[.int .u64 (AR s),.int .u32 (s.ws:Int)] tw (0,0)
variable (F:Fx)
structure fS (s:Sh) (w:World):Prop where
 m:w.heap[F.bm]? = some (qy F.tm s)
 g:w.heap[F.bw]? = some (qP F.tw s)
structure cJ (s':Sh) (w w':World):Prop where
 size:w'.heap.size=w.heap.size
 same:∀ b,b≠F.bm→b≠F.bw→w'.heap[b]? = w.heap[b]?
 sh:fS F s' w'
 os:F.B.os w.os→F.B.os w'.os
 tape:w'.tape=w.tape
 out:w'.output=w.output
def am:Addr:=⟨F.bm,0,none⟩
def aw:Addr:=⟨F.bw,0,none⟩
def rW:Addr:=⟨F.bw,1,none⟩
def qV(es:Array Event):Prop:=(∀ e∈es,∃ a wr,e=⟨.cell a,wr,true⟩∧(a.block=F.bm∨a.block=F.bw))∨∃ a,(a.block=F.bm∨a.block=F.bw)∧es=semEvents a
def said(m:Mark):Array Event:=#[⟨.mark m,false,true⟩]
def Hc:Lp→Array Event→Prop
 | .ld,es | .ud,es | .wk,es=>es=said .disable
 | .le,es | .ue,es=>es=said .enable
 | .la,es=>es=said (.acquire (am F))
 | .ur _,es=>es=said (.releaseMerge (am F))
 | .wr,es=>es=said (.releaseMerge (aw F))
 | _,es=>qV F es
def DQ:Mp→Array Event→Prop
 | .ka _,es | .wa,es=>es=said .disable
 | .ke _,es | .we,es=>es=said .enable
 | .kd _,es=>es=said (.read (rW F))
 | .wW,es=>es=said (.write (rW F))
 | .wq,es=>es=said (.acquire (aw F))
 | _,es=>qV F es
def kG:Lp→Bool
 | .wk | .d1 | .d2 | .d3 | .d4=>true
 | _=>false
def AD(j:Nat):Lp→Lp→Prop
 | .ue,.ld=>j < F.J
 | .ue,.wv=>j=F.J
 | _,_=>True
def y8(K:Nat→Lp→az→ah→Goroutine→Prop)(k j:Nat)(T T':Lp)(R:az)(H:ah)(g':Goroutine):Prop :=
 match T' with
 | .quit=>∃ q,QuitsD F.P q 1 g'
 | .ul _=>∀ js,js k=j→Own F.P F.B false (K j (.ul js)) R ((F.bo,F.cont js)::H) g'
 | .ud=>∃ js H',T = .ur js∧H=(F.bo,F.cont (gJ js k (j+1)))::H'∧Own F.P F.B false (K (j+1) .ud) R H' g'
 | T'=>if kG T' then ∃ q,Dq F.P (K j T' R H) q g' else Own F.P F.B false (K j T') R H g'
def KW:Nat→Nat→Nat→Lp→az→ah→Goroutine→Prop
 | 0,_,_,_,_,_,_=>True
 | n+1,k,j,T,R,H,g=>rF F.N T→g.status = .running∧g.offers=none∧((T = .us∨T = .d4)→mayWake F.P g=true) ∧
   ∀ w s,Fits F.B R H w→fS F s w→Fz F.N T s→okW F.N T s →
    ((∃ c,T = .s1 c)∧s.ms=0∧stepG F.P false g w = .go { g with status:=.blocked } w #[]) ∨
    ∃ g' w' es T' s',dF T s T' s'∧AD F j T T'∧Hc F T es∧stepG F.P false g w = .go g' w' es∧cJ F s' w w' ∧
     y8 F (KW n k) k j T T' R H g'
def KM:Nat→Mp→az→ah→Goroutine→Prop
 | 0,_,_,_,_=>True
 | n+1,T,R,H,g=>g.status = .running∧g.offers=none ∧
   ∀ w s,Fits F.B R H w→fS F s w→uy F.N T s →
    match T with
    | .go r=>∃ g' child,stepG F.P true g w = .spawn g' child w #[]∧Own F.P F.B false (KW F n (F.N - (r+1)) 0 .ld) R [] child∧Own F.P F.B true (KM n (lg r)) R H g'
    | .wq=>∃ g' w',stepG F.P true g w = .go g' w' (said (.acquire (aw F)))∧cJ F s w w'∧∀ js,(∀ k,k < F.N→js k=F.J)→F.mj R ((F.bo,F.cont js)::H) g'
    | T=>(T = .w3∧s.ws=0∧stepG F.P true g w = .go { g with status:=.blocked } w #[]) ∨
     ∃ g' w' es T' s',gP T s T' s'∧DQ F T es∧stepG F.P true g w = .go g' w' es∧cJ F s' w w'∧Own F.P F.B true (KM n T') R H g'
inductive Ab
 | no
 | wk (k j:Nat) (T:Lp)
 | mn (T:Mp)
def cA:Ab→Cn
 | .wk _ _ T=>cW T
 | _=>.zero
def cP:Ab→Nat
 | .no=>0
 | .wk _ j T=>20 * (F.J - j)+iP T
 | .mn T=>stM F.J T
def o8(s:Sh):Ab→Nat
 | .no=>0
 | .wk _ _ T=>kH s.mu T
 | .mn T=>CR s.v T
def pz:Lp→Nat
 | .ld | .lc | .la | .ul _ | .uv _ | .ur _ | .ud | .wv | .wr | .wk=>0
 | _=>1
def qf:Mp→Nat
 | .ka _ | .go _ | .wa | .qv | .wq | .fin=>0
 | _=>1
def cnt(D:Nat→Ab)(n:Nat):Cn where
 ow:=dA n λ i=>(cA (D i)).ow
 hl:=dA n λ i=>(cA (D i)).hl
 pu:=dA n λ i=>(cA (D i)).pu
 pc:=dA n λ i=>(cA (D i)).pc
 al:=dA n λ i=>(cA (D i)).al
 z:=dA n λ i=>(cA (D i)).z
 a1:=dA n λ i=>(cA (D i)).a1
 ak:=dA n λ i=>(cA (D i)).ak
 ux:=dA n λ i=>(cA (D i)).ux
 wk:=dA n λ i=>(cA (D i)).wk
 lv:=dA n λ i=>(cA (D i)).lv
 dw:=dA n λ i=>(cA (D i)).dw
 d4:=dA n λ i=>(cA (D i)).d4
def cL(D:Nat→Ab)(i:Nat)(x:Ab):Nat→Ab:=λ j=>if j=i then x else D j
def m8(D:Nat→Ms)(i:Nat)(x:Ms):Nat→Ms:=λ j=>if j=i then x else D j
def MM(Q:Nat)(D:Nat→Ab)(s:Sh)(n:Nat):Nat:=(dA n (λ i=>cP F (D i))+3 * s.ms+3 * s.ws) * Q+dA n (λ i=>o8 s (D i))
def Fy(j:Nat):Lp→Prop
 | .ud | .u0 | .uc _ | .ux | .us | .ue=>j≤F.J
 | .wv | .wr | .wk | .d1 | .d2 | .d3 | .d4=>j=F.J
 | .quit=>False
 | _=>j < F.J
def CJ(js:Nat→Nat):Lp→Prop
 | .ul j | .uv j | .ur j=>j=js
 | _=>True
def hF(s:Sh)(js:Nat→Nat)(hl:Nat):ah:=(F.bm,qy F.tm s)::(F.bw,qP F.tw s)::(if hl=0 then [(F.bo,F.cont js)] else [])
def rj(hl:Nat):Option Nat:=if hl=0 then some F.bo else none
def J5(K:Goroutine→Prop)(z:Prop)(g:Goroutine):Prop:=∃ g0,K g0∧g0.status = .running∧g0.offers=none∧(g=g0∨(g={ g0 with status:=.blocked }∧z))
def qW(μ:Nat)(s:Sh)(i:Nat)(m:Ms)(x:Option Th)(mu:Bool)(d:Nat)(g:Goroutine):Ab→Prop
 | .no=>x=none∧0 < i∧∃ q,m=some (sX q)∧QuitsD F.P q d g
 | .wk k j T=>0 < i∧d=pz T∧mu=kG T∧∃ y n,x=some y∧μ≤n ∧
   if kG T then ∃ q,m=some (sX q)∧Dq F.P (KW F n k j T y.R y.H) q g
   else (∃ Tr,m=some Tr∧Dp F.P F.B false (KW F n k j T) Tr y.R y.H g)∨(m=none∧(∃ c,T = .s1 c)∧J5 (KW F n k j T y.R y.H) (s.ms=0) g)
 | .mn T=>i=0∧d=qf T∧mu=false∧∃ y n,x=some y∧μ≤n ∧
   ((∃ Tr,m=some Tr∧Dp F.P F.B true (KM F n T) Tr y.R y.H g)∨(m=none∧T = .w3∧J5 (KM F n T y.R y.H) (s.ws=0) g))
structure Bk (Q:Nat) (T0:Mp) (D:Nat→Ab) (js:Nat→Nat) (s:Sh) (n:Nat):Prop where
 d0:D 0 = .mn T0
 nf:T0 ≠ .fin
 pos:0 < n
 out:∀ i,n≤i→D i = .no
 main:∀ i T,D i = .mn T→i=0
 tG:dB F.N (cnt D n) s
 aig:pn F.N T0 (cnt D n) s
 nK:∀ i k j T,D i = .wk k j T→rF F.N T∧Fy F j T∧CJ js T∧js k=j∧k+rem T0 < F.N
 sV:∀ i i' k j j' T T',D i = .wk k j T→D i' = .wk k j' T'→i=i'
 done:∀ k,k+rem T0 < F.N→js k=F.J∨∃ i j T,D i = .wk k j T
 Sn:∀ k,F.N≤k+rem T0→js k=0
 Kp:31 * (n+rem T0) < Q
structure MI (Q:Nat) (T0:Mp) (D:Nat→Ab) (m:Nat→Ms) (js:Nat→Nat) (s:Sh) (th:Nat→Option Th) (mu:Nat→Bool) (dd:Nat→Nat) (gs:Array Goroutine) (w:World) (t:Trace):Prop where
 mem:fO F.B th (hF F s js (cnt D gs.size).hl) w
 tr:dg (some (am F)) (some (aw F)) th mu dd [F.bm,F.bw] (rj F (cnt D gs.size).hl) w.heap.size t
 yG:∀ i g,gs[i]? = some g→qW F (MM F Q D s gs.size) s i (m i) (th i) (mu i) (dd i) g (D i)
 out:∀ i,gs.size≤i→th i=none∧mu i=false∧dd i=0
 bk:Bk F Q T0 D js s gs.size
end Go.Lg
namespace Go.Lg
open Go.Conc Go.ConcN
theorem j0(D:Nat→Ab)(i:Nat)(x:Ab):cL D i x i=x:=by simp [cL]
theorem fV{D:Nat→Ab}{i j:Nat}{x:Ab}(h:j≠i):cL D i x j=D j:=by simp [cL,h]
theorem N9(D:Nat→Ms)(i:Nat)(x:Ms):m8 D i x i=x:=by simp [m8]
theorem Jj{D:Nat→Ms}{i j:Nat}{x:Ms}(h:j≠i):m8 D i x j=D j:=by simp [m8,h]
theorem FU{th:Nat→Option Th}{i:Nat}{x:Option Th}(h:th i=x):gy th i x=th:=by
 funext j; unfold gy; split
 ·rename_i e; subst e; exact h.symm
 ·rfl
theorem acV{f:Nat→Nat}{i:Nat}:∀ {n:Nat},i < n→f i≤dA n f
 | n+1,h=>by
  simp only [dA]
  rcases Nat.lt_or_ge i n with bS | tV
  ·have:=acV (f:=f) bS; omega
  ·obtain rfl:i=n:=by omega
   omega
theorem Ta{f:Nat→Nat}{b:Nat}(h:∀ i,f i≤b):∀ n,dA n f≤b * n
 | 0=>by simp [dA]
 | n+1=>by have:=Ta h n; have:=h n; simp only [dA,Nat.mul_succ]; omega
theorem xq{D:Nat→Ab}{i n:Nat}(hi:i < n)(x:Ab):(cnt D n).Bn (cA (D i)) (cA x) (cnt (cL D i x) n):=by
 have key:∀ f:Cn→Nat,dA n (λ j=>f (cA (cL D i x j)))+f (cA (D i))=dA n (λ j=>f (cA (D j)))+f (cA x):=λ f=>by
  have:=FP (f:=λ j=>f (cA (D j))) (g:=λ j=>f (cA (cL D i x j))) hi (λ k hk=>by simp only [fV hk])
  simpa only [j0] using this
 exact ⟨key _,key _,key _,key _,key _,key _,key _,key _,key _,key _,key _,key _,key _⟩
theorem G3{D:Nat→Ab}{i n:Nat}(hi:i < n):(cA (D i)).Le (cnt D n):=by
 have key:∀ f:Cn→Nat,f (cA (D i))≤dA n (λ j=>f (cA (D j))):=λ f=>acV (f:=λ j=>f (cA (D j))) hi
 exact ⟨key _,key _,key _,key _,key _,key _,key _,key _,key _,key _,key _,key _,key _⟩
theorem af2{D:Nat→Ab}{n:Nat}(hn:0 < n)(x:Ab)(y:Ab)(hx:cA x = .zero)(h0:cA (D 0) = .zero):(cnt D n).Bn .zero (cA y) (cnt (cL (cL D n y) 0 x) (n+1)):=by
 have key:∀ f:Cn→Nat,f .zero=0→dA (n+1) (λ j=>f (cA (cL (cL D n y) 0 x j)))+f .zero=dA n (λ j=>f (cA (D j)))+f (cA y):=λ f hf=>by
  simp only [dA]
  rw [fV (show n≠0 by omega),j0,hf]
  have:dA n (λ j=>f (cA (cL (cL D n y) 0 x j)))=dA n (λ j=>f (cA (D j))):=N8 λ j hj=>by
   by_cases h:j=0
   ·subst h; rw [j0,hx,h0]
   ·rw [fV h,fV (by omega)]
  omega
 exact ⟨key _ rfl,key _ rfl,key _ rfl,key _ rfl,key _ rfl,key _ rfl,key _ rfl,key _ rfl,key _ rfl,key _ rfl,key _ rfl,key _ rfl,key _ rfl⟩
section
variable {F:Fx} {D:Nat→Ab} {s s':Sh} {n i Q:Nat} {x:Ab}
theorem ak9(s:Sh)(a:Ab):o8 s a≤31:=by
 cases a
 ·exact Nat.zero_le _
 ·exact aPH _ _
 ·exact aPG _ _
theorem O9(hi:i < n)(hQ:31 * n < Q)
  (h:cP F x+3 * s'.ms+3 * s'.ws < cP F (D i)+3 * s.ms+3 * s.ws∨(cP F x+3 * s'.ms+3 * s'.ws=cP F (D i)+3 * s.ms+3 * s.ws∧s'.mu=s.mu∧s'.v=s.v∧o8 s x < o8 s (D i))) :
  MM F Q (cL D i x) s' n < MM F Q D s n:=by
 have h1:=FP (f:=λ j=>cP F (D j)) (g:=λ j=>cP F (cL D i x j)) hi (λ k hk=>by simp only [fV hk])
 simp only [j0] at h1
 unfold MM
 rcases h with h | ⟨h,hm,hv,hr⟩
 ·have h2:dA n (λ j=>o8 s' (cL D i x j))≤31 * n:=Ta (λ j=>ak9 s' _) n
  generalize dA n (λ j=>cP F (cL D i x j))=a' at *
  generalize dA n (λ j=>cP F (D j))=a at *
  generalize dA n (λ j=>o8 s' (cL D i x j))=r' at *
  have h3:a'+3 * s'.ms+3 * s'.ws+1≤a+3 * s.ms+3 * s.ws:=by omega
  have h4:=Nat.mul_le_mul_right Q h3
  rw [Nat.add_mul _ 1 Q,Nat.one_mul] at h4
  omega
 ·have er:∀ a,o8 s' a=o8 s a:=λ a=>by cases a <;> simp [o8,hm,hv]
  have h2:=FP (f:=λ j=>o8 s (D j)) (g:=λ j=>o8 s (cL D i x j)) hi (λ k hk=>by simp only [fV hk])
  simp only [j0] at h2
  have e:(λ j=>o8 s' (cL D i x j))=λ j=>o8 s (cL D i x j):=by funext j; exact er _
  rw [e]
  have e2:dA n (λ j=>cP F (cL D i x j))+3 * s'.ms+3 * s'.ws=dA n (λ j=>cP F (D j))+3 * s.ms+3 * s.ws:=by omega
  rw [e2]
  omega
theorem aov{y:Ab}(hn:0 < n)(hQ:31 * (n+1) < Q)(h:cP F x+cP F y < cP F (D 0)):MM F Q (cL (cL D n y) 0 x) s (n+1) < MM F Q D s n:=by
 have h1:=FP (f:=λ k=>cP F (D k)) (g:=λ k=>cP F (cL D 0 x k)) hn (λ k hk=>by simp only [fV hk])
 have h2:dA (n+1) (λ k=>cP F (cL (cL D n y) 0 x k))=dA n (λ k=>cP F (cL D 0 x k))+cP F y:=by
  simp only [dA]
  rw [fV (show n≠0 by omega),j0]
  congr 1
  exact N8 λ k hk=>by
   by_cases h0:k=0
   ·subst h0; rw [j0,j0]
   ·rw [fV h0,fV h0,fV (by omega)]
 simp only [j0] at h1
 have h3:dA (n+1) (λ j=>o8 s (cL (cL D n y) 0 x j))≤31 * (n+1):=Ta (λ j=>ak9 s _) _
 unfold MM
 rw [h2]
 generalize dA n (λ j=>cP F (cL D 0 x j))=a' at *
 generalize dA n (λ j=>cP F (D j))=a at *
 generalize dA (n+1) (λ j=>o8 s (cL (cL D n y) 0 x j))=r' at *
 have h4:a'+cP F y+3 * s.ms+3 * s.ws+1≤a+3 * s.ms+3 * s.ws:=by omega
 have h5:=Nat.mul_le_mul_right Q h4
 rw [Nat.add_mul _ 1 Q,Nat.one_mul] at h5
 omega
theorem aou(hi:i < n)(hQ:0 < Q)(h:0 < cP F (D i)):0 < MM F Q D s n:=by
 have:=acV (f:=λ j=>cP F (D j)) hi
 unfold MM
 have h2:0 < (dA n (λ j=>cP F (D j))+3 * s.ms+3 * s.ws) * Q:=Nat.mul_pos (by omega) hQ
 omega
end
section
variable {F:Fx} {B:Base} {th:Nat→Option Th} {s s':Sh} {js:Nat→Nat} {hl:Nat} {w w':World}
theorem Bv(F:Fx)(s:Sh)(js:Nat→Nat)(hl:Nat):(F.bm,qy F.tm s)∈hF F s js hl:=by simp [hF]
theorem Bw(F:Fx)(s:Sh)(js:Nat→Nat)(hl:Nat):(F.bw,qP F.tw s)∈hF F s js hl:=by simp [hF]
theorem Kw(F:Fx)(s:Sh)(js:Nat→Nat)(hl:Nat):∀ b,b∈[F.bm,F.bw]→∃ o,(b,o)∈hF F s js hl:=λ b hb=>by
 simp only [fR,List.not_mem_nil,or_false] at hb
 rcases hb with rfl | rfl
 ·exact ⟨_,Bv F s js hl⟩
 ·exact ⟨_,Bw F s js hl⟩
theorem Kv(F:Fx)(s:Sh)(js:Nat→Nat)(hl:Nat):∀ b,rj F hl=some b→(∃ o,(b,o)∈hF F s js hl)∧b ∉ [F.bm,F.bw]:=λ b hb=>by
 unfold rj at hb
 split at hb
 ·cases hb
  rename_i h
  refine ⟨⟨F.cont js,by simp [hF,h]⟩,?_⟩
  have:=F.ho
  simp only [fR,List.not_mem_nil,or_false,not_or]
  exact ⟨λ e=>this.2.1 e.symm,λ e=>this.2.2 e.symm⟩
 ·cases hb
theorem Fs{b:Nat}{o:Obj}(h:(b,o)∈hF F s js hl):(b=F.bm∧o=qy F.tm s)∨(b=F.bw∧o=qP F.tw s)∨(b=F.bo∧o=F.cont js∧hl=0):=by
 unfold hF at h
 simp only [fR,Prod.mk.injEq] at h
 rcases h with h | h | h
 ·exact .inl h
 ·exact .inr (.inl h)
 ·split at h
  ·simp only [fR,Prod.mk.injEq,List.not_mem_nil,or_false] at h
   exact .inr (.inr ⟨h.1,h.2,‹_›⟩)
  ·cases h
theorem UJ(h:fO B th (hF F s js hl) w):fS F s w:=⟨h.oH _ _ (Bv F s js hl),h.oH _ _ (Bw F s js hl)⟩
theorem fO.put(h:fO F.B th (hF F s js hl) w)(hp:cJ F s' w w'):fO F.B th (hF F s' js hl) w':=by
 have ne:∀ b,(∃ j x,th j=some x∧((∃ o,x.R b=some o)∨∃ o,(b,o)∈x.H))→w'.heap[b]? = w.heap[b]? := by
  rintro b ⟨j,x,hx,hb⟩
  have h1:=h.mN _ _ (Bv F s js hl) j x hx
  have h2:=h.mN _ _ (Bw F s js hl) j x hx
  refine hp.same b (λ e=>?_) (λ e=>?_) <;> subst e
  ·rcases hb with ⟨o,ho⟩ | ⟨o,ho⟩
   ·exact nn h1.1 ho
   ·exact h1.2 o ho
  ·rcases hb with ⟨o,ho⟩ | ⟨o,ho⟩
   ·exact nn h2.1 ho
   ·exact h2.2 o ho
 refine ⟨λ j x hx=>?_,h.apart,λ b o hb=>?_,λ b o hb j x hx=>?_⟩
 ·have hf:=h.fits j x hx
  exact ⟨λ b o hb=>by rw [ne b ⟨j,x,hx,.inl ⟨o,hb⟩⟩]; exact hf.r b o hb,λ b o hb=>by rw [ne b ⟨j,x,hx,.inr ⟨o,hb⟩⟩]; exact hf.h b o hb,hf.nd,hf.dj,hp.os hf.os,hp.tape.trans hf.tape,hp.out.trans hf.out⟩
 ·rcases Fs hb with ⟨rfl,rfl⟩ | ⟨rfl,rfl⟩ | ⟨rfl,rfl,hz⟩
  ·exact hp.sh.m
  ·exact hp.sh.g
  ·rw [hp.same _ (λ e=>F.ho.2.1 e.symm) (λ e=>F.ho.2.2 e.symm)]
   exact h.oH _ _ (by simp [hF,hz])
 ·rcases Fs hb with ⟨rfl,rfl⟩ | ⟨rfl,rfl⟩ | ⟨rfl,rfl,hz⟩
  ·exact h.mN _ _ (Bv F s js hl) j x hx
  ·exact h.mN _ _ (Bw F s js hl) j x hx
  ·exact h.mN F.bo (F.cont js) (by simp [hF,hz]) j x hx
theorem fO.take{i hl':Nat}{R:az}{H:ah}(h:fO B th (hF F s js 0) w)(hi:th i=some ⟨R,H⟩)(hz:hl'≠0):fO B (gy th i (some ⟨R,(F.bo,F.cont js)::H⟩)) (hF F s js hl') w:=by
 have D8:(F.bo,F.cont js)∈hF F s js 0:=by simp [hF]
 have hf:=h.fits i _ hi
 have l8:=h.mN _ _ D8
 have sub:∀ {b o},(b,o)∈hF F s js hl'→(b,o)∈hF F s js 0∧b≠F.bo:=λ {b o} hb=>by
  rcases Fs hb with ⟨rfl,rfl⟩ | ⟨rfl,rfl⟩ | ⟨rfl,rfl,hx⟩
  ·exact ⟨Bv F s js 0,F.ho.2.1⟩
  ·exact ⟨Bw F s js 0,F.ho.2.2⟩
  ·exact absurd hx hz
 refine ⟨λ j x hx=>?_,λ j k x y oq hx hy b o hb=>?_,λ b o hb=>h.oH b o (sub hb).1,λ b o hb j x hx=>?_⟩
 ·by_cases hj:j=i
  ·subst hj; rw [fM] at hx; cases hx
   refine ⟨hf.r,λ b o hb=>?_,?_,λ b o hb=>?_,hf.os,hf.tape,hf.out⟩
   ·rcases fR.1 hb with e | hb
    ·cases e; exact h.oH _ _ D8
    ·exact hf.h b o hb
   ·rw [List.map_cons,List.nodup_cons]
    refine ⟨λ hm=>?_,hf.nd⟩
    obtain ⟨p,hp,he⟩:=List.mem_map.1 hm
    obtain ⟨b,o⟩:=p
    simp only at he
    subst he
    exact (l8 j _ hi).2 o hp
   ·rcases fR.1 hb with e | hb
    ·cases e; exact (l8 j _ hi).1
    ·exact hf.dj b o hb
  ·rw [eQ hj] at hx; exact h.fits j x hx
 ·by_cases hj:j=i
  ·subst hj; rw [fM] at hx; cases hx
   rw [eQ (Ne.symm oq)] at hy
   rcases fR.1 hb with e | hb
   ·cases e; exact l8 k y hy
   ·exact h.apart j k _ _ oq hi hy b o hb
  ·rw [eQ hj] at hx
   by_cases hk:k=i
   ·subst hk; rw [fM] at hy; cases hy
    have:=h.apart j k _ _ oq hx hi b o hb
    refine ⟨this.1,λ o' fA=>?_⟩
    rcases fR.1 fA with e | fA
    ·cases e; exact (l8 j x hx).2 o hb
    ·exact this.2 o' fA
   ·rw [eQ hk] at hy; exact h.apart j k x y oq hx hy b o hb
 ·by_cases hj:j=i
  ·subst hj; rw [fM] at hx; cases hx
   have:=h.mN b o (sub hb).1 j _ hi
   refine ⟨this.1,λ o' fA=>?_⟩
   rcases fR.1 fA with e | fA
   ·cases e; exact (sub hb).2 rfl
   ·exact this.2 o' fA
  ·rw [eQ hj] at hx; exact h.mN b o (sub hb).1 j x hx
theorem fO.auW{i:Nat}{R:az}{H:ah}{ja:Nat→Nat}(h:fO B th (hF F s js hl) w)(_:hl≠0)(hi:th i=some ⟨R,(F.bo,F.cont ja)::H⟩):fO B (gy th i (some ⟨R,H⟩)) (hF F s ja 0) w:=by
 have hf:=h.fits i _ hi
 have dM:=hf.nd
 rw [List.map_cons,List.nodup_cons] at dM
 have Ef:∀ o,(F.bo,o) ∉ H:=λ o ho=>dM.1 (List.mem_map.2 ⟨_,ho,rfl⟩)
 have key:∀ j x,gy th i (some ⟨R,H⟩) j=some x→∃ y,th j=some y∧x.R=y.R∧(∀ p,p∈x.H→p∈y.H):=λ j x hx=>by
  by_cases hj:j=i
  ·subst hj; rw [fM] at hx; cases hx
   exact ⟨_,hi,rfl,λ p hp=>List.mem_cons_of_mem _ hp⟩
  ·rw [eQ hj] at hx; exact ⟨x,hx,rfl,λ p hp=>hp⟩
 refine ⟨λ j x hx=>?_,λ j k x y oq hx hy b o hb=>?_,λ b o hb=>?_,λ b o hb j x hx=>?_⟩
 ·by_cases hj:j=i
  ·subst hj; rw [fM] at hx; cases hx
   exact ⟨hf.r,λ b o hb=>hf.h b o (List.mem_cons_of_mem _ hb),dM.2,λ b o hb=>hf.dj b o (List.mem_cons_of_mem _ hb),hf.os,hf.tape,hf.out⟩
  ·rw [eQ hj] at hx; exact h.fits j x hx
 ·obtain ⟨x',B6,e1,e2⟩:=key j x hx
  obtain ⟨y',ua,e3,e4⟩:=key k y hy
  have:=h.apart j k x' y' oq B6 ua b o (e2 _ hb)
  exact ⟨by rw [e3]; exact this.1,λ o' fA=>this.2 o' (e4 _ fA)⟩
 ·rcases Fs hb with ⟨rfl,rfl⟩ | ⟨rfl,rfl⟩ | ⟨rfl,rfl,_⟩
  ·exact h.oH _ _ (Bv F s js hl)
  ·exact h.oH _ _ (Bw F s js hl)
  ·exact hf.h _ _ (by simp)
 ·obtain ⟨x',B6,e1,e2⟩:=key j x hx
  rcases Fs hb with ⟨rfl,rfl⟩ | ⟨rfl,rfl⟩ | ⟨rfl,rfl,_⟩
  ·have:=h.mN _ _ (Bv F s js hl) j x' B6
   exact ⟨by rw [e1]; exact this.1,λ o' fA=>this.2 o' (e2 _ fA)⟩
  ·have:=h.mN _ _ (Bw F s js hl) j x' B6
   exact ⟨by rw [e1]; exact this.1,λ o' fA=>this.2 o' (e2 _ fA)⟩
  ·by_cases hj:j=i
   ·subst hj; rw [fM] at hx; cases hx
    exact ⟨hf.dj F.bo (F.cont ja) (by simp),Ef⟩
   ·rw [eQ hj] at hx
    have:=h.apart i j _ _ (Ne.symm hj) hi hx F.bo (F.cont ja) (by simp)
    exact this
end
theorem Ss{F:Fx}{j:Nat}(c:Lc):Fy F j (hd c)↔j < F.J:=by unfold hd; split <;> exact Iff.rfl
theorem aN0{F:Fx}{j:Nat}(c:Lc):Fy F j (jN c)↔j < F.J:=by unfold jN; split <;> exact Iff.rfl
theorem akm{F:Fx}{j:Nat}(m:Wd):Fy F j (hu m)↔j≤F.J:=by unfold hu; split <;> exact Iff.rfl
section
variable {F:Fx} {Q:Nat} {T0 ju:Mp} {D:Nat→Ab} {js:Nat→Nat} {s s':Sh} {n i k j:Nat} {T T':Lp}
theorem aN1(h:Fy F j T)(dL:dF T s T' s')(B4:AD F j T T')(hu:ia T=false)(hq:T' ≠ .quit):Fy F j T':=by
 cases dL
 case ur=>cases hu
 case r0=>exact (Ss _).2 h
 case r1=>exact (Ss _).2 h
 case r3=>exact (Ss _).2 h
 case An=>exact (Ss _).2 h
 case AA=>exact (aN0 _).2 h
 case zd c _ _=>cases c.ws <;> exact h
 case s1 c _ _=>cases c.sv <;> exact h
 case AB=>exact (akm _).2 h
 case ux=>exact (akm _).2 h
 case Tc=>exact B4
 case Td=>exact B4
 case Kz=>exact absurd rfl hq
 case d4=>exact absurd rfl hq
 all_goals exact h
theorem Sr{js:Nat→Nat}(c:Lc):CJ js (hd c):=by unfold hd; split <;> trivial
theorem aNZ{js:Nat→Nat}(c:Lc):CJ js (jN c):=by unfold jN; split <;> trivial
theorem akl{js:Nat→Nat}(m:Wd):CJ js (hu m):=by unfold hu; split <;> trivial
theorem Bk.NZ(h:Bk F Q T0 D js s n):31 * n < Q:=by have:=h.Kp; omega
theorem aQr{J:Nat}{T:Mp}(h:T ≠ .fin):0 < stM J T:=by cases T <;> simp only [stM] <;> first | omega | exact absurd rfl h
theorem Bk.uq(h:Bk F Q T0 D js s n):0 < MM F Q D s n:=aou h.pos (by have:=h.NZ; omega) (by rw [h.d0]; exact aQr h.nf)
theorem Bk.uK(h:Bk F Q T0 D js s n)(hd:D i = .wk k j T)(hi:i < n)(dL:dF T s T' s'){x:Ab}{ja:Nat→Nat}(hx:cA x=cW T')(hxm:∀ T,x ≠ .mn T)(hxw:∀ k' j' T1,x = .wk k' j' T1→k'=k∧T1=T'∧ja k=j'∧Fy F j' T1)
  (iK:∀ k',k'≠k→ja k'=js k') (jG:∀ i' k' j' T1,i'≠i→D i' = .wk k' j' T1→CJ ja T1) (aAJ:CJ ja T') (axm:ja k=F.J∨∃ j',x = .wk k j' T'):Bk F Q T0 (cL D i x) ja s' n:=by
 have h0:i≠0:=λ e=>by subst e; rw [h.d0] at hd; cases hd
 obtain ⟨ot,oj,oh,ok,on⟩:=h.nK i k j T hd
 have hle:=G3 (D:=D) hi
 have xP:=xq (D:=D) hi x
 rw [hd] at hle xP
 rw [hx] at xP
 obtain ⟨ha,jy⟩:=h.tG.step ot hle dL xP
 have hg:=h.aig.step hle dL xP
 refine ⟨by rw [fV (Ne.symm h0)]; exact h.d0,h.nf,h.pos,λ i' oO=>by rw [fV (by omega)]; exact h.out i' oO,λ i' T hT=>?_,ha,hg,λ i' k' j' T1 hT=>?_,λ i1 i2 k' j1 j2 T1 T2 h1 h2=>?_,λ k' dP=>?_,λ k' dP=>?_,h.Kp⟩
 ·by_cases e:i'=i
  ·subst e; rw [j0] at hT; exact absurd hT (hxm T)
  ·rw [fV e] at hT; exact h.main i' T hT
 ·by_cases e:i'=i
  ·subst e; rw [j0] at hT
   obtain ⟨rfl,rfl,h3,h4⟩:=hxw k' j' T1 hT
   exact ⟨jy,h4,aAJ,h3,on⟩
  ·rw [fV e] at hT
   obtain ⟨a1,a2,a3,a4,a5⟩:=h.nK i' k' j' T1 hT
   have hkk:k'≠k:=λ e'=>by subst e'; exact e (h.sV i' i k' j' j T1 T hT hd)
   exact ⟨a1,a2,jG i' k' j' T1 e hT,by rw [iK k' hkk]; exact a4,a5⟩
 ·have key:∀ i1 j1 T1,cL D i x i1 = .wk k' j1 T1→∃ j' T',D i1 = .wk k' j' T':=λ i1 j1 T1 h1=>by
   by_cases e:i1=i
   ·subst e; rw [j0] at h1
    obtain ⟨rfl,_⟩:=hxw k' j1 T1 h1
    exact ⟨_,_,hd⟩
   ·rw [fV e] at h1; exact ⟨_,_,h1⟩
  obtain ⟨_,_,e1⟩:=key i1 j1 T1 h1
  obtain ⟨_,_,e2⟩:=key i2 j2 T2 h2
  exact h.sV _ _ _ _ _ _ _ e1 e2
 ·by_cases e:k'=k
  ·subst e
   rcases axm with hz | ⟨j',hz⟩
   ·exact .inl hz
   ·exact .inr ⟨i,j',T',by rw [j0]; exact hz⟩
  ·rcases h.done k' dP with hz | ⟨i',j',T1,hz⟩
   ·exact .inl (by rw [iK k' e]; exact hz)
   ·refine .inr ⟨i',j',T1,?_⟩
    rw [fV (λ e'=>by subst e'; rw [hd] at hz; cases hz; exact e rfl)]; exact hz
 ·have e:k'≠k:=λ e=>by subst e; omega
  rw [iK k' e]; exact h.Sn k' dP
theorem Bk.work(h:Bk F Q T0 D js s n)(hd:D i = .wk k j T)(hi:i < n)(dL:dF T s T' s')(B4:AD F j T T')(Ew:CJ js T')(hu:ia T=false)(hq:T' ≠ .quit) :
  Bk F Q T0 (cL D i (.wk k j T')) js s' n∧MM F Q (cL D i (.wk k j T')) s' n < MM F Q D s n:=by
 obtain ⟨ot,oj,oh,ok,on⟩:=h.nK i k j T hd
 refine ⟨h.uK hd hi dL rfl (λ T=>by simp) (λ k' j' T1 e=>?_) (λ _ _=>rfl) (λ i' k' j' T1 _ e=>(h.nK i' k' j' T1 e).2.2.1) Ew (.inr ⟨j,rfl⟩),O9 hi h.NZ ?_⟩
 ·cases e; exact ⟨rfl,rfl,ok,aN1 oj dL B4 hu hq⟩
 ·rw [hd]
  have:=dL.Qc ot
  simp only [hu,oA,if_false] at this
  simp only [cP,o8]
  rcases this with z | ⟨z1,_,z2,z3,z4⟩
  ·left; omega
  ·right; exact ⟨by omega,z2,z3,z4⟩
theorem Bk.ur(h:Bk F Q T0 D js s n)(hd:D i = .wk k j (.ur js))(hi:i < n) :
  Bk F Q T0 (cL D i (.wk k (j+1) .ud)) (gJ js k (j+1)) s n∧MM F Q (cL D i (.wk k (j+1) .ud)) s n < MM F Q D s n:=by
 obtain ⟨ot,oj,oh,ok,on⟩:=h.nK i k j _ hd
 have oj':j < F.J:=oj
 refine ⟨h.uK hd hi .ur rfl (λ T=>by simp) (λ k' j' T1 e=>?_) (λ k' dP=>uM dP) (λ i' k' j' T1 cU e=>?_) trivial (.inr ⟨_,rfl⟩),O9 hi h.NZ ?_⟩
 ·cases e; exact ⟨rfl,rfl,uN _ _ _,oj'⟩
 ·
  have hb:=h.tG
  have h1:=hb.ow
  have h2:=hb.l1
  have a1:(cA (D i)).hl=1:=by rw [hd]; rfl
  cases T1 with
  | ul z =>
   have a2:(cA (D i')).hl=1:=by rw [e]; rfl
   have:2≤(cnt D n).hl:=by
    have oO:i' < n:=by
     apply Classical.byContradiction
     intro hn
     rw [h.out i' (by omega)] at e; cases e
    have t1:=(xq (D:=D) hi .no).hl
    have t2:=(G3 (D:=cL D i .no) oO).hl
    rw [fV cU,a2] at t2
    rw [a1] at t1
    simp only [cA,Cn.zero] at t1
    omega
   omega
  | uv z =>
   have a2:(cA (D i')).hl=1:=by rw [e]; rfl
   have:2≤(cnt D n).hl:=by
    have oO:i' < n:=by
     apply Classical.byContradiction
     intro hn
     rw [h.out i' (by omega)] at e; cases e
    have t1:=(xq (D:=D) hi .no).hl
    have t2:=(G3 (D:=cL D i .no) oO).hl
    rw [fV cU,a2] at t2
    rw [a1] at t1
    simp only [cA,Cn.zero] at t1
    omega
   omega
  | ur z =>
   have a2:(cA (D i')).hl=1:=by rw [e]; rfl
   have:2≤(cnt D n).hl:=by
    have oO:i' < n:=by
     apply Classical.byContradiction
     intro hn
     rw [h.out i' (by omega)] at e; cases e
    have t1:=(xq (D:=D) hi .no).hl
    have t2:=(G3 (D:=cL D i .no) oO).hl
    rw [fV cU,a2] at t2
    rw [a1] at t1
    simp only [cA,Cn.zero] at t1
    omega
   omega
  | _=>trivial
 ·rw [hd]
  left
  simp only [cP,iP]
  have:F.J - j=(F.J - (j+1))+1:=by omega
  omega
theorem Bk.quit(h:Bk F Q T0 D js s n)(hd:D i = .wk k j T)(hi:i < n)(dL:dF T s .quit s')(hj:j=F.J)(hu:ia T=false) :
  Bk F Q T0 (cL D i .no) js s' n∧MM F Q (cL D i .no) s' n < MM F Q D s n:=by
 obtain ⟨ot,oj,oh,ok,on⟩:=h.nK i k j T hd
 refine ⟨h.uK hd hi dL rfl (λ T=>by simp) (λ k' j' T1 e=>by cases e) (λ _ _=>rfl) (λ i' k' j' T1 _ e=>(h.nK i' k' j' T1 e).2.2.1) trivial (.inl (ok.trans hj)),O9 hi h.NZ ?_⟩
 rw [hd]
 have:=dL.Qc ot
 simp only [hu,oA,if_false] at this
 simp only [cP,o8]
 rcases this with z | ⟨z1,_,z2,z3,z4⟩
 ·left; omega
 ·right; have z5:iP Lp.quit=0:=rfl; subst hj; exact ⟨by omega,z2,z3,z4⟩
theorem aPr(dL:gP T0 s ju s')(h:ju ≠ .fin):rem ju=rem T0:=by cases dL <;> rfl
theorem Bk.aNE(h:Bk F Q T0 D js s n)(dL:gP T0 s ju s')(hf:ju ≠ .fin):Bk F Q ju (cL D 0 (.mn ju)) js s' n∧MM F Q (cL D 0 (.mn ju)) s' n < MM F Q D s n:=by
 have hr:=aPr dL hf
 have xP:=xq (D:=D) h.pos (.mn ju)
 rw [h.d0] at xP
 have ec:cnt (cL D 0 (.mn ju)) n=cnt D n:=by
  obtain ⟨g1,g2,g3,g4,g5,g6,g7,g8,g9,dm,c7,c8,c9⟩:=xP
  simp only [cA,Cn.zero,Nat.add_zero] at *
  generalize cnt (cL D 0 (.mn ju)) n=c' at *
  generalize cnt D n=c at *
  cases c; cases c'; simp only [Cn.mk.injEq] at *
  exact ⟨g1,g2,g3,g4,g5,g6,g7,g8,g9,dm,c7,c8,c9⟩
 have key:∀ i' k' j' T1,cL D 0 (.mn ju) i' = .wk k' j' T1→D i' = .wk k' j' T1:=λ i' k' j' T1 e=>by
  by_cases e0:i'=0
  ·subst e0; rw [j0] at e; cases e
  ·rwa [fV e0] at e
 refine ⟨⟨j0 _ _ _,hf,h.pos,λ i' oO=>by rw [fV (by have:=h.pos; omega)]; exact h.out i' oO,λ i' T hT=>?_,by rw [ec]; exact h.tG.main dL,by rw [ec]; exact h.aig.main dL,λ i' k' j' T1 e=>by rw [hr]; exact h.nK i' k' j' T1 (key _ _ _ _ e),
  λ i1 i2 k' j1 j2 T1 T2 h1 h2=>h.sV _ _ _ _ _ _ _ (key _ _ _ _ h1) (key _ _ _ _ h2),λ k' dP=>?_,λ k' dP=>h.Sn k' (by rw [← hr]; exact dP),by rw [hr]; exact h.Kp⟩,O9 h.pos h.NZ ?_⟩
 ·by_cases e0:i'=0
  ·exact e0
  ·rw [fV e0] at hT; exact h.main i' T hT
 ·rcases h.done k' (by rw [← hr]; exact dP) with z | ⟨i',j',T1,z⟩
  ·exact .inl z
  ·exact .inr ⟨i',j',T1,by rw [fV (λ e=>by subst e; rw [h.d0] at z; cases z)]; exact z⟩
 ·rw [h.d0]; exact dL.Qc
theorem SW(r:Nat):rem (lg r)=r:=by cases r <;> rfl
theorem aNW(r:Nat):lg r ≠ .fin:=by cases r <;> simp [lg]
theorem Bk.spawn{r:Nat}(h:Bk F Q (.go r) D js s n):Bk F Q (lg r) (cL (cL D n (.wk (F.N - (r+1)) 0 .ld)) 0 (.mn (lg r))) js s (n+1)∧MM F Q (cL (cL D n (.wk (F.N - (r+1)) 0 .ld)) 0 (.mn (lg r))) s (n+1) < MM F Q D s n:=by
 have xP:=af2 (D:=D) h.pos (.mn (lg r)) (.wk (F.N - (r+1)) 0 .ld) rfl (by rw [h.d0]; rfl)
 have gS:=h.pos
 have hle:=h.aig.le
 simp only [rem] at hle
 have hrN:r+1≤F.N:=by omega
 have key:∀ i' k' j' T1,cL (cL D n (.wk (F.N - (r+1)) 0 .ld)) 0 (.mn (lg r)) i' = .wk k' j' T1→(i'=n∧k'=F.N - (r+1)∧j'=0∧T1 = .ld)∨D i' = .wk k' j' T1:=λ i' k' j' T1 e=>by
  by_cases e0:i'=0
  ·subst e0; rw [j0] at e; cases e
  ·rw [fV e0] at e
   by_cases en:i'=n
   ·subst en; rw [j0] at e; cases e; exact .inl ⟨rfl,rfl,rfl,rfl⟩
   ·rw [fV en] at e; exact .inr e
 refine ⟨⟨j0 _ _ _,aNW r,by omega,λ i' oO=>by rw [fV (by omega),fV (by omega)]; exact h.out i' (by omega),λ i' T hT=>?_,h.tG.spawn h.aig xP,h.aig.spawn xP,λ i' k' j' T1 e=>?_,λ i1 i2 k' j1 j2 T1 T2 h1 h2=>?_,λ k' dP=>?_,λ k' dP=>?_,?_⟩,aov gS ?_ ?_⟩
 ·by_cases e0:i'=0
  ·exact e0
  ·rw [fV e0] at hT
   by_cases en:i'=n
   ·subst en; rw [j0] at hT; cases hT
   ·rw [fV en] at hT; exact h.main i' T hT
 ·rw [SW]
  rcases key i' k' j' T1 e with ⟨rfl,rfl,rfl,rfl⟩ | z
  ·exact ⟨trivial,F.hJ,trivial,h.Sn _ (by simp only [rem]; omega),by omega⟩
  ·obtain ⟨a1,a2,a3,a4,a5⟩:=h.nK i' k' j' T1 z
   simp only [rem] at a5
   exact ⟨a1,a2,a3,a4,by omega⟩
 ·rcases key i1 k' j1 T1 h1 with ⟨q1,e1,_,_⟩ | z1 <;> rcases key i2 k' j2 T2 h2 with ⟨q2,e2,_,_⟩ | z2
  ·exact q1.trans q2.symm
  ·have:=(h.nK i2 _ j2 T2 z2).2.2.2.2; simp only [rem] at this; omega
  ·have:=(h.nK i1 _ j1 T1 z1).2.2.2.2; simp only [rem] at this; omega
  ·exact h.sV _ _ _ _ _ _ _ z1 z2
 ·rw [SW] at dP
  by_cases e:k'+(r+1) < F.N
  ·rcases h.done k' e with z | ⟨i',j',T1,z⟩
   ·exact .inl z
   ·refine .inr ⟨i',j',T1,?_⟩
    rw [fV (λ e=>by rw [e,h.d0] at z; cases z),fV (λ e=>by rw [e,h.out n (dD _)] at z; cases z)]; exact z
  ·exact .inr ⟨n,0,.ld,by rw [fV (by omega),j0]; congr 1; omega⟩
 ·rw [SW] at dP; exact h.Sn k' (by simp only [rem]; omega)
 ·rw [SW]; have:=h.Kp; simp only [rem] at this; omega
 ·have:=h.Kp; simp only [rem] at this; omega
 ·rw [h.d0]
  have:=aP8 F.J r
  simp only [cP]
  omega
end
theorem Dp.FR{P:Program}{B:Base}{main:Bool}{K:az→ah→Goroutine→Prop}{T:Tree}{R:az}{H:ah}{g:Goroutine}(h:Dp P B main K T R H g)(hs:∀ R H g,K R H g→g.status = .running):g.status = .running:=by
 induction T generalizing R H g with
 | node ι f ih =>
  rcases h with h | ⟨h,_⟩ | ⟨R',H',i,_,h⟩
  ·exact hs _ _ _ h
  ·exact h
  ·exact ih i h
theorem EP{gs:Array Goroutine}{i:Nat}{g:Goroutine}(h:gs[i]? = some g):i < gs.size:=(Array.getElem?_eq_some_iff.1 h).1
theorem J5.woken{P:Program}{K:Goroutine→Prop}{z z':Prop}{a a' x:Goroutine}{w:World}(h:J5 K z x)(hz:(mayWake P a=true∧a'.status ≠ .blocked∧a'.status ≠ .waiting)∨(z→z')):J5 K z' (woken P a a' w x):=by
 obtain ⟨g0,hK,hr,ho,hg⟩:=h
 refine ⟨g0,hK,hr,ho,?_⟩
 rcases hg with rfl | ⟨rfl,hzz⟩
 ·left
  unfold Conc.woken
  split
  ·exact again_running _ (.inl hr)
  ·rfl
 ·rcases hz with ⟨h1,h2,h3⟩ | hz
  ·left
   unfold Conc.woken
   rw [if_pos (by simp [h1,h2,h3])]
   obtain ⟨f,c,st,d,o⟩:=g0
   simp only at hr ho
   subst hr ho
   rfl
  ·unfold Conc.woken
   split
   ·left
    obtain ⟨f,c,st,d,o⟩:=g0
    simp only at hr ho
    subst hr ho
    rfl
   ·right; exact ⟨rfl,hz hzz⟩
theorem Dq.run{P:Program}{K:Goroutine→Prop}(hK:∀ g,K g→g.status = .running):∀ {q:Nat} {g:Goroutine},Dq P K q g→g.status = .running
 | 0,_,h=>hK _ h
 | _+1,_,h=>h.elim (hK _) (·.1)
section
variable {F:Fx} {Q:Nat} {T0:Mp} {D:Nat→Ab} {m:Nat→Ms} {js:Nat→Nat} {s s':Sh} {th:Nat→Option Th} {mu:Nat→Bool} {dd:Nat→Nat} {gs:Array Goroutine} {w:World} {t:Trace} {sl:Option (Nat × Nat)} {i:Nat} {g:Goroutine}
theorem KW.run{n k j:Nat}{T:Lp}{R:az}{H:ah}(h:KW F n k j T R H g)(hn:0 < n)(ho:rF F.N T):g.status = .running∧g.offers=none:=by
 cases n with
 | zero=>omega
 | succ n=>have:=h ho; exact ⟨this.1,this.2.1⟩
theorem KM.run{n:Nat}{T:Mp}{R:az}{H:ah}(h:KM F n T R H g)(hn:0 < n):g.status = .running∧g.offers=none:=by
 cases n with
 | zero=>omega
 | succ n=>exact ⟨h.1,h.2.1⟩
theorem qW.look{μ:Nat}{mm:Ms}{x:Option Th}{b:Bool}{d:Nat}{A:Ab}(h:qW F μ s i mm x b d g A)(hμ:0 < μ)(hT:∀ k j T,A = .wk k j T→rF F.N T) :
  (g.status = .running)∨(g.status = .finished∧A = .no)∨(g.status = .blocked∧mm=none∧((∃ k j c,A = .wk k j (.s1 c)∧s.ms=0)∨(A = .mn .w3∧s.ws=0))):=by
 cases A with
 | no =>
  obtain ⟨_,_,q,_,hq⟩:=h
  rcases hq.status with x | x
  ·exact .inl x
  ·exact .inr (.inl ⟨x,rfl⟩)
 | wk k j T =>
  obtain ⟨_,_,_,y,n,_,hn,h⟩:=h
  have ho:=hT k j T rfl
  split at h
  ·obtain ⟨q,_,hq⟩:=h
   exact .inl (hq.run λ g hg=>(hg.run (by omega) ho).1)
  ·rcases h with ⟨Tr,_,h⟩ | ⟨rfl,⟨c,rfl⟩,g0,hK,hr,_,hg⟩
   ·exact .inl (h.FR λ R H g hg=>(KW.run hg (by omega) ho).1)
   ·rcases hg with rfl | ⟨rfl,hz⟩
    ·exact .inl hr
    ·exact .inr (.inr ⟨rfl,rfl,.inl ⟨k,j,c,rfl,hz⟩⟩)
 | mn T =>
  obtain ⟨_,_,_,y,n,_,hn,h⟩:=h
  rcases h with ⟨Tr,_,h⟩ | ⟨rfl,rfl,g0,hK,hr,_,hg⟩
  ·exact .inl (h.FR λ R H g hg=>(KM.run hg (by omega)).1)
  ·rcases hg with rfl | ⟨rfl,hz⟩
   ·exact .inl hr
   ·exact .inr (.inr ⟨rfl,rfl,.inr ⟨rfl,hz⟩⟩)
theorem qW.woken{μ OJ:Nat}{mm:Ms}{x:Option Th}{b:Bool}{d:Nat}{A:Ab}{a a':Goroutine}{w':World}(h:qW F μ s i mm x b d g A)(hμ:0 < μ)(hT:∀ k j T,A = .wk k j T→rF F.N T)(hle:OJ≤μ)
  (hz:(mayWake F.P a=true∧a'.status ≠ .blocked∧a'.status ≠ .waiting)∨(s'.ms≤s.ms∧s'.ws≤s.ws)):qW F OJ s' i mm x b d (Conc.woken F.P a a' w' g) A:=by
 have run:g.status = .running→Conc.woken F.P a a' w' g=g:=λ hr=>by
  unfold Conc.woken
  split
  ·exact again_running _ (.inl hr)
  ·rfl
 cases A with
 | no =>
  obtain ⟨h1,h2,q,h3,hq⟩:=h
  exact ⟨h1,h2,q,h3,by rw [woken_quitsD hq]; exact hq⟩
 | wk k j T =>
  obtain ⟨h1,h2,h3,y,n,h4,hn,h⟩:=h
  have ho:=hT k j T rfl
  refine ⟨h1,h2,h3,y,n,h4,by omega,?_⟩
  split
  ·rename_i hm
   rw [if_pos hm] at h
   obtain ⟨q,h5,hq⟩:=h
   exact ⟨q,h5,by rw [run (hq.run λ g hg=>(hg.run (by omega) ho).1)]; exact hq⟩
  ·rename_i hm
   rw [if_neg hm] at h
   rcases h with ⟨Tr,h5,h⟩ | ⟨h5,h6,hS⟩
   ·exact .inl ⟨Tr,h5,by rw [run (h.FR λ R H g hg=>(KW.run hg (by omega) ho).1)]; exact h⟩
   ·exact .inr ⟨h5,h6,hS.woken (hz.imp id λ z h0=>by omega)⟩
 | mn T =>
  obtain ⟨h1,h2,h3,y,n,h4,hn,h⟩:=h
  refine ⟨h1,h2,h3,y,n,h4,by omega,?_⟩
  rcases h with ⟨Tr,h5,h⟩ | ⟨h5,h6,hS⟩
  ·exact .inl ⟨Tr,h5,by rw [run (h.FR λ R H g hg=>(KM.run hg (by omega)).1)]; exact h⟩
  ·exact .inr ⟨h5,h6,hS.woken (hz.imp id λ z h0=>by omega)⟩
theorem MI.at(h:MI F Q T0 D m js s th mu dd gs w t)(d:Nat):MI F Q T0 D m js s th mu dd gs (w.at d) t:=⟨h.mem.at d,h.tr,h.yG,h.out,h.bk⟩
theorem MI.nK(h:MI F Q T0 D m js s th mu dd gs w t)(i:Nat):∀ k j T,D i = .wk k j T→rF F.N T:=λ k j T hd=>(h.bk.nK i k j T hd).1
theorem MI.uK(h:MI F Q T0 D m js s th mu dd gs w t)(hi:gs[i]? = some g){x:Ab}{m':Ms}{ju:Mp}{ja:Nat→Nat}{jY:Nat→Option Th}{mu':Nat→Bool}{dd':Nat→Nat}{g':Goroutine}{w':World}{t':Trace}
  (hz:(mayWake F.P g=true∧g'.status ≠ .blocked∧g'.status ≠ .waiting)∨(s'.ms≤s.ms∧s'.ws≤s.ws))
  (hM:MM F Q (cL D i x) s' gs.size≤MM F Q D s gs.size) (hm:fO F.B jY (hF F s' ja (cnt (cL D i x) gs.size).hl) w') (ht:dg (some (am F)) (some (aw F)) jY mu' dd' [F.bm,F.bw] (rj F (cnt (cL D i x) gs.size).hl) w'.heap.size t')
  (hs:qW F (MM F Q (cL D i x) s' gs.size) s' i m' (jY i) (mu' i) (dd' i) g' x) (ho:∀ j,j≠i→jY j=th j∧mu' j=mu j∧dd' j=dd j) (hb:Bk F Q ju (cL D i x) ja s' gs.size) :
  MI F Q ju (cL D i x) (m8 m i m') ja s' jY mu' dd' ((gs.map (Conc.woken F.P g g' w')).setIfInBounds i g') w' t':=by
 have bS:=EP hi
 have gm:((gs.map (Conc.woken F.P g g' w')).setIfInBounds i g').size=gs.size:=by simp
 refine ⟨by rw [gm]; exact hm,by rw [gm]; exact ht,λ j y hj=>?_,λ j hj=>?_,by rw [gm]; exact hb⟩
 ·rw [gm]
  by_cases gR:j=i
  ·subst gR
   rw [u6 (by simpa using bS)] at hj; cases hj
   rw [j0,N9]; exact hs
  ·rw [nk (Ne.symm gR),Array.getElem?_map] at hj
   obtain ⟨z,hzz,rfl⟩:=Option.map_eq_some_iff.1 hj
   obtain ⟨e1,e2,e3⟩:=ho j gR
   rw [fV gR,Jj gR,e1,e2,e3]
   exact (h.yG j z hzz).woken h.bk.uq (h.nK j) hM hz
 ·rw [gm] at hj
  obtain ⟨e1,e2,e3⟩:=ho j (by omega)
  rw [e1,e2,e3]; exact h.out j hj
theorem aQQ{D:Nat→Ab}{i:Nat}{x:Ab}(h:D i=x):cL D i x=D:=by
 funext j; unfold cL; split
 ·rename_i e; subst e; exact h.symm
 ·rfl
theorem MI.still(h:MI F Q T0 D m js s th mu dd gs w t)(hi:gs[i]? = some g){m':Ms}{jY:Nat→Option Th}{dd':Nat→Nat}{g':Goroutine}{w':World}{t':Trace}(hm:fO F.B jY (hF F s js (cnt D gs.size).hl) w')(ht:dg (some (am F)) (some (aw F)) jY mu dd' [F.bm,F.bw] (rj F (cnt D gs.size).hl) w'.heap.size t')
  (hs:qW F (MM F Q D s gs.size) s i m' (jY i) (mu i) (dd' i) g' (D i)) (ho:∀ j,j≠i→jY j=th j∧dd' j=dd j) :
  MI F Q T0 D (m8 m i m') js s jY mu dd' ((gs.map (Conc.woken F.P g g' w')).setIfInBounds i g') w' t':=by
 have e:=aQQ (D:=D) (i:=i) rfl
 have:=h.uK (x:=D i) (m':=m') (ju:=T0) (ja:=js) (s':=s) (jY:=jY) (mu':=mu) (dd':=dd') (g':=g') (w':=w') (t':=t') hi (.inr ⟨dD _,dD _⟩) (by rw [e]; exact dD _) (by rw [e]; exact hm) (by rw [e]; exact ht) (by rw [e]; exact hs) (λ j hj=>⟨(ho j hj).1,rfl,(ho j hj).2⟩) (by rw [e]; exact h.bk)
 rwa [e] at this
end
theorem af7{t u:Trace}{g:Nat}:∀ {r:Nat},r≤u.size→(t++u).deaf g (t.size+r)=(u.toList.take r).foldl (deafStep g) (Deaf t g)
 | 0,_=>by simp only [Nat.add_zero,List.take_zero,List.foldl_nil]; exact deaf_old (dD _)
 | r+1,h=>by
  have ih:=af7 (t:=t) (u:=u) (g:=g) (r:=r) (by omega)
  have hr:r < u.size:=by omega
  have hu:(t++u)[t.size+r]? = some u[r]:=by
   rw [Array.getElem?_append_right (by omega),Nat.add_sub_cancel_left,qT hr]
  rw [← Nat.add_assoc,deaf_succ hu,ih]
  have:u.toList.take (r+1)=u.toList.take r++[u[r]]:=by
   rw [List.take_add_one]
   simp [hr]
  rw [this,List.foldl_append]
  rfl
theorem af8{g:Nat}:∀ {l:List MemOp} {d:Nat},(∀ op∈l,op.act ≠ .mark .enable)→d≤l.foldl (deafStep g) d
 | [],_,_=>dD _
 | y::l,d,h=>by
  have h1:d≤deafStep g d y:=by
   unfold deafStep
   split
   ·split <;> omega
   ·rename_i e; exact absurd e (h y (by simp))
   ·exact dD _
  exact Nat.le_trans h1 (af8 λ op au=>h op (List.mem_cons_of_mem _ au))
section
variable {F:Fx} {th:Nat→Option Th} {mu:Nat→Bool} {dd:Nat→Nat} {s:Sh} {js:Nat→Nat} {hl i:Nat} {w:World} {t:Trace} {fn:FuncId} {pos:String} {es:Array Event} {R:az} {H:ah}
theorem ajl(h:fO F.B th (hF F s js hl) w):F.bm < w.heap.size:=l9 (h.oH _ _ (Bv F s js hl))
theorem RQ(h:fO F.B th (hF F s js hl) w):F.bw < w.heap.size:=l9 (h.oH _ _ (Bw F s js hl))
theorem ap1(_:fO F.B th (hF F s js hl) w)(he:qV F es):∀ op∈MemOp.ofEvents i fn pos es,op.g=i∧(op.act = .mark .disable∨op.act = .mark .enable∨∃ a wr,op.act = .access ⟨.cell a,wr,true⟩∧(a.block=F.bm∨a.block=F.bw)):=by
 intro op au
 obtain ⟨e,oN,rfl⟩:=CD au
 refine ⟨rfl,?_⟩
 rcases he with he | ⟨a,ha,rfl⟩
 ·obtain ⟨a,wr,rfl,ha⟩:=he e oN
  exact .inr (.inr ⟨a,wr,by cases wr <;> rfl,ha⟩)
 ·simp only [semEvents,List.mem_toArray,fR,List.not_mem_nil,or_false] at oN
  rcases oN with rfl | rfl | rfl | rfl
  ·exact .inl rfl
  ·exact .inr (.inr ⟨a,false,rfl,ha⟩)
  ·exact .inr (.inr ⟨a,true,rfl,ha⟩)
  ·exact .inr (.inl rfl)
theorem ap0(he:qV F es)(d:Nat):deafBehind d es=d:=by
 rcases he with he | ⟨a,_,rfl⟩
 ·obtain ⟨l⟩:=es
  unfold deafBehind
  simp only [List.foldl_toArray']
  induction l with
  | nil=>rfl
  | cons e l ih =>
   obtain ⟨a,wr,rfl,_⟩:=he e (by simp)
   exact ih λ e' QC=>he e' (by simp at QC ⊢; exact .inr QC)
 ·simp [deafBehind,semEvents]
theorem dg.Vk(hM:fO F.B th (hF F s js hl) w)(h:dg (some (am F)) (some (aw F)) th mu dd [F.bm,F.bw] (rj F hl) w.heap.size t)(hi:th i=some ⟨R,H⟩)(he:qV F es)(hc:mu i=false∨1≤dd i) :
  dg (some (am F)) (some (aw F)) th mu dd [F.bm,F.bw] (rj F hl) w.heap.size (t++MemOp.ofEvents i fn pos es):=by
 have HF:=ap1 (i:=i) (fn:=fn) (pos:=pos) hM he
 have:=dg.app (u:=MemOp.ofEvents i fn pos es) (n':=w.heap.size) (R':=R) (H':=H) (d':=dd i) hM rfl (Kw F s js hl) (Kv F s js hl) h hi (λ op au=>(HF op au).1) (λ op au a ha=>?_) (λ op au=>?_) (λ op au a=>?_) (by rw [Deaf_own,h.deaf i,ap0 he]) ?_ (dD _) (λ _ _ x=>.inl x) (λ _ o x=>.inl ⟨o,x⟩)
 ·rwa [FU hi,m9] at this
 ·rcases (HF op au).2 with e | e | ⟨a',wr,e,hb⟩ <;> rw [e] at ha
  ·cases ha
  ·cases ha
  ·simp only [MemAct.touch?,jl] at ha
   subst ha
   exact .inr ⟨a'.block,rfl,by rcases hb with hb | hb <;> simp [hb],.inl rfl⟩
 ·rcases (HF op au).2 with e | e | ⟨a',wr,e,hb⟩ <;> rw [e]
  ·trivial
  ·trivial
  ·show a'.block < _
   rcases hb with hb | hb <;> rw [hb]
   ·exact ajl hM
   ·exact RQ hM
 ·rcases (HF op au).2 with e | e | ⟨a',wr,e,hb⟩ <;> rw [e] <;> intro x <;> cases x
 ·refine hc.imp id λ hd k a hk LQ fw=>?_
  rcases fw with fw | ⟨g,hg,hz⟩
  ·obtain ⟨op,h1,h2⟩:=touch_of LQ
   rcases getElem?_append_cases h1 with ⟨bS,_⟩ | ⟨_,h3⟩
   ·omega
   ·rcases (HF op h3).2 with e | e | ⟨a',wr,e,hb⟩ <;> rw [e] at h2
    ·cases h2
    ·cases h2
    ·simp only [MemAct.touch?,jl] at h2
     subst h2; exact fw rfl
  ·obtain ⟨op,h1,h2⟩:=touch_of LQ
   have bS:=lt_size_of_getElem? h1
   rw [Array.size_append] at bS
   have XX:g=i:=by
    rcases getElem?_append_cases h1 with ⟨bS,_⟩ | ⟨_,h3⟩
    ·omega
    ·rw [Trace.g?,h1] at hg
     simp only [Option.map_some,jl] at hg
     rw [← hg]; exact (HF op h3).1
   subst XX
   obtain ⟨r,rfl⟩:∃ r,k=t.size+r:=⟨k - t.size,by omega⟩
   rw [af7 (by omega),h.deaf g] at hz
   have hup:dd g≤((MemOp.ofEvents g fn pos es).toList.take r).foldl (deafStep g) (dd g):=by
    refine af8 λ op' YK=>?_
    rcases he with he | ⟨a',ha',rfl⟩
    ·have hm:op'∈MemOp.ofEvents g fn pos es:=by simpa using List.mem_of_mem_take YK
     obtain ⟨e,oN,rfl⟩:=CD hm
     obtain ⟨a',wr,rfl,_⟩:=he e oN
     cases wr <;> (intro x; cases x)
    ·have hr:r≤3:=by simp [MemOp.ofEvents,semEvents] at bS; omega
     have e4:(MemOp.ofEvents g fn pos (semEvents a')).toList=[⟨g,fn,pos,.mark .disable⟩,⟨g,fn,pos,.access ⟨.cell a',false,true⟩⟩,⟨g,fn,pos,.access ⟨.cell a',true,true⟩⟩,⟨g,fn,pos,.mark .enable⟩]:=by simp [MemOp.ofEvents,semEvents,MemAct.ofEvent]
     rw [e4] at YK
     have h3:op'∈[(⟨g,fn,pos,.mark .disable⟩:MemOp),⟨g,fn,pos,.access ⟨.cell a',false,true⟩⟩,⟨g,fn,pos,.access ⟨.cell a',true,true⟩⟩]:=by
      have:([(⟨g,fn,pos,.mark .disable⟩:MemOp),⟨g,fn,pos,.access ⟨.cell a',false,true⟩⟩,⟨g,fn,pos,.access ⟨.cell a',true,true⟩⟩,⟨g,fn,pos,.mark .enable⟩]).take r <+: ([(⟨g,fn,pos,.mark .disable⟩:MemOp),⟨g,fn,pos,.access ⟨.cell a',false,true⟩⟩,⟨g,fn,pos,.access ⟨.cell a',true,true⟩⟩,⟨g,fn,pos,.mark .enable⟩]).take 3:=List.take_prefix_take_left hr
      exact this.subset YK
     simp only [fR,List.not_mem_nil,or_false] at h3
     rcases h3 with rfl | rfl | rfl <;> (intro x; cases x)
   omega
theorem dg.word{m:Mark}{am' aw':Option Addr}{sh:List Nat}{fr:Option Nat}{n:Nat}(h:dg am' aw' th mu dd sh fr n t)(hm:m = .disable∨m = .enable) :
  dg am' aw' th mu (gJ dd i (deafBehind (dd i) (said m))) sh fr n (t++MemOp.ofEvents i fn pos (said m)):=by
 refine h.leaves λ e he=>?_
 simp only [said,List.mem_toArray,fR,List.not_mem_nil,or_false] at he
 subst he
 rcases hm with rfl | rfl <;> rfl
end
theorem PN(c:Lc):pz (hd c)=1:=by unfold hd; split <;> rfl
theorem aq8(c:Lc):pz (jN c)=1:=by unfold jN; split <;> rfl
theorem aga(m:Wd):pz (hu m)=1:=by unfold hu; split <;> rfl
theorem Sj(c:Lc):kG (hd c)=false:=by unfold hd; split <;> rfl
theorem aNN(c:Lc):kG (jN c)=false:=by unfold jN; split <;> rfl
theorem akb(m:Wd):kG (hu m)=false:=by unfold hu; split <;> rfl
inductive OK (F:Fx):Lp→Lp→Array Event→Prop
 | at {T T' es}:qV F es→pz T'=pz T→kG T'=kG T→OK F T T' es
 | Bx {T T'}:pz T=0→pz T'=1→kG T'=kG T→OK F T T' (said .disable)
 | en {T T'}:pz T=1→pz T'=0→kG T'=kG T→OK F T T' (said .enable)
theorem XN{c:Lc}{T:Lp}(h1:∀ c,T ≠ .sq c)(h2:∀ c,T ≠ .c2 c):hd c≠T:=by unfold hd; split <;> exact λ e=>by subst e; first | exact h1 _ rfl | exact h2 _ rfl
theorem acM{c:Lc}{T:Lp}(h1:∀ c,T ≠ .c1 c)(h2:∀ c,T ≠ .r1 c):jN c≠T:=by unfold jN; split <;> exact λ e=>by subst e; first | exact h1 _ rfl | exact h2 _ rfl
theorem aaj{m:Wd}{T:Lp}(h1:T ≠ .ue)(h2:∀ c,T ≠ .uc c):hu m≠T:=by unfold hu; split <;> exact λ e=>by subst e; first | exact h1 rfl | exact h2 _ rfl
theorem dF.inv{s s':Sh}{T T':Lp}(h:dF T s T' s'):(∀ js,T' = .ul js→T = .la)∧(T' = .ud→ia T=true)∧(T' = .quit→T = .d1∨T = .d4):=by
 have k1:∀ c,(∀ js,hd c = .ul js→T = .la)∧(hd c = .ud→ia T=true)∧(hd c = .quit→T = .d1∨T = .d4):=λ c=>⟨λ js e=>absurd e (XN (by simp) (by simp)),λ e=>absurd e (XN (by simp) (by simp)),λ e=>absurd e (XN (by simp) (by simp))⟩
 have k2:∀ c,(∀ js,jN c = .ul js→T = .la)∧(jN c = .ud→ia T=true)∧(jN c = .quit→T = .d1∨T = .d4):=λ c=>⟨λ js e=>absurd e (acM (by simp) (by simp)),λ e=>absurd e (acM (by simp) (by simp)),λ e=>absurd e (acM (by simp) (by simp))⟩
 have k3:∀ c,(∀ js,hu c = .ul js→T = .la)∧(hu c = .ud→ia T=true)∧(hu c = .quit→T = .d1∨T = .d4):=λ c=>⟨λ js e=>absurd e (aaj (by simp) (by simp)),λ e=>absurd e (aaj (by simp) (by simp)),λ e=>absurd e (aaj (by simp) (by simp))⟩
 cases h
 case r0=>exact k1 _
 case r1=>exact k1 _
 case r3=>exact k1 _
 case An=>exact k1 _
 case AA=>exact k2 _
 case AB=>exact k3 _
 case ux=>exact k3 _
 case zd c _ _=>cases c.ws <;> simp
 case s1 c _ _=>cases c.sv <;> simp
 all_goals simp [ia]
theorem NM(i:Nat)(fn:FuncId)(pos:String)(m:Mark):MemOp.ofEvents i fn pos (said m)=#[⟨i,fn,pos,.mark m⟩]:=by simp [MemOp.ofEvents,said,MemAct.ofEvent]
section
variable {F:Fx} {Q:Nat} {T0:Mp} {D:Nat→Ab} {m:Nat→Ms} {js:Nat→Nat} {s s':Sh} {th:Nat→Option Th} {mu:Nat→Bool} {dd:Nat→Nat} {gs:Array Goroutine} {w w':World} {t:Trace} {sl:Option (Nat × Nat)} {i k j:Nat} {g g':Goroutine} {T T':Lp}
theorem dF.adn(h:dF T s T' s'):(T = .us∨T = .d4)∨(s'.ms≤s.ms∧s'.ws≤s.ws):=by
 cases h
 case us=>exact .inl (.inl rfl)
 case d4=>exact .inl (.inr rfl)
 case s1 c m h=>exact .inr ⟨by simp only; omega,dD _⟩
 all_goals exact .inr ⟨dD _,dD _⟩
theorem gP.adn{T T':Mp}(h:gP T s T' s'):s'.ms≤s.ms∧s'.ws≤s.ws:=by
 cases h
 case w3 m h=>exact ⟨dD _,by simp only; omega⟩
 all_goals exact ⟨dD _,dD _⟩
theorem evK(dL:dF T s T' s'){es:Array Event}(he:Hc F T es)(h1:T ≠ .la)(h2:ia T=false)(h3:T ≠ .wr)(hq:T' ≠ .quit):OK F T T' es:=by
 cases dL
 case ld=>rw [show es=said .disable from he]; exact .Bx rfl rfl rfl
 case ud=>rw [show es=said .disable from he]; exact .Bx rfl rfl rfl
 case le=>rw [show es=said .enable from he]; exact .en rfl rfl rfl
 case Tc=>rw [show es=said .enable from he]; exact .en rfl rfl rfl
 case Td=>rw [show es=said .enable from he]; exact .en rfl rfl rfl
 case wk=>rw [show es=said .disable from he]; exact .Bx rfl rfl rfl
 case la=>exact absurd rfl h1
 case ur=>cases h2
 case wr=>exact absurd rfl h3
 case Kz=>exact absurd rfl hq
 case d4=>exact absurd rfl hq
 case r0=>exact .at he (PN _) (Sj _)
 case r1=>exact .at he (PN _) (Sj _)
 case r3=>exact .at he (PN _) (Sj _)
 case An=>exact .at he (PN _) (Sj _)
 case AA=>exact .at he (aq8 _) (aNN _)
 case zd c _ _=>exact .at he (by cases c.ws <;> rfl) (by cases c.ws <;> rfl)
 case s1 c _ _=>exact .at he (by cases c.sv <;> rfl) (by cases c.sv <;> rfl)
 case AB=>exact .at he (aga _) (akb _)
 case ux=>exact .at he (aga _) (akb _)
 all_goals exact .at he rfl rfl
theorem aNR{K:Nat→Lp→az→ah→Goroutine→Prop}{R:az}{H:ah}(dL:dF T s T' s')(h1:T ≠ .la)(h2:ia T=false)(hq:T' ≠ .quit)(h:y8 F K k j T T' R H g') :
  if kG T' then ∃ q,Dq F.P (K j T' R H) q g' else Own F.P F.B false (K j T') R H g':=by
 cases hT:T' with
 | quit=>exact absurd hT hq
 | ul js=>exact absurd (dL.inv.1 js hT) h1
 | ud=>rw [dL.inv.2.1 hT] at h2; cases h2
 | _=>subst hT; exact h
theorem aq1(h:MI F Q T0 D m js s th mu dd gs w t)(hi:gs[i]? = some g)(hd:D i = .wk k j T):0 < i∧dd i=pz T∧mu i=kG T:=by
 have:=h.yG i g hi
 rw [hd] at this
 exact ⟨this.1,this.2.1,this.2.2.1⟩
theorem MI.work(h:MI F Q T0 D m js s th mu dd gs w t)(hi:gs[i]? = some g)(hd:D i = .wk k j T){y:Th}(hy:th i=some y){n:Nat}(hn:MM F Q D s gs.size≤n)(hK:KW F n k j T y.R y.H g) :
  ((∃ c,T = .s1 c)∧s.ms=0∧stepG F.P false g w = .go { g with status:=.blocked } w #[]) ∨
  ∃ iW w' ops D' m' ja s' jY mu' dd',(∀ sl,runT F.P (crowd gs w sl) i=(.next (crowd iW w' sl),ops))∧iW.size=gs.size∧MI F Q T0 D' m' ja s' jY mu' dd' iW w' (t++ops)∧MM F Q D' s' iW.size < MM F Q D s gs.size:=by
 have bS:=EP hi
 obtain ⟨gS,jF,dJ⟩:=aq1 h hi hd
 have vz:(i == 0)=false:=by simp; omega
 obtain ⟨ot,oj,oh,ok,on⟩:=h.bk.nK i k j T hd
 have hle:=G3 (D:=D) bS
 rw [hd] at hle
 have hMp:=h.bk.uq
 obtain ⟨n',rfl⟩:∃ n',n=n'+1:=⟨n - 1,by omega⟩
 obtain ⟨kV,a2D,aAl,dc⟩:=hK ot
 obtain ⟨R,H⟩:=y
 rcases dc w s (h.mem.fits i _ hy) (UJ h.mem) (h.bk.tG.Fz hle) (h.bk.aig.okW hle) with hb | ⟨g',w',es,T',s',dL,B4,ko,dc,nE,QM⟩
 ·exact .inl hb
 right
 have hr:∀ sl,runT F.P (crowd gs w sl) i=(.next (crowd ((gs.map (Conc.woken F.P g g' w')).setIfInBounds i g') w' sl),MemOp.ofEvents i g.frame.fn g.frame.place es):=λ sl=>runT_crowd_go hi (by rw [vz]; exact dc)
 have gm:((gs.map (Conc.woken F.P g g' w')).setIfInBounds i g').size=gs.size:=by simp
 have hbm:=ajl h.mem
 have hbw:=RQ h.mem
 have wk:(g'.status = .running∨g'.status = .finished)→(mayWake F.P g=true∧g'.status ≠ .blocked∧g'.status ≠ .waiting)∨(s'.ms≤s.ms∧s'.ws≤s.ws):=λ hs=>by
  rcases dL.adn with hx | hx
  ·exact .inl ⟨aAl hx,by rcases hs with e | e <;> rw [e] <;> simp,by rcases hs with e | e <;> rw [e] <;> simp⟩
  ·exact .inr hx
 have other:∀ (x1:Option Th) (x2:Bool) (x3:Nat),∀ j,j≠i→gy th i x1 j=th j∧pe mu i x2 j=mu j∧gJ dd i x3 j=dd j:=λ x1 x2 x3 j hj=>⟨eQ hj,ac2 hj,uM hj⟩
 have Sk:pe mu i (mu i)=mu:=by funext j; unfold pe; split <;> simp [*]
 by_cases hq:T' = .quit
 ·
  subst hq
  obtain ⟨q,hq⟩:=QM
  have BI:(T = .d1∨T = .d4):=dL.inv.2.2 rfl
  have hjJ:j=F.J:=by rcases BI with rfl | rfl <;> exact oj
  have aAn:mu i=true:=by rw [dJ]; rcases BI with rfl | rfl <;> rfl
  have XM:dd i=1:=by rw [jF]; rcases BI with rfl | rfl <;> rfl
  have kl:qV F es:=by rcases BI with rfl | rfl <;> exact ko
  obtain ⟨nB,oJ⟩:=h.bk.quit hd bS dL hjJ (by rcases BI with rfl | rfl <;> rfl)
  have fw:(cnt (cL D i .no) gs.size).hl=(cnt D gs.size).hl:=by
   have:=(xq (D:=D) bS .no).hl
   rw [hd] at this
   rcases BI with rfl | rfl <;> simpa [cA,cW,Cn.busy,Cn.zero] using this
  have nF:=(dg.Vk (fn:=g.frame.fn) (pos:=g.frame.place) h.mem h.tr hy kl (.inr (by omega))).die aAn
  rw [← nE.size] at nF
  refine ⟨_,_,_,_,m8 m i (some (sX q)),js,s',gy th i none,pe mu i (mu i),gJ dd i (dd i),hr,gm,h.uK hi (wk hq.status) (Nat.le_of_lt oJ) (by rw [fw]; exact fO.drop (h.mem.put nE)) (by rw [fw,Sk,m9]; exact nF) ?_ (other _ _ _) nB,by rw [gm]; exact oJ⟩
  rw [fM,uN,XM]
  exact ⟨rfl,gS,q,rfl,hq⟩
 by_cases LS:T = .la
 ·
  subst LS
  cases dL
  obtain ⟨T2,vw⟩:=QM js ok
  obtain ⟨nB,oJ⟩:=h.bk.work (T':=.ul js) hd bS .la trivial rfl rfl (by simp)
  have QL:=nB.uq
  have zu:MM F Q (cL D i (.wk k j (.ul js))) s gs.size≤n':=by omega
  have QK:(cnt D gs.size).hl=0:=by
   have:=h.bk.tG.ow; have:=h.bk.tG.l1
   have:=hle.ow
   simp only [cA,cW,Cn.busy,Cn.zero] at this
   omega
  have vA:(cnt (cL D i (.wk k j (.ul js))) gs.size).hl=1:=by
   have:=(xq (D:=D) bS (.wk k j (.ul js))).hl
   rw [hd] at this
   simp only [cA,cW,Cn.busy,Cn.zero] at this
   omega
  have e1:es=said (.acquire (am F)):=ko
  subst e1
  have hm:=h.mem
  have ht:=h.tr
  rw [QK] at hm ht
  have rp:dd i=0:=by rw [jF]; rfl
  have nF:=dg.acquire (b:=F.bo) (o:=F.cont js) (y:=⟨i,g.frame.fn,g.frame.place,.mark (.acquire (am F))⟩) ht hy rfl rfl rp hbm
  rw [← nE.size,← NM] at nF
  refine ⟨_,_,_,_,m8 m i (some T2),js,s,gy th i (some ⟨R,(F.bo,F.cont js)::H⟩),pe mu i (mu i),gJ dd i 0,hr,gm,h.uK hi (wk (.inl (vw.FR λ R H g hg=>(KW.run hg (by omega) trivial).1))) (Nat.le_of_lt oJ) (by rw [vA]; exact fO.take (hm.put nE) hy (by omega)) (by rw [vA,Sk,show gJ dd i 0=dd by rw [← rp]; exact m9 _ _]; exact nF) ?_ (other _ _ _) nB,by rw [gm]; exact oJ⟩
  rw [fM,uN,Te,dJ]
  exact ⟨gS,rfl,rfl,_,n',rfl,zu,.inl ⟨T2,rfl,vw⟩⟩
 by_cases hur:ia T=true
 ·
  cases T with
  | ur js0 =>
   have hjj:js0=js:=oh
   subst hjj
   cases dL
   obtain ⟨js1,H',e1,e2,T2,vw⟩:=QM
   cases e1
   subst e2
   obtain ⟨nB,oJ⟩:=h.bk.ur hd bS
   have QL:=nB.uq
   have zu:MM F Q (cL D i (.wk k (j+1) .ud)) s gs.size≤n':=by omega
   have vA:(cnt D gs.size).hl≠0:=by
    have:=hle.hl
    simp only [cA,cW,Cn.busy,Cn.zero] at this
    omega
   have QK:(cnt (cL D i (.wk k (j+1) .ud)) gs.size).hl=0:=by
    have:=(xq (D:=D) bS (.wk k (j+1) .ud)).hl
    rw [hd] at this
    simp only [cA,cW,Cn.busy,Cn.zero] at this
    have:=h.bk.tG.ow; have:=h.bk.tG.l1
    omega
   have e1:es=said (.releaseMerge (am F)):=ko
   subst e1
   have rp:dd i=0:=by rw [jF]; rfl
   have ht:=h.tr
   rw [show rj F (cnt D gs.size).hl=none by simp [rj,vA]] at ht
   have nF:=dg.release (H':=H') (y:=⟨i,g.frame.fn,g.frame.place,.mark (.releaseMerge (am F))⟩) ht hy (List.mem_cons_self) (λ x hx=>List.mem_cons_of_mem _ hx) rfl rfl rp hbm
   rw [← nE.size,← NM] at nF
   refine ⟨_,_,_,_,m8 m i (some T2),gJ js0 k (j+1),s,gy th i (some ⟨R,H'⟩),pe mu i (mu i),gJ dd i 0,hr,gm,h.uK hi (wk (.inl (vw.FR λ R H g hg=>(KW.run hg (by omega) trivial).1))) (Nat.le_of_lt oJ) (by rw [QK]; exact fO.auW (h.mem.put nE) vA hy) (by rw [QK,Sk,show gJ dd i 0=dd by rw [← rp]; exact m9 _ _]; exact nF) ?_ (other _ _ _) nB,by rw [gm]; exact oJ⟩
   rw [fM,uN,Te,dJ]
   exact ⟨gS,rfl,rfl,_,n',rfl,zu,.inl ⟨T2,rfl,vw⟩⟩
  | _=>cases hur
 have Ro:ia T=false:=by simpa using hur
 have Ew:CJ js T':=by
  cases dL
  case la=>exact absurd rfl LS
  case ul=>exact oh
  case r0=>exact Sr _
  case r1=>exact Sr _
  case r3=>exact Sr _
  case An=>exact Sr _
  case AA=>exact aNZ _
  case zd c _ _=>cases c.ws <;> trivial
  case s1 c _ _=>cases c.sv <;> trivial
  case AB=>exact akl _
  case ux=>exact akl _
  all_goals trivial
 obtain ⟨nB,oJ⟩:=h.bk.work hd bS dL B4 Ew Ro hq
 have QL:=nB.uq
 have zu:MM F Q (cL D i (.wk k j T')) s' gs.size≤n':=by omega
 have xE:=aNR dL LS Ro hq QM
 have oT':rF F.N T':=by
  have:=nB.nK i k j T' (j0 _ _ _)
  exact this.1
 have fw:(cnt (cL D i (.wk k j T')) gs.size).hl=(cnt D gs.size).hl:=by
  have:=(xq (D:=D) bS (.wk k j T')).hl
  rw [hd] at this
  have e:(cW T').hl=(cW T).hl:=by
   cases dL
   case la=>exact absurd rfl LS
   case ur=>cases Ro
   case r0=>rw [tK]; rfl
   case r1=>rw [tK]; rfl
   case r3=>rw [tK]; rfl
   case An=>rw [tK]; rfl
   case AA=>rw [VT]; rfl
   case zd c _ _=>cases c.ws <;> rfl
   case s1 c _ _=>cases c.sv <;> rfl
   case N0 c _=>generalize (c.sv && _)=b; cases b <;> rfl
   case a1 b=>cases b <;> rfl
   case AB=>unfold hu; split <;> rfl
   case ux=>unfold hu; split <;> rfl
   all_goals rfl
  simp only [cA] at this
  omega
 have XV:g'.status = .running:=by
  cases hm:kG T' with
  | true =>
   simp only [hm,if_true] at xE
   obtain ⟨q,hq⟩:=xE
   exact hq.run λ g hg=>(hg.run (by omega) oT').1
  | false =>
   simp only [hm,oA,if_false] at xE
   obtain ⟨T2,vw⟩:=xE
   exact vw.FR λ R H g hg=>(KW.run hg (by omega) oT').1
 obtain ⟨m',Y0⟩:∃ m',qW F (MM F Q (cL D i (.wk k j T')) s' gs.size) s' i m' (some ⟨R,H⟩) (kG T') (pz T') g' (.wk k j T'):=by
  cases hm:kG T' with
  | true =>
   simp only [hm,if_true] at xE
   obtain ⟨q,hq⟩:=xE
   exact ⟨some (sX q),gS,rfl,hm.symm,_,n',rfl,zu,by rw [if_pos hm]; exact ⟨q,rfl,hq⟩⟩
  | false =>
   simp only [hm,oA,if_false] at xE
   obtain ⟨T2,vw⟩:=xE
   exact ⟨some T2,gS,rfl,hm.symm,_,n',rfl,zu,by rw [if_neg (by simp [hm])]; exact .inl ⟨T2,rfl,vw⟩⟩
 have nF:dg (some (am F)) (some (aw F)) th (pe mu i (kG T')) (gJ dd i (pz T')) [F.bm,F.bw] (rj F (cnt D gs.size).hl) w.heap.size (t++MemOp.ofEvents i g.frame.fn g.frame.place es):=by
  by_cases xQ:T = .wr
  ·subst xQ
   cases dL
   have e1:es=said (.releaseMerge (aw F)):=ko
   subst e1
   have rp:dd i=0:=by rw [jF]; rfl
   have:=dg.aRS (y:=⟨i,g.frame.fn,g.frame.place,.mark (.releaseMerge (aw F))⟩) (i:=i) h.tr rfl rfl rp hbw
   rw [show gJ dd i (pz .wk)=dd by rw [show pz .wk=dd i from rp.symm]; exact m9 _ _,NM]
   exact this
  ·have muE:kG T'=kG T→pe mu i (kG T')=mu:=λ e=>by rw [e,← dJ]; exact Sk
   cases evK dL ko LS Ro xQ hq with
   | «at» ha e1 e2 =>
    rw [muE e2,e1,← jF,m9]
    refine dg.Vk h.mem h.tr hy ha ?_
    rw [dJ,jF]
    cases dL <;> first | exact .inl rfl | exact .inr (dD _) | (cases e1)
   | Bx e1 e2 e3 =>
    have:=dg.word (i:=i) (fn:=g.frame.fn) (pos:=g.frame.place) h.tr (m:=.disable) (.inl rfl)
    rw [muE e3,e2]
    rwa [show deafBehind (dd i) (said .disable)=1 by rw [jF,e1]; rfl] at this
   | en e1 e2 e3 =>
    have:=dg.word (i:=i) (fn:=g.frame.fn) (pos:=g.frame.place) h.tr (m:=.enable) (.inr rfl)
    rw [muE e3,e2]
    rwa [show deafBehind (dd i) (said .enable)=0 by rw [jF,e1]; rfl] at this
 rw [← nE.size] at nF
 refine ⟨_,_,_,_,m8 m i m',js,s',gy th i (some ⟨R,H⟩),pe mu i (kG T'),gJ dd i (pz T'),hr,gm,h.uK hi (wk (.inl XV)) (Nat.le_of_lt oJ) (by rw [fw,FU hy]; exact h.mem.put nE) (by rw [fw,FU hy]; exact nF) (by rw [fM,Te,uN]; exact Y0) (other _ _ _) nB,by rw [gm]; exact oJ⟩
end
section
variable {F:Fx} {Q:Nat} {T0:Mp} {D:Nat→Ab} {m:Nat→Ms} {js:Nat→Nat} {s s':Sh} {th:Nat→Option Th} {mu:Nat→Bool} {dd:Nat→Nat} {gs:Array Goroutine} {w w':World} {t:Trace} {sl:Option (Nat × Nat)} {i k j:Nat} {g g':Goroutine} {R:az} {H:ah} {hl:Nat} {fn:FuncId} {pos:String}
theorem dg.aPR{mk:Mark}(hM:fO F.B th (hF F s js hl) w)(h:dg (some (am F)) (some (aw F)) th mu dd [F.bm,F.bw] (rj F hl) w.heap.size t)(hi:th 0=some ⟨R,H⟩)(hm:mk = .read (rW F)∨mk = .write (rW F))(hc:mu 0=false) :
  dg (some (am F)) (some (aw F)) th mu dd [F.bm,F.bw] (rj F hl) w.heap.size (t++MemOp.ofEvents 0 fn pos (said mk)):=by
 rw [NM]
 have hd:Deaf (t++#[⟨0,fn,pos,.mark mk⟩]) 0=dd 0:=by
  rw [Deaf_push]
  unfold deafStep
  rcases hm with rfl | rfl <;> exact h.deaf 0
 have:=dg.app (u:=#[⟨0,fn,pos,.mark mk⟩]) (n':=w.heap.size) (R':=R) (H':=H) (d':=dd 0) hM rfl (Kw F s js hl) (Kv F s js hl) h hi (λ op au=>by rw [Ad au]) (λ op au a ha=>?_) (λ op au=>?_) (λ op au a=>?_) hd (.inl hc) (dD _) (λ _ _ x=>.inl x) (λ _ o x=>.inl ⟨o,x⟩)
 ·rwa [FU hi,m9] at this
 ·rw [Ad au] at ha
  refine .inr ⟨F.bw,?_,by simp,.inr ⟨?_,rfl⟩⟩ <;> rcases hm with rfl | rfl <;> (simp only [MemAct.touch?,jl] at ha; subst ha; rfl)
 ·rw [Ad au]
  rcases hm with rfl | rfl <;> exact RQ hM
 ·rw [Ad au]
  rcases hm with rfl | rfl <;> (intro x; cases x)
theorem qW.mono{μ OJ:Nat}{mm:Ms}{x:Option Th}{b:Bool}{d:Nat}{A:Ab}(h:qW F μ s i mm x b d g A)(hle:OJ≤μ):qW F OJ s i mm x b d g A:=by
 cases A with
 | no=>exact h
 | wk k j T =>
  obtain ⟨h1,h2,h3,y,n,h4,hn,h⟩:=h
  exact ⟨h1,h2,h3,y,n,h4,by omega,h⟩
 | mn T =>
  obtain ⟨h1,h2,h3,y,n,h4,hn,h⟩:=h
  exact ⟨h1,h2,h3,y,n,h4,by omega,h⟩
inductive JO (F:Fx):Mp→Mp→Array Event→Prop
 | at {T T' es}:qV F es→qf T'=qf T→JO F T T' es
 | Bx {T T'}:qf T=0→qf T'=1→JO F T T' (said .disable)
 | en {T T'}:qf T=1→qf T'=0→JO F T T' (said .enable)
 | sd {T T' mk}:qf T'=qf T→mk = .read (rW F)∨mk = .write (rW F)→JO F T T' (said mk)
theorem evN{T T':Mp}(dL:gP T s T' s'){es:Array Event}(he:DQ F T es)(h1:T ≠ .wq):JO F T T' es:=by
 cases dL
 case ka=>rw [show es=said .disable from he]; exact .Bx rfl rfl
 case wa=>rw [show es=said .disable from he]; exact .Bx rfl rfl
 case ke=>rw [show es=said .enable from he]; exact .en rfl rfl
 case we=>rw [show es=said .enable from he]; exact .en rfl rfl
 case kd=>rw [show es=said (.read (rW F)) from he]; exact .sd rfl (.inl rfl)
 case wW=>rw [show es=said (.write (rW F)) from he]; exact .sd rfl (.inr rfl)
 case wq=>exact absurd rfl h1
 all_goals exact .at he rfl
theorem af5(h:MI F Q T0 D m js s th mu dd gs w t)(hi:gs[0]? = some g):dd 0=qf T0∧mu 0=false:=by
 have:=h.yG 0 g hi
 rw [h.bk.d0] at this
 exact ⟨this.2.1,this.2.2.1⟩
theorem KM.go_{n r:Nat}(h:KM F (n+1) (.go r) R H g):∀ w s,Fits F.B R H w→fS F s w→uy F.N (.go r) s→∃ g' child,stepG F.P true g w = .spawn g' child w #[]∧Own F.P F.B false (KW F n (F.N - (r+1)) 0 .ld) R [] child∧Own F.P F.B true (KM F n (lg r)) R H g':=h.2.2
theorem KM.wq_{n:Nat}(h:KM F (n+1) .wq R H g):∀ w s,Fits F.B R H w→fS F s w→uy F.N .wq s→∃ g' w',stepG F.P true g w = .go g' w' (said (.acquire (aw F)))∧cJ F s w w'∧∀ js,(∀ k,k < F.N→js k=F.J)→F.mj R ((F.bo,F.cont js)::H) g':=h.2.2
theorem KM.other{n:Nat}{T:Mp}(h:KM F (n+1) T R H g)(h1:∀ r,T ≠ .go r)(h2:T ≠ .wq):∀ w s,Fits F.B R H w→fS F s w→uy F.N T s→(T = .w3∧s.ws=0∧stepG F.P true g w = .go { g with status:=.blocked } w #[]) ∨
  ∃ g' w' es T' s',gP T s T' s'∧DQ F T es∧stepG F.P true g w = .go g' w' es∧cJ F s' w w'∧Own F.P F.B true (KM F n T') R H g':=by
 cases T <;> first | exact absurd rfl (h1 _) | exact absurd rfl h2 | exact h.2.2
theorem MI.main(h:MI F Q T0 D m js s th mu dd gs w t)(hi:gs[0]? = some g){y:Th}(hy:th 0=some y){n:Nat}(hn:MM F Q D s gs.size≤n)(hK:KM F n T0 y.R y.H g)(h2:T0 ≠ .wq) :
  (T0 = .w3∧s.ws=0∧stepG F.P true g w = .go { g with status:=.blocked } w #[]) ∨
  ∃ ju iW w' ops D' m' ja s' jY mu' dd',(∀ sl,runT F.P (crowd gs w sl) 0=(.next (crowd iW w' sl),ops))∧MI F Q ju D' m' ja s' jY mu' dd' iW w' (t++ops)∧MM F Q D' s' iW.size < MM F Q D s gs.size:=by
 have bS:=EP hi
 obtain ⟨jF,dJ⟩:=af5 h hi
 have hMp:=h.bk.uq
 obtain ⟨n',rfl⟩:∃ n',n=n'+1:=⟨n - 1,by omega⟩
 obtain ⟨R,H⟩:=y
 have hf:=h.mem.fits 0 _ hy
 have br:=UJ h.mem
 have jG:=h.bk.aig.uy
 by_cases h1:∃ r,T0 = .go r
 ·
  right
  obtain ⟨r,rfl⟩:=h1
  obtain ⟨g',child,dc,⟨T1,hc⟩,⟨T2,hg⟩⟩:=hK.go_ w s hf br jG
  obtain ⟨nB,oJ⟩:=h.bk.spawn
  have QL:=nB.uq
  obtain ⟨o1,o2,o3⟩:=h.out gs.size (dD _)
  have gm:((gs.setIfInBounds 0 g').push child).size=gs.size+1:=by simp
  have hh:(cnt (cL (cL D gs.size (.wk (F.N - (r+1)) 0 .ld)) 0 (.mn (lg r))) (gs.size+1)).hl=(cnt D gs.size).hl:=by
   have:=(af2 (D:=D) h.bk.pos (.mn (lg r)) (.wk (F.N - (r+1)) 0 .ld) rfl (by rw [h.bk.d0]; rfl)).hl
   simpa [cA,cW,Cn.busy,Cn.zero] using this
  have hr:∀ sl,runT F.P (crowd gs w sl) 0=(.next (crowd ((gs.setIfInBounds 0 g').push child) w sl),#[⟨0,g.frame.fn,g.frame.place,.go gs.size⟩,⟨gs.size,child.frame.fn,g.frame.place,.start⟩]):=λ sl=>by
   have:=runT_crowd_spawn (P:=F.P) (sl:=sl) hi (show stepG F.P (0 == 0) g w=_ from dc)
   rw [this]
   simp [MemOp.ofEvents]
  have rp:dd 0=0:=by rw [jF]; rfl
  have nF:=h.tr.spawn (c:=gs.size) (x:=⟨0,g.frame.fn,g.frame.place,.go gs.size⟩) (y:=⟨gs.size,child.frame.fn,g.frame.place,.start⟩) hy (aR.refl R) o1 ⟨rfl,rfl⟩ ⟨rfl,rfl⟩ rp o3 (by omega) o2
  have nD:=h.mem.add (c:=gs.size) hy (aR.refl R)
  refine ⟨lg r,_,w,_,_,m8 (m8 m gs.size (some T1)) 0 (some T2),js,s,_,mu,gJ dd 0 (qf (lg r)),hr,⟨by rw [gm,hh]; exact nD,?_,λ a x ha=>?_,λ a ha=>?_,by rw [gm]; exact nB⟩,by rw [gm]; exact oJ⟩
  ·rw [gm,hh]
   have:gJ dd 0 (qf (lg r))=dd:=by
    rw [show qf (lg r)=dd 0 by rw [rp]; cases r <;> rfl]; exact m9 _ _
   rw [this]; exact nF
  ·rw [gm]
   by_cases tU:a=0
   ·subst tU
    rw [Array.getElem?_push,if_neg (by simp; omega),u6 bS] at ha
    cases ha
    rw [j0,N9,uN,eQ (by omega),hy,dJ]
    exact ⟨rfl,rfl,rfl,_,n',rfl,by omega,.inl ⟨T2,rfl,hg⟩⟩
   ·by_cases Qx:a=gs.size
    ·subst Qx
     rw [Array.getElem?_push,if_pos (by simp)] at ha
     cases ha
     rw [fV (by omega),j0,Jj (by omega),N9,uM (by omega),fM,o2,o3]
     exact ⟨by omega,rfl,rfl,_,n',rfl,by omega,by rw [if_neg (by simp [kG])]; exact .inl ⟨T1,rfl,hc⟩⟩
    ·rw [Array.getElem?_push,if_neg (by simp; omega),nk (by omega)] at ha
     rw [fV tU,fV Qx,Jj tU,Jj Qx,uM tU,eQ Qx]
     exact (h.yG a x ha).mono (Nat.le_of_lt oJ)
  ·rw [gm] at ha
   rw [eQ (by omega),uM (by omega)]
   exact h.out a (by omega)
 have Hh:∀ r,T0 ≠ .go r:=λ r e=>h1 ⟨r,e⟩
 rcases hK.other Hh h2 w s hf br jG with hb | ⟨g',w',es,T',s',dL,ko,dc,nE,T2,vw⟩
 ·exact .inl hb
 right
 have LG:T' ≠ .fin:=λ e=>by subst e; cases dL; exact h2 rfl
 have hr:∀ sl,runT F.P (crowd gs w sl) 0=(.next (crowd ((gs.map (Conc.woken F.P g g' w')).setIfInBounds 0 g') w' sl),MemOp.ofEvents 0 g.frame.fn g.frame.place es):=λ sl=>runT_crowd_go hi (show stepG F.P (0 == 0) g w=_ from dc)
 have gm:((gs.map (Conc.woken F.P g g' w')).setIfInBounds 0 g').size=gs.size:=by simp
 obtain ⟨nB,oJ⟩:=h.bk.aNE dL LG
 have QL:=nB.uq
 have fw:(cnt (cL D 0 (.mn T')) gs.size).hl=(cnt D gs.size).hl:=by
  have:=(xq (D:=D) bS (.mn T')).hl
  rw [h.bk.d0] at this
  simpa [cA,Cn.zero] using this
 have nF:dg (some (am F)) (some (aw F)) th mu (gJ dd 0 (qf T')) [F.bm,F.bw] (rj F (cnt D gs.size).hl) w.heap.size (t++MemOp.ofEvents 0 g.frame.fn g.frame.place es):=by
  cases evN dL ko h2 with
  | «at» ha e1 =>
   rw [e1,← jF,m9]
   exact dg.Vk h.mem h.tr hy ha (.inl dJ)
  | Bx e1 e2 =>
   have:=dg.word (i:=0) (fn:=g.frame.fn) (pos:=g.frame.place) h.tr (m:=.disable) (.inl rfl)
   rw [e2]
   rwa [show deafBehind (dd 0) (said .disable)=1 by rw [jF,e1]; rfl] at this
  | en e1 e2 =>
   have:=dg.word (i:=0) (fn:=g.frame.fn) (pos:=g.frame.place) h.tr (m:=.enable) (.inr rfl)
   rw [e2]
   rwa [show deafBehind (dd 0) (said .enable)=0 by rw [jF,e1]; rfl] at this
  | sd e1 e2 =>
   rw [e1,← jF,m9]
   exact dg.aPR h.mem h.tr hy e2 dJ
 rw [← nE.size] at nF
 refine ⟨T',_,_,_,_,m8 m 0 (some T2),js,s',gy th 0 (some ⟨R,H⟩),pe mu 0 (mu 0),gJ dd 0 (qf T'),hr,h.uK hi (.inr dL.adn) (Nat.le_of_lt oJ) (by rw [fw,FU hy]; exact h.mem.put nE) ?_ ?_ (λ j hj=>⟨eQ hj,ac2 hj,uM hj⟩) nB,by rw [gm]; exact oJ⟩
 ·rw [fw,FU hy,show pe mu 0 (mu 0)=mu by funext j; unfold pe; split <;> simp [*]]; exact nF
 ·rw [fM,Te,uN,dJ]
  exact ⟨rfl,rfl,rfl,_,n',rfl,by omega,.inl ⟨T2,rfl,vw⟩⟩
theorem MI.aQG(h:MI F Q .wq D m js s th mu dd gs w t)(hi:gs[0]? = some g){y:Th}(hy:th 0=some y){n:Nat}(hn:MM F Q D s gs.size≤n)(hK:KM F n .wq y.R y.H g) :
  ∃ iW g' w' ops q dd' R' H',(∀ sl,runT F.P (crowd gs w sl) 0=(.next (crowd iW w' sl),ops))∧iW[0]? = some g'∧F.mj R' H' g'∧yY F.P F.B R' H' iW w' (t++ops) q dd':=by
 have bS:=EP hi
 obtain ⟨jF,dJ⟩:=af5 h hi
 have hMp:=h.bk.uq
 obtain ⟨n',rfl⟩:∃ n',n=n'+1:=⟨n - 1,by omega⟩
 obtain ⟨R,H⟩:=y
 obtain ⟨g',w',dc,nE,tW⟩:=hK.wq_ w s (h.mem.fits 0 _ hy) (UJ h.mem) h.bk.aig.uy
 have hwg:=h.bk.aig.wg
 obtain ⟨_,_,_,hlv,hdw,QB⟩:=hwg
 have heq:=h.bk.aig.eq
 have a4a:(cnt D gs.size).jZ=0:=by omega
 have aki:∀ a k j T,D a ≠ .wk k j T:=λ a k j T e=>by
  have ha:a < gs.size:=by
   apply Classical.byContradiction
   intro hn
   rw [h.bk.out a (by omega)] at e; cases e
  have hle:=G3 (D:=D) ha
  rw [e] at hle
  have hq:T ≠ .quit:=λ e'=>by
   have:=(h.bk.nK a k j T e).2.1
   subst e'; exact this
  have e1:=hle.lv
  have e2:=hle.dw
  have e3:=hle.d4
  simp only [cA] at e1 e2 e3
  cases T <;> simp only [cW,Cn.busy,Cn.zero] at e1 e2 e3 <;> first | omega | skip
  case a1 b=>cases b <;> simp only [oA,if_false,if_true] at e1 <;> omega
  case quit=>exact hq rfl
 have U8:∀ a,a≠0→D a = .no:=λ a ha=>by
  cases hd:D a with
  | no=>rfl
  | wk k j T=>exact absurd hd (aki a k j T)
  | mn T=>exact absurd (h.bk.main a T hd) ha
 have hhl:(cnt D gs.size).hl=0:=by
  have:∀ n,dA n (λ a=>(cA (D a)).hl)=0:=λ n=>by
   have e:dA n (λ a=>(cA (D a)).hl)=dA n (λ _=>0):=N8 λ a _=>by
    by_cases ha:a=0
    ·subst ha; rw [h.bk.d0]; rfl
    ·rw [U8 a ha]; rfl
   rw [e]
   have hz:∀ n,dA n (λ _=>0)=0:=by intro n; induction n with | zero=>rfl | succ n ih=>simp only [dA,ih]
   exact hz n
  exact this _
 have hth:th=only ⟨R,H⟩:=by
  funext a
  unfold only
  split
  ·rename_i e; subst e; exact hy
  ·rename_i e
   rcases Nat.lt_or_ge a gs.size with hl | hg
   ·have:=h.yG a _ (qT hl)
    rw [U8 a e] at this
    exact this.1
   ·exact (h.out a hg).1
 have iK:∀ k,k < F.N→js k=F.J:=λ k hk=>by
  rcases h.bk.done k (by simpa [rem] using hk) with z | ⟨a,j,T,z⟩
  ·exact z
  ·exact absurd z (aki a k j T)
 have rp:dd 0=0:=by rw [jF]; rfl
 have hm:=h.mem.put nE
 have ht:=h.tr
 rw [hhl,hth] at hm ht
 have D8:F.bo < w.heap.size:=by rw [← nE.size]; exact l9 (hm.oH F.bo (F.cont js) (by simp [hF]))
 have nF:=dg.aRE (b:=F.bo) (o:=F.cont js) (y:=⟨0,g.frame.fn,g.frame.place,.mark (.acquire (aw F))⟩) ht D8 rfl rfl rp dJ (RQ h.mem)
 rw [← nE.size,← NM] at nF
 have nD:=fO.take (hl':=1) hm (i:=0) rfl (by omega)
 rw [Sw] at nD
 have hr:∀ sl,runT F.P (crowd gs w sl) 0=(.next (crowd ((gs.map (Conc.woken F.P g g' w')).setIfInBounds 0 g') w' sl),MemOp.ofEvents 0 g.frame.fn g.frame.place (said (.acquire (aw F)))):=λ sl=>runT_crowd_go hi (show stepG F.P (0 == 0) g w=_ from dc)
 have gm:((gs.map (Conc.woken F.P g g' w')).setIfInBounds 0 g').size=gs.size:=by simp
 refine ⟨_,g',w',_,λ a=>match m a with | some T=>Classical.epsilon λ q=>m a=some (sX q)∧∀ x,gs[a]? = some x→QuitsD F.P q (dd a) x | none=>0,dd,R,(F.bo,F.cont js)::H,hr,u6 (by simpa using bS),tW js iK,⟨⟨nD.fits,nD.apart,λ c o hc=>(by cases hc),λ c o hc=>(by cases hc)⟩,nF,rp,λ a ha=>(h.out a (by simpa using ha)).2.2,λ a x ha hx=>?_⟩⟩
 rw [nk (by omega),Array.getElem?_map] at hx
 obtain ⟨z,hz,rfl⟩:=Option.map_eq_some_iff.1 hx
 have hs:=h.yG a z hz
 rw [U8 a (by omega)] at hs
 obtain ⟨_,_,q,hq,hQ⟩:=hs
 rw [woken_quitsD hQ]
 have hex:∃ q,m a=some (sX q)∧∀ x,gs[a]? = some x→QuitsD F.P q (dd a) x:=⟨q,hq,λ x hx=>by rw [hz] at hx; cases hx; exact hQ⟩
 have:=(Classical.epsilon_spec hex).2 z hz
 simp only [hq] at this ⊢
 exact this
def SZ(m:Nat→Ms)(gs:Array Goroutine):Nat:=dA gs.size λ a=>if (m a).isNone∧(gs[a]?.map (·.status))=some .running then 1 else 0
def J2(a b:Nat × List Ms × Nat):Prop:=a.1 < b.1∨(a.1=b.1∧(One p9 a.2.1 b.2.1∨(a.2.1=b.2.1∧a.2.2 < b.2.2)))
theorem J2.wf:WellFounded J2:=by
 have key:∀ p l r,Acc J2 (p,l,r):=by
  intro p
  induction p using Nat.strongRecOn with
  | ind p ihp =>
   intro l
   induction l using One.wf.induction with
   | _ l ihl =>
    intro r
    induction r using Nat.strongRecOn with
    | ind r ihr =>
     refine ⟨_,λ y hy=>?_⟩
     obtain ⟨q,l',r'⟩:=y
     rcases hy with h | ⟨h1,h2 | ⟨h2,h3⟩⟩
     ·exact ihp q h l' r'
     ·simp only at h1; subst h1; exact ihl l' h2 r'
     ·simp only at h1 h2; subst h1 h2; exact ihr r' h3
 exact ⟨λ ⟨p,l,r⟩=>key p l r⟩
def ID(F:Fx)(Q:Nat)(D:Nat→Ab)(m:Nat→Ms)(s:Sh)(gs:Array Goroutine):Nat × List Ms × Nat:=(MM F Q D s gs.size,(List.range gs.size).map m,SZ m gs)
theorem ab5{m:Nat→Ms}{n i:Nat}{a b:Ms}(hi:i < n)(hb:m i=b)(hl:p9 a b):One p9 ((List.range n).map (m8 m i a)) ((List.range n).map m):=by
 have e:(List.range n).map (m8 m i a)=((List.range n).map m).set i a:=by
  apply List.ext_getElem?
  intro j
  rw [List.getElem?_set]
  by_cases hj:i=j
  ·subst hj; simp [hi,N9]
  ·simp only [hj,if_false,List.getElem?_map]
   cases hr:(List.range n)[j]? with
   | none=>rfl
   | some k =>
    have hk:k=j:=by
     obtain ⟨_,h2⟩:=iF.1 hr
     simpa using h2.symm
    subst hk
    simp [Jj (Ne.symm hj)]
 rw [e]
 exact One.set (by simp [hi,hb]) hl
end
theorem acW{f:Nat→Nat}:∀ {n:Nat},0 < dA n f→∃ i,i < n∧0 < f i
 | n+1,h=>by
  simp only [dA] at h
  rcases Nat.eq_zero_or_pos (f n) with hz | hp
  ·obtain ⟨i,hi,h2⟩:=acW (n:=n) (f:=f) (by omega)
   exact ⟨i,by omega,h2⟩
  ·exact ⟨n,by omega,hp⟩
section
variable {F:Fx} {Post:Value→World→Prop} {Q:Nat} {T0:Mp} {D:Nat→Ab} {m:Nat→Ms} {js:Nat→Nat} {s s':Sh} {th:Nat→Option Th} {mu:Nat→Bool} {dd:Nat→Nat} {gs:Array Goroutine} {w w':World} {t:Trace} {sl:Option (Nat × Nat)} {i k j:Nat} {g g':Goroutine}
theorem MI.look(h:MI F Q T0 D m js s th mu dd gs w t)(hi:gs[i]? = some g):(g.status = .running)∨(g.status = .finished∧D i = .no)∨(g.status = .blocked∧m i=none∧((∃ k j c,D i = .wk k j (.s1 c)∧s.ms=0)∨(D i = .mn .w3∧s.ws=0))) :=
 (h.yG i g hi).look h.bk.uq (h.nK i)
theorem MI.awake(h:MI F Q T0 D m js s th mu dd gs w t):∀ x∈gs,awake x:=by
 intro x hx
 obtain ⟨i,hi,rfl⟩:=Array.mem_iff_getElem.1 hx
 rcases h.look (qT hi) with e | ⟨e,_⟩ | ⟨e,_⟩
 ·exact awake_of (.inl e)
 ·exact awake_of (.inr (.inr e))
 ·exact awake_of (.inr (.inl e))
theorem MI.alm(h:MI F Q T0 D m js s th mu dd gs w t):∃ (i:Nat) (g:Goroutine),gs[i]? = some g∧g.status = .running:=by
 apply Classical.byContradiction
 intro Ef
 have wkr:∀ i,i < gs.size→∀ k j T,D i = .wk k j T→∃ c,T = .s1 c∧s.ms=0:=λ i hi k j T hd=>by
  rcases h.look (qT hi) with e | ⟨_,e⟩ | ⟨_,_,⟨k',j',c,e,hz⟩ | ⟨e,_⟩⟩
  ·exact absurd ⟨i,_,qT hi,e⟩ Ef
  ·rw [hd] at e; cases e
  ·rw [hd] at e; cases e; exact ⟨c,rfl,hz⟩
  ·rw [hd] at e; cases e
 have wy:∀ f:Cn→Nat,f .zero=0→(∀ c,f (cW (.s1 c))=0)→dA gs.size (λ i=>f (cA (D i)))=0:=λ f h0 h1=>by
  apply Classical.byContradiction
  intro hp
  obtain ⟨i,hi,qo⟩:=acW (n:=gs.size) (f:=λ i=>f (cA (D i))) (by omega)
  cases hd:D i with
  | no=>rw [hd] at qo; simp only [cA] at qo; omega
  | mn T=>rw [hd] at qo; simp only [cA] at qo; omega
  | wk k j T =>
   obtain ⟨c,rfl,_⟩:=wkr i hi k j T hd
   rw [hd] at qo; simp only [cA,h1] at qo; omega
 have hw3:T0 = .w3∧s.ws=0:=by
  have hi:=qT h.bk.pos
  rcases h.look hi with e | ⟨_,e⟩ | ⟨_,_,⟨k',j',c,e,hz⟩ | ⟨e,hz⟩⟩
  ·exact absurd ⟨0,_,hi,e⟩ Ef
  ·rw [h.bk.d0] at e; cases e
  ·rw [h.bk.d0] at e; cases e
  ·rw [h.bk.d0] at e; cases e; exact ⟨rfl,hz⟩
 obtain ⟨rfl,kW⟩:=hw3
 have hdw:(cnt D gs.size).dw=0:=wy (·.dw) rfl λ _=>rfl
 have QB:(cnt D gs.size).d4=0:=wy (·.d4) rfl λ _=>rfl
 have mU:(cnt D gs.size).ow=0:=wy (·.ow) rfl λ _=>rfl
 have hhl:(cnt D gs.size).hl=0:=wy (·.hl) rfl λ _=>rfl
 have hpu:(cnt D gs.size).pu=0:=wy (·.pu) rfl λ _=>rfl
 have hpc:(cnt D gs.size).pc=0:=wy (·.pc) rfl λ _=>rfl
 have BJ:(cnt D gs.size).al=0:=wy (·.al) rfl λ _=>rfl
 have ha1:(cnt D gs.size).a1=0:=wy (·.a1) rfl λ _=>rfl
 have hak:(cnt D gs.size).ak=0:=wy (·.ak) rfl λ _=>rfl
 have hux:(cnt D gs.size).ux=0:=wy (·.ux) rfl λ _=>rfl
 have hwk:(cnt D gs.size).wk=0:=wy (·.wk) rfl λ _=>rfl
 have hlv:0 < (cnt D gs.size).lv:=by
  rcases h.bk.aig.wg with ⟨_,_,_,h4,⟨_,h6⟩ | ⟨h5,_⟩⟩ | ⟨_,_,_,_,h5⟩
  ·omega
  ·omega
  ·omega
 have heq:=h.bk.aig.eq
 unfold Cn.jZ at heq
 have hz:0 < (cnt D gs.size).z:=by omega
 obtain ⟨i,hi,qo⟩:=acW (n:=gs.size) (f:=λ i=>(cA (D i)).z) hz
 have BR:s.ms=0:=by
  cases hd:D i with
  | no=>rw [hd] at qo; simp [cA,Cn.zero] at qo
  | mn T=>rw [hd] at qo; simp [cA,Cn.zero] at qo
  | wk k j T=>exact (wkr i hi k j T hd).choose_spec.2
 have a1:=h.bk.tG.ow
 have a2:=h.bk.tG.md
 have a3:=h.bk.tG.i4
 omega
theorem aNI{gs:Array Goroutine}{g:Goroutine}{w:World}:gs.map (Conc.woken F.P g { g with status:=.blocked } w)=gs:=by
 have:Conc.woken F.P g { g with status:=.blocked } w=id:=by funext o; simp [Conc.woken]
 rw [this,Array.map_id]
theorem MI.ghost(h:MI F Q T0 D m js s th mu dd gs w t)(hi:gs[i]? = some g){m':Ms}{x:Th}{R:az}{H:ah}(hth:th i=some ⟨R,H⟩)(hu:gu F.B R H w x.R x.H w)(hs:qW F (MM F Q D s gs.size) s i m' (some x) (mu i) (dd i) g (D i)) :
  MI F Q T0 D (m8 m i m') js s (gy th i (some x)) mu dd gs w t:=by
 obtain ⟨hm,ht⟩:=ahA h.mem (Kw F s js _) (Kv F s js _) h.tr hth hu
 have bS:=EP hi
 refine ⟨hm,ht,λ a y ha=>?_,λ a ha=>?_,h.bk⟩
 ·by_cases e:a=i
  ·subst e
   rw [hi] at ha; cases ha
   rw [N9,fM]; exact hs
  ·rw [Jj e,eQ e]; exact h.yG a y ha
 ·rw [eQ (by omega)]; exact h.out a ha
theorem MI.aO0(tW:F.mj=jr F.P F.B Post):∀ (μ:Nat × List Ms × Nat) (gs:Array Goroutine) (w:World) (sl:Option (Nat × Nat)) (t:Trace) (T0:Mp) (D:Nat→Ab) (m:Nat→Ms) (js:Nat→Nat) (s:Sh) (th:Nat→Option Th) (mu:Nat→Bool) (dd:Nat→Nat),
  MI F Q T0 D m js s th mu dd gs w t→ID F Q D m s gs=μ→∀ i g,gs[i]? = some g→g.status = .running→∀ m0,stepT F.P m0=runT F.P (crowd gs w sl) i→lX F.P Post m0 t:=by
 intro μ
 induction μ using J2.wf.induction with
 | _ μ ih =>
  intro gs w sl t T0 D m js s th mu dd h hμ i g hi kV m0 HA
  subst hμ
  have bS:=EP hi
  have next:∀ (iW:Array Goroutine) (w':World) (rM:Option (Nat × Nat)) (t':Trace) (ju:Mp) (D':Nat→Ab) (m':Nat→Ms) (ja:Nat→Nat) (s':Sh) (jY:Nat→Option Th) (mu':Nat→Bool) (dd':Nat→Nat),MI F Q ju D' m' ja s' jY mu' dd' iW w' t' →
    J2 (ID F Q D' m' s' iW) (ID F Q D m s gs)→lX F.P Post (crowd iW w' rM) t':=by
   intro iW w' rM t' ju D' m' ja s' jY mu' dd' h' hl
   obtain ⟨a,ga,d,acK,ha,En,dc⟩:=crowd_pick (P:=F.P) (gs:=iW) (w:=w') (sl:=rM) h'.awake h'.alm
   exact ih _ hl iW (w'.at d) acK t' ju D' m' ja s' jY mu' dd' (h'.at d) rfl a ga ha En _ dc
  have hs:=h.yG i g hi
  have go:∀ (m':Ms) (x:Option Th) (d':Nat) (g':Goroutine) (w':World) (es:Array Event),stepG F.P (i == 0) g w = .go g' w' es→fO F.B (gy th i x) (hF F s js (cnt D gs.size).hl) w' →
    dg (some (am F)) (some (aw F)) (gy th i x) mu (gJ dd i d') [F.bm,F.bw] (rj F (cnt D gs.size).hl) w'.heap.size (t++MemOp.ofEvents i g.frame.fn g.frame.place es) →
    qW F (MM F Q D s gs.size) s i m' x (mu i) d' g' (D i)→(p9 m' (m i)∨(m'=m i∧m i=none∧g'={ g with status:=.blocked }))→lX F.P Post m0 t:=by
   intro m' x d' g' w' es dc hm ht Y0 BR
   have hr:=runT_crowd_go (P:=F.P) (sl:=sl) hi dc
   have hP:=h.still hi (m':=m') (jY:=gy th i x) (dd':=gJ dd i d') (g':=g') (w':=w') hm ht (by rw [fM,uN]; exact Y0) (λ a ha=>⟨eQ ha,uM ha⟩)
   refine lX.step (HA.trans hr) (next _ _ _ _ _ _ _ _ _ _ _ _ hP ?_)
   have gm:((gs.map (Conc.woken F.P g g' w')).setIfInBounds i g').size=gs.size:=by simp
   unfold ID
   rw [gm]
   rcases BR with hl | ⟨e1,e2,e3⟩
   ·exact .inr ⟨rfl,.inl (ab5 bS rfl hl)⟩
   ·subst e3
    have em:m8 m i m'=m:=by funext a; unfold m8; split <;> simp [*]
    refine .inr ⟨rfl,.inr ⟨by rw [em],?_⟩⟩
    show SZ _ _ < SZ _ _
    rw [em]
    unfold SZ
    rw [gm,aNI]
    have:=FP (f:=λ a=>if (m a).isNone∧(gs[a]?.map (·.status))=some .running then 1 else 0) (g:=λ a=>if (m a).isNone∧(((gs.setIfInBounds i { g with status:=.blocked })[a]?).map (·.status))=some .running then 1 else 0) bS (λ a ha=>by
     simp only [nk (Ne.symm ha)])
    simp only [e2,hi,Option.isNone_none,Option.map_some,kV,true_and,if_true,u6 bS] at this
    simp at this
    simp
    omega
  have C9:∀ x,th i=x→gy th i x=th:=λ x hx=>FU hx
  have nx:(∃ iW w' ops D' m' ja s' jY mu' dd',(∀ sl,runT F.P (crowd gs w sl) i=(.next (crowd iW w' sl),ops))∧iW.size=gs.size∧MI F Q T0 D' m' ja s' jY mu' dd' iW w' (t++ops)∧MM F Q D' s' iW.size < MM F Q D s gs.size)→lX F.P Post m0 t:=by
   rintro ⟨iW,w',ops,D',m',ja,s',jY,mu',dd',hr,_,hP,hl⟩
   exact lX.step (HA.trans (hr sl)) (next _ _ _ _ _ _ _ _ _ _ _ _ hP (.inl hl))
  cases hd:D i with
  | no =>
   rw [hd] at hs
   obtain ⟨hn,gS,q,hq,hQ⟩:=hs
   have vz:(i == 0)=false:=by simp; omega
   cases q with
   | zero=>rw [hQ.1] at kV; cases kV
   | succ q =>
    rcases hQ with e | ⟨_,g',es,oN,dc,hQ⟩
    ·rw [e.1] at kV; cases kV
    ·refine go (some (sX q)) none (deafBehind (dd i) es) g' w es (by rw [vz]; exact dc w) ?_ ?_ ?_ (.inl (by rw [hq]; exact akd q))
     ·rw [C9 _ hn]; exact h.mem
     ·rw [C9 _ hn]; exact h.tr.leaves oN
     ·rw [hd]; exact ⟨rfl,gS,q,rfl,hQ⟩
  | wk k j T =>
   rw [hd] at hs
   obtain ⟨gS,jF,dJ,y,n,hy,hn,hs⟩:=hs
   have vz:(i == 0)=false:=by simp; omega
   have stop:KW F n k j T y.R y.H g→lX F.P Post m0 t:=by
    intro hK
    rcases h.work hi hd hy hn hK with ⟨⟨c,rfl⟩,hz,dc⟩ | hN
    ·refine go none (some y) (dd i) _ w #[] (by rw [vz]; exact dc) ?_ ?_ ?_ ?_
     ·rw [C9 _ hy]; exact h.mem
     ·rw [C9 _ hy,m9,ofEvents_none,Array.append_empty]; exact h.tr
     ·rw [hd]
      have ho:=h.nK i k j _ hd
      have hp:=h.bk.uq
      exact ⟨gS,jF,dJ,y,n,rfl,hn,by rw [if_neg (by simp [kG])]; exact .inr ⟨rfl,⟨c,rfl⟩,g,hK,kV,(KW.run hK (by omega) ho).2,.inr ⟨rfl,hz⟩⟩⟩
     ·cases HC:m i with
      | none=>exact .inr ⟨rfl,rfl,rfl⟩
      | some T'=>exact .inl .none
    ·exact nx hN
   by_cases HD:kG T=true
   ·rw [if_pos HD] at hs
    obtain ⟨q,hq,hQ⟩:=hs
    cases q with
    | zero=>exact stop hQ
    | succ q =>
     rcases hQ with hK | ⟨_,g',dc,hQ⟩
     ·exact stop hK
     ·refine go (some (sX q)) (some y) (dd i) g' w #[] (by rw [vz]; exact dc w) ?_ ?_ ?_ (.inl (by rw [hq]; exact akd q))
      ·rw [C9 _ hy]; exact h.mem
      ·rw [C9 _ hy,m9,ofEvents_none,Array.append_empty]; exact h.tr
      ·rw [hd]; exact ⟨gS,jF,dJ,y,n,rfl,hn,by rw [if_pos HD]; exact ⟨q,rfl,hQ⟩⟩
   ·rw [if_neg HD] at hs
    have hmf:mu i=false:=by rw [dJ]; simpa using HD
    rcases hs with ⟨Tr,Ls,hO⟩ | ⟨hm,⟨c,rfl⟩,g0,hK,YU,gd,hg⟩
    ·obtain ⟨ι,f⟩:=Tr
     obtain ⟨R,H⟩:=y
     rcases hO with hK | ⟨_,dc⟩ | ⟨R',H',a,XW,hO⟩
     ·exact stop hK
     ·obtain ⟨g',w',es,R',H',a,h1,h2,h3,h4⟩:=dc w (h.mem.fits i _ hy)
      obtain ⟨hm,ht⟩:=NQ h.mem (Kw F s js _) (Kv F s js _) h.tr hy (.inl hmf) h2 (.inl hmf) h3 g.frame.fn g.frame.place
      refine go (some (f a)) (some ⟨R',H'⟩) (dd i) g' w' es (by rw [vz]; exact h1) hm (by rw [m9]; exact ht) ?_ (.inl (by rw [Ls]; exact .some (.mk f a)))
      rw [hd]; exact ⟨gS,jF,dJ,_,n,rfl,hn,by rw [if_neg HD]; exact .inl ⟨f a,rfl,h4⟩⟩
     ·have hP:=h.ghost (x:=⟨R',H'⟩) (m':=some (f a)) hi hy (XW w (h.mem.fits i _ hy)) (by rw [hd]; exact ⟨gS,jF,dJ,_,n,rfl,hn,by rw [if_neg HD]; exact .inl ⟨f a,rfl,hO⟩⟩)
      exact ih (ID F Q D (m8 m i (some (f a))) s gs) (.inr ⟨rfl,.inl (ab5 bS Ls (.some (.mk f a)))⟩) gs w sl t _ _ _ _ _ _ _ _ hP rfl i g hi kV m0 HA
    ·rcases hg with rfl | ⟨rfl,_⟩
     ·exact stop hK
     ·cases kV
  | mn T =>
   have h0:i=0:=h.bk.main i T hd
   subst h0
   have BI:T=T0:=by have:=h.bk.d0; rw [hd] at this; cases this; rfl
   subst BI
   rw [hd] at hs
   obtain ⟨_,jF,dJ,y,n,hy,hn,hs⟩:=hs
   have stop:KM F n T y.R y.H g→lX F.P Post m0 t:=by
    intro hK
    by_cases hwq:T = .wq
    ·subst hwq
     obtain ⟨iW,g',w',ops,q,dd',R',H',hr,XV,hJ,hA⟩:=h.aQG hi hy hn hK
     rw [tW] at hJ
     exact lX.step (HA.trans (hr sl)) (hJ iW w' sl _ q dd' XV hA)
    ·rcases h.main hi hy hn hK hwq with ⟨rfl,hz,dc⟩ | ⟨ju,iW,w',ops,D',m',ja,s',jY,mu',dd',hr,hP,hl⟩
     ·refine go none (some y) (dd 0) _ w #[] dc ?_ ?_ ?_ ?_
      ·rw [C9 _ hy]; exact h.mem
      ·rw [C9 _ hy,m9,ofEvents_none,Array.append_empty]; exact h.tr
      ·rw [hd]
       have hp:=h.bk.uq
       exact ⟨rfl,jF,dJ,y,n,rfl,hn,.inr ⟨rfl,rfl,g,hK,kV,(KM.run hK (by omega)).2,.inr ⟨rfl,hz⟩⟩⟩
      ·cases HC:m 0 with
       | none=>exact .inr ⟨rfl,rfl,rfl⟩
       | some T'=>exact .inl .none
     ·exact lX.step (HA.trans (hr sl)) (next _ _ _ _ _ _ _ _ _ _ _ _ hP (.inl hl))
   rcases hs with ⟨Tr,Ls,hO⟩ | ⟨hm,rfl,g0,hK,YU,gd,hg⟩
   ·obtain ⟨ι,f⟩:=Tr
    obtain ⟨R,H⟩:=y
    rcases hO with hK | ⟨_,dc⟩ | ⟨R',H',a,XW,hO⟩
    ·exact stop hK
    ·obtain ⟨g',w',es,R',H',a,h1,h2,h3,h4⟩:=dc w (h.mem.fits 0 _ hy)
     obtain ⟨hm,ht⟩:=NQ h.mem (Kw F s js _) (Kv F s js _) h.tr hy (.inl dJ) h2 (.inl dJ) h3 g.frame.fn g.frame.place
     refine go (some (f a)) (some ⟨R',H'⟩) (dd 0) g' w' es h1 hm (by rw [m9]; exact ht) ?_ (.inl (by rw [Ls]; exact .some (.mk f a)))
     rw [hd]; exact ⟨rfl,jF,dJ,_,n,rfl,hn,.inl ⟨f a,rfl,h4⟩⟩
    ·have hP:=h.ghost (x:=⟨R',H'⟩) (m':=some (f a)) hi hy (XW w (h.mem.fits 0 _ hy)) (by rw [hd]; exact ⟨rfl,jF,dJ,_,n,rfl,hn,.inl ⟨f a,rfl,hO⟩⟩)
     exact ih (ID F Q D (m8 m 0 (some (f a))) s gs) (.inr ⟨rfl,.inl (ab5 bS Ls (.some (.mk f a)))⟩) gs w sl t _ _ _ _ _ _ _ _ hP rfl 0 g hi kV m0 HA
   ·rcases hg with rfl | ⟨rfl,_⟩
    ·exact stop hK
    ·cases kV
theorem MI.runs(tW:F.mj=jr F.P F.B Post)(h:MI F Q T0 D m js s th mu dd gs w t):lX F.P Post (crowd gs w sl) t:=by
 obtain ⟨a,ga,d,acK,ha,En,dc⟩:=crowd_pick (P:=F.P) (gs:=gs) (w:=w) (sl:=sl) h.awake h.alm
 exact MI.aO0 tW _ gs (w.at d) acK t T0 D m js s th mu dd (h.at d) rfl a ga ha En _ dc
end
end Go.Lg
