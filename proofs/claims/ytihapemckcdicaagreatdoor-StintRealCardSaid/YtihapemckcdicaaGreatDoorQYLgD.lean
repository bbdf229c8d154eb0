/- A mutex that any number of goroutines share; the machine of workers behind a mutex and a wait group: it runs to its end. Conditions: none. -/
import Derived.Test.YtihapemckcdicaaGreatDoorQYLgB
import Derived.Conc.MarkLaws
namespace Go.Lg
structure Wd where
 l:Nat
 w:Nat
 s:Nat
 n:Nat
 deriving DecidableEq
def Wd.val(m:Wd):Int:=m.l+2 * m.w+4 * m.s+8 * m.n
def Wd.ok(N:Nat)(m:Wd):Prop:=m.l≤1∧m.w≤1∧m.s≤1∧m.n≤N
def Wd.zero:Wd:=⟨0,0,0,0⟩
theorem Wd.val_inj{N N':Nat}{a b:Wd}(d:a.ok N)(hb:b.ok N')(h:a.val=b.val):a=b:=by
 obtain ⟨l,w,s,n⟩:=a
 obtain ⟨l',w',s',n'⟩:=b
 simp only [Wd.ok,Wd.val,Wd.mk.injEq] at *
 omega
structure Sh where
 mu:Wd
 ms:Nat
 v:Nat
 w:Nat
 ws:Nat
structure Lc where
 old:Wd
 aw:Bool
 sv:Bool
 it:Nat
 ws:Bool
inductive Lp
 | ld | l0 | r0 | sq (c:Lc) | c1 (c:Lc) | r1 (c:Lc) | c2 (c:Lc) | r3 (c:Lc) | t1 (c:Lc) | s1 (c:Lc) | t2 (c:Lc) | r2 (c:Lc) | a1 (keep:Bool)
 | le | lc | la | ul (js:Nat→Nat) | uv (js:Nat→Nat) | ur (js:Nat→Nat) | ud | u0 | uc (old:Wd) | ux | us | ue
 | wv | wr | wk | d1 | d2 | d3 | d4 | quit
def hd(c:Lc):Lp:=if c.old.l=1∧c.old.s=0 then .sq c else .c2 c
def nw(c:Lc):Wd:={ l:=if c.old.s=0 then 1 else c.old.l,w:=if c.aw then 0 else c.old.w,s:=if c.sv∧c.old.l=1 then 1 else c.old.s,n:=if c.old.l=1∨c.old.s=1 then c.old.n+1 else c.old.n }
def hu(m:Wd):Lp:=if m.n=0∨m.l=1∨m.w=1∨m.s=1 then .ue else .uc m
def ey(c:Lc):Lp:=if c.aw=false∧c.old.w=0∧c.old.n≠0 then .c1 c else .r1 c
inductive ca:Lp→Sh→Lp→Sh→Prop
 | ld {s}:ca .ld s .l0 s
 | AI {s}:s.mu = .zero→ca .l0 s .le { s with mu:=⟨1,0,0,0⟩ }
 | AH {s}:s.mu ≠ .zero→ca .l0 s .r0 s
 | r0 {s}:ca .r0 s (hd ⟨s.mu,false,false,0,false⟩) s
 | tX {s c}:ca (.sq c) s (.c2 c) s
 | lC {s c}:c.it < 4→ca (.sq c) s (ey c) s
 | u5 {s c}:s.mu=c.old→ca (.c1 c) s (.r1 { c with aw:=true }) { s with mu:={ c.old with w:=1 } }
 | u4 {s c}:s.mu≠c.old→ca (.c1 c) s (.r1 c) s
 | r1 {s c}:ca (.r1 c) s (hd { c with old:=s.mu,it:=c.it+1 }) s
 | vc {s c}:s.mu=c.old→c.old.l=0→c.old.s=0→ca (.c2 c) s .le { s with mu:=nw c }
 | kB {s c}:s.mu=c.old→(c.old.l=1∨c.old.s=1)→ca (.c2 c) s (if c.ws then .s1 c else .t1 c) { s with mu:=nw c }
 | vd {s c}:s.mu≠c.old→ca (.c2 c) s (.r3 c) s
 | r3 {s c}:ca (.r3 c) s (hd { c with old:=s.mu }) s
 | t1 {s c} (b:Bool):ca (.t1 c) s (.s1 { c with ws:=b }) s
 | s1 {s c m}:s.ms=m+1→ca (.s1 c) s (if c.sv then .r2 c else .t2 c) { s with ms:=m }
 | t2 {s c} (b:Bool):ca (.t2 c) s (.r2 { c with sv:=b }) s
 | re {s c}:s.mu.s=1→ca (.r2 c) s (.a1 (c.sv && s.mu.n != 1)) s
 | ln {s c}:s.mu.s=0→ca (.r2 c) s (hd { c with old:=s.mu,aw:=true,it:=0 }) s
 | a1 {s b}:ca (.a1 b) s .le { s with mu:=⟨1,s.mu.w,if b then s.mu.s else 0,s.mu.n - 1⟩ }
 | le {s}:ca .le s .lc s
 | lc {s}:ca .lc s .la s
 | la {s js}:ca .la s (.ul js) s
 | ul {s js}:ca (.ul js) s (.uv js) s
 | uv {s js}:ca (.uv js) s (.ur js) s
 | ur {s js}:ca (.ur js) s .ud s
 | ud {s}:ca .ud s .u0 s
 | Dl {s}:s.mu.w=0→s.mu.s=0→s.mu.n=0→ca .u0 s .ue { s with mu:={ s.mu with l:=0 } }
 | lE {s}:¬ (s.mu.w=0∧s.mu.s=0∧s.mu.n=0)→s.mu.s=0→ca .u0 s (hu { s.mu with l:=0 }) { s with mu:={ s.mu with l:=0 } }
 | Dk {s}:s.mu.s=1→ca .u0 s .us { s with mu:={ s.mu with l:=0 } }
 | Dm {s m}:s.mu=m→ca (.uc m) s .us { s with mu:={ m with w:=1,n:=m.n - 1 } }
 | xP {s m}:s.mu≠m→ca (.uc m) s .ux s
 | ux {s}:ca .ux s (hu s.mu) s
 | us {s}:ca .us s .ue { s with ms:=s.ms+1 }
 | uj {s}:ca .ue s .ld s
 | uk {s}:ca .ue s .wv s
 | wv {s}:ca .wv s .wr s
 | wr {s}:ca .wr s .wk s
 | wk {s}:ca .wk s .d1 s
 | qd {s}:(s.v≠1∨s.w=0)→ca .d1 s .quit { s with v:=s.v - 1 }
 | vr {s}:s.v=1→s.w=1→ca .d1 s .d2 { s with v:=0 }
 | d2 {s}:ca .d2 s .d3 s
 | d3 {s}:ca .d3 s .d4 { s with v:=0,w:=0 }
 | d4 {s}:ca .d4 s .quit { s with ws:=s.ws+1 }
structure Cn where
 ow:Nat
 hl:Nat
 pu:Nat
 pc:Nat
 al:Nat
 z:Nat
 a1:Nat
 ak:Nat
 ux:Nat
 wk:Nat
 lv:Nat
 dw:Nat
 d4:Nat
def jh(c:Lc):Nat:=if c.aw then 1 else 0
def Cn.zero:Cn:=⟨0,0,0,0,0,0,0,0,0,0,0,0,0⟩
def Cn.busy:Cn:={ Cn.zero with wk:=1,lv:=1 }
def cW:Lp→Cn
 | .le | .lc | .la | .ud | .u0=>{ Cn.busy with ow:=1 }
 | .ul _ | .uv _ | .ur _=>{ Cn.busy with hl:=1 }
 | .us=>{ Cn.busy with pu:=1 }
 | .t2 _ | .r2 _=>{ Cn.busy with wk:=0,pc:=1 }
 | .a1 b=>if b then { Cn.busy with wk:=0,ak:=1 } else { Cn.busy with wk:=0,a1:=1 }
 | .sq c | .c1 c | .r1 c | .c2 c | .r3 c=>{ Cn.busy with al:=jh c }
 | .t1 _ | .s1 _=>{ Cn.busy with wk:=0,z:=1 }
 | .uc _ | .ux=>{ Cn.busy with ux:=1 }
 | .d2 | .d3=>{ Cn.zero with wk:=1,dw:=1 }
 | .d4=>{ Cn.zero with wk:=1,d4:=1 }
 | .quit=>Cn.zero
 | _=>Cn.busy
structure Cn.lQ (c x y c':Cn):Prop where
 ow:c'.ow+x.ow=c.ow+y.ow
 hl:c'.hl+x.hl=c.hl+y.hl
 pu:c'.pu+x.pu=c.pu+y.pu
 pc:c'.pc+x.pc=c.pc+y.pc
 al:c'.al+x.al=c.al+y.al
 z:c'.z+x.z=c.z+y.z
 a1:c'.a1+x.a1=c.a1+y.a1
 ak:c'.ak+x.ak=c.ak+y.ak
 ux:c'.ux+x.ux=c.ux+y.ux
 wk:c'.wk+x.wk=c.wk+y.wk
 lv:c'.lv+x.lv=c.lv+y.lv
 dw:c'.dw+x.dw=c.dw+y.dw
 d4:c'.d4+x.d4=c.d4+y.d4
structure Cn.Le (x c:Cn):Prop where
 ow:x.ow≤c.ow
 hl:x.hl≤c.hl
 pu:x.pu≤c.pu
 pc:x.pc≤c.pc
 al:x.al≤c.al
 z:x.z≤c.z
 a1:x.a1≤c.a1
 ak:x.ak≤c.ak
 ux:x.ux≤c.ux
 wk:x.wk≤c.wk
 lv:x.lv≤c.lv
 dw:x.dw≤c.dw
 d4:x.d4≤c.d4
structure b8 (N:Nat) (c:Cn) (s:Sh):Prop where
 l1:s.mu.l≤1
 w1:s.mu.w≤1
 s1:s.mu.w+s.mu.s≤1
 ow:c.ow+c.hl=s.mu.l
 al:c.al≤s.mu.w
 md:((s.mu.s=0∨s.mu.l=1)∧c.pu+c.pc+c.al+s.ms=s.mu.w∧c.a1+c.ak=0∧s.mu.n+c.pu+s.ms=c.z)∨(s.mu.s=1∧s.mu.l=0∧c.pu+c.pc+c.a1+c.ak+c.al+s.ms=1∧s.mu.n=c.z+c.pc+c.a1+c.ak)
 ak:2 * c.ak≤s.mu.n
 sn:s.mu.s=0∨1≤s.mu.n
 i4:s.mu.l=1∨s.mu.w=1∨s.mu.s=1∨s.mu.n=0∨1≤c.ux
 wN:c.wk+c.z+c.pc+c.a1+c.ak≤N
def hL(N:Nat):Lp→Prop
 | .sq c=>c.old.ok N∧c.it≤4∧(c.sv=true→c.aw=true)∧(c.aw=true→c.old.w=1)∧c.old.l=1∧c.old.s=0
 | .c1 c=>c.old.ok N∧c.it < 4∧c.sv=false∧c.aw=false∧c.old.l=1∧c.old.s=0∧c.old.w=0∧c.old.n≠0
 | .r1 c=>c.old.ok N∧c.it < 4∧(c.sv=true→c.aw=true)
 | .c2 c=>c.old.ok N∧c.it≤4∧(c.sv=true→c.aw=true)∧(c.aw=true→c.old.w=1)
 | .r3 c=>c.old.ok N∧c.it≤4∧(c.sv=true→c.aw=true)
 | .t1 c=>c.ws=false
 | .t2 c=>c.sv=false
 | .uc m=>m.ok N∧m.l=0∧m.w=0∧m.s=0∧m.n≠0
 | _=>True
def nY(N:Nat)(T:Lp)(s:Sh):Prop:=s.mu.ok N∧(match T with
 | .r1 c | .r3 c=>c.aw=true→s.mu.w=1
 | .r2 _=>(s.mu.s=1∧s.mu.l=0∧s.mu.w=0∧s.mu.n≠0)∨(s.mu.s=0∧s.mu.w=1)
 | .a1 b=>s.mu.s=1∧s.mu.l=0∧s.mu.w=0∧s.mu.n≠0∧(b=true→2≤s.mu.n)
 | .u0=>s.mu.l=1
 | .us=>s.ms=0
 | _=>True)
theorem og{c:Lc}(h:c.aw=true):jh c=1:=by simp [jh,h]
theorem pN{c:Lc}(h:c.aw=false):jh c=0:=by simp [jh,h]
section
variable {N:Nat} {c c':Cn} {s s':Sh} {T T':Lp}
theorem b8.nY(h:b8 N c s)(hle:(cW T).Le c):nY N T s:=by
 obtain ⟨h1,h2,h3,h4,h5,h6,E,G,A,C⟩:=h
 obtain ⟨e1,r,u,v,d,y,e,f,z,l,o,p,q⟩:=hle
 refine ⟨⟨h1,h2,by omega,by omega⟩,?_⟩
 cases T <;> simp only [cW,Cn.busy,Cn.zero] at * <;> first | trivial | skip
 case r1 c=>intro a; rw [og a] at d; omega
 case r3 c=>intro a; rw [og a] at d; omega
 case r2 c=>omega
 case a1 b =>
  cases b
  ·simp only [fi,if_false] at e f
   exact ⟨by omega,by omega,by omega,by omega,λ hb=>by cases hb⟩
  ·simp only [if_true] at e f
   exact ⟨by omega,by omega,by omega,by omega,λ _=>by omega⟩
 case u0=>omega
 case us=>omega
theorem iB(c:Lc):cW (hd c)={ Cn.busy with al:=jh c }:=by unfold hd; split <;> rfl
theorem vn(c:Lc):cW (ey c)={ Cn.busy with al:=jh c }:=by unfold ey; split <;> rfl
theorem tK{c:Lc}(h1:c.old.ok N)(h2:c.it≤4)(h3:c.sv=true→c.aw=true)(h4:c.aw=true→c.old.w=1):hL N (hd c):=by
 unfold hd; split
 ·exact ⟨h1,h2,h3,h4,by omega,by omega⟩
 ·exact ⟨h1,h2,h3,h4⟩
set_option maxHeartbeats 2000000 in
theorem b8.step(h:b8 N c s)(ap:hL N T)(hle:(cW T).Le c)(aR:ca T s T' s')(aQ:c.lQ (cW T) (cW T') c'):b8 N c' s'∧hL N T':=by
 have az:=h.nY hle
 obtain ⟨h1,h2,h3,h4,h5,h6,aO,aP,aM,aN⟩:=h
 obtain ⟨f,r,u,y,e,A,C,E,G,l,o,p,q⟩:=aQ
 obtain ⟨e1,af,ag,ah,J,aj,al,am,an,ab,ac,ad,ae⟩:=hle
 obtain ⟨⟨aA,av,aB,ay⟩,az⟩:=az
 obtain ⟨⟨aa,I,ao,mn⟩,ms,v,w,ws⟩:=s
 obtain ⟨ow,hl,pu,pc,aU,z,a1,ak,ux,wk,lv,dw,d4⟩:=c
 obtain ⟨U,hl',W,V,M,Z,K,L,X,Y,S,P,O⟩:=c'
 dsimp only at h1 h2 h3 h4 h5 h6 aO aP aM aN f r u y e A C E G l o p q e1 af ag ah J aj al am an ab ac ad ae aA av aB ay az
 cases aR with
 | ld =>
  simp only [cW,Cn.busy,Cn.zero] at f r u y e A C E G l o p q e1 af ag ah J aj al am an ab ac ad ae
  exact ⟨(by show b8 N ⟨U,hl',W,V,M,Z,K,L,X,Y,S,P,O⟩ ⟨⟨aa,I,ao,mn⟩,ms,v,w,ws⟩; constructor <;> dsimp only <;> omega),trivial⟩
 | AI hm =>
  simp only [Wd.zero,Wd.mk.injEq] at hm
  obtain ⟨rfl,rfl,rfl,rfl⟩:=hm
  simp only [cW,Cn.busy,Cn.zero] at f r u y e A C E G l o p q e1 af ag ah J aj al am an ab ac ad ae
  exact ⟨(by show b8 N ⟨U,hl',W,V,M,Z,K,L,X,Y,S,P,O⟩ ⟨⟨1,0,0,0⟩,ms,v,w,ws⟩; constructor <;> dsimp only <;> omega),trivial⟩
 | AH hm =>
  simp only [cW,Cn.busy,Cn.zero] at f r u y e A C E G l o p q e1 af ag ah J aj al am an ab ac ad ae
  exact ⟨(by show b8 N ⟨U,hl',W,V,M,Z,K,L,X,Y,S,P,O⟩ ⟨⟨aa,I,ao,mn⟩,ms,v,w,ws⟩; constructor <;> dsimp only <;> omega),trivial⟩
 | r0 =>
  simp only [iB] at f r u y e A C E G l o p q
  simp only [cW,Cn.busy,Cn.zero] at f r u y e A C E G l o p q e1 af ag ah J aj al am an ab ac ad ae
  rw [pN rfl] at e
  exact ⟨(by show b8 N ⟨U,hl',W,V,M,Z,K,L,X,Y,S,P,O⟩ ⟨⟨aa,I,ao,mn⟩,ms,v,w,ws⟩; constructor <;> dsimp only <;> omega),tK ⟨aA,av,aB,ay⟩ (by simp) (by simp) (by simp)⟩
 | @tX _ c =>
  simp only [cW,Cn.busy,Cn.zero] at f r u y e A C E G l o p q e1 af ag ah J aj al am an ab ac ad ae
  exact ⟨(by show b8 N ⟨U,hl',W,V,M,Z,K,L,X,Y,S,P,O⟩ ⟨⟨aa,I,ao,mn⟩,ms,v,w,ws⟩; constructor <;> dsimp only <;> omega),ap.1,ap.2.1,ap.2.2.1,ap.2.2.2.1⟩
 | @lC _ c hi =>
  obtain ⟨t1,t2,t3,t4,t5,t6⟩:=ap
  simp only [vn] at f r u y e A C E G l o p q
  simp only [cW,Cn.busy,Cn.zero] at f r u y e A C E G l o p q e1 af ag ah J aj al am an ab ac ad ae
  refine ⟨(by show b8 N ⟨U,hl',W,V,M,Z,K,L,X,Y,S,P,O⟩ ⟨⟨aa,I,ao,mn⟩,ms,v,w,ws⟩; constructor <;> dsimp only <;> omega),?_⟩
  unfold ey; split
  ·rename_i aq
   refine ⟨t1,hi,?_,aq.1,t5,t6,aq.2.1,aq.2.2⟩
   cases aJ:c.sv with
   | false=>rfl
   | true=>rw [t3 aJ] at aq; cases aq.1
  ·exact ⟨t1,hi,t3⟩
 | @u5 _ c hm =>
  obtain ⟨old,aw,sv,it,ar⟩:=c
  cases hm
  obtain ⟨⟨aC,aD,aE,aF⟩,t2,t3,t4,t5,t6,t7,t8⟩:=ap
  simp only at t2 t3 t4 t5 t6 t7 t8
  subst t4
  simp only [cW,Cn.busy,Cn.zero] at f r u y e A C E G l o p q e1 af ag ah J aj al am an ab ac ad ae
  rw [pN rfl,og rfl] at e
  rw [pN rfl] at J
  exact ⟨(by show b8 N ⟨U,hl',W,V,M,Z,K,L,X,Y,S,P,O⟩ ⟨⟨aa,1,ao,mn⟩,ms,v,w,ws⟩; constructor <;> dsimp only <;> omega),⟨aC,aD,aE,aF⟩,t2,λ _=>rfl⟩
 | @u4 _ c hm =>
  simp only [cW,Cn.busy,Cn.zero] at f r u y e A C E G l o p q e1 af ag ah J aj al am an ab ac ad ae
  exact ⟨(by show b8 N ⟨U,hl',W,V,M,Z,K,L,X,Y,S,P,O⟩ ⟨⟨aa,I,ao,mn⟩,ms,v,w,ws⟩; constructor <;> dsimp only <;> omega),ap.1,ap.2.1,λ aq=>by rw [ap.2.2.1] at aq; cases aq⟩
 | @r1 _ c =>
  simp only [iB] at f r u y e A C E G l o p q
  simp only [cW,Cn.busy,Cn.zero] at f r u y e A C E G l o p q e1 af ag ah J aj al am an ab ac ad ae
  have aG:jh { c with old:=⟨aa,I,ao,mn⟩,it:=c.it+1 }=jh c:=rfl
  rw [aG] at e
  exact ⟨(by show b8 N ⟨U,hl',W,V,M,Z,K,L,X,Y,S,P,O⟩ ⟨⟨aa,I,ao,mn⟩,ms,v,w,ws⟩; constructor <;> dsimp only <;> omega),tK ⟨aA,av,aB,ay⟩ (by have:=ap.2.1; simp only; omega) ap.2.2 az⟩
 | @vc _ c hm hl aL =>
  obtain ⟨old,aw,sv,it,ar⟩:=c
  cases hm
  simp only at hl aL
  subst hl aL
  obtain ⟨⟨aC,aD,aE,aF⟩,t2,t3,t4⟩:=ap
  simp only at t3 t4
  simp only [cW,Cn.busy,Cn.zero] at f r u y e A C E G l o p q e1 af ag ah J aj al am an ab ac ad ae
  have en:nw ⟨⟨0,I,0,mn⟩,aw,sv,it,ar⟩=⟨1,if aw then 0 else I,0,mn⟩:=by simp [nw]
  rw [en]
  cases aw
  ·rw [pN rfl] at e J
   exact ⟨(by show b8 N ⟨U,hl',W,V,M,Z,K,L,X,Y,S,P,O⟩ ⟨⟨1,I,0,mn⟩,ms,v,w,ws⟩; constructor <;> dsimp only <;> omega),trivial⟩
  ·rw [og rfl] at e J
   have:=t4 rfl
   exact ⟨(by show b8 N ⟨U,hl',W,V,M,Z,K,L,X,Y,S,P,O⟩ ⟨⟨1,0,0,mn⟩,ms,v,w,ws⟩; constructor <;> dsimp only <;> omega),trivial⟩
 | @kB _ c hm aS =>
  obtain ⟨old,aw,sv,it,ar⟩:=c
  cases hm
  obtain ⟨⟨aC,aD,aE,aF⟩,t2,t3,t4⟩:=ap
  simp only at t3 t4 aS
  have aH:cW (if ar=true then Lp.s1 ⟨⟨aa,I,ao,mn⟩,aw,sv,it,ar⟩ else Lp.t1 ⟨⟨aa,I,ao,mn⟩,aw,sv,it,ar⟩)={ Cn.busy with wk:=0,z:=1 }:=by cases ar <;> rfl
  simp only at f r u y e A C E G l o p q
  simp only [aH] at f r u y e A C E G l o p q
  simp only [cW,Cn.busy,Cn.zero] at f r u y e A C E G l o p q e1 af ag ah J aj al am an ab ac ad ae
  refine ⟨?_,by cases ar <;> first | rfl | trivial⟩
  cases aw
  ·cases sv
   ·rw [pN rfl] at e J
    by_cases aK:ao=0
    ·subst aK
     have aI:aa=1:=by omega
     subst aI
     have en:nw ⟨⟨1,I,0,mn⟩,false,false,it,ar⟩=⟨1,I,0,mn+1⟩:=by simp [nw]
     rw [en]
     exact (by show b8 N ⟨U,hl',W,V,M,Z,K,L,X,Y,S,P,O⟩ ⟨⟨1,I,0,mn+1⟩,ms,v,w,ws⟩; constructor <;> dsimp only <;> omega)
    ·have aT:ao=1:=by omega
     subst aT
     have en:nw ⟨⟨aa,I,1,mn⟩,false,false,it,ar⟩=⟨aa,I,1,mn+1⟩:=by simp [nw]
     rw [en]
     exact (by show b8 N ⟨U,hl',W,V,M,Z,K,L,X,Y,S,P,O⟩ ⟨⟨aa,I,1,mn+1⟩,ms,v,w,ws⟩; constructor <;> dsimp only <;> omega)
   ·exact absurd (t3 rfl) (by simp)
  ·rw [og rfl] at e J
   have hw:=t4 rfl
   have aK:ao=0:=by omega
   have aI:aa=1:=by omega
   subst aK aI hw
   cases sv
   ·have en:nw ⟨⟨1,1,0,mn⟩,true,false,it,ar⟩=⟨1,0,0,mn+1⟩:=by simp [nw]
    rw [en]
    exact (by show b8 N ⟨U,hl',W,V,M,Z,K,L,X,Y,S,P,O⟩ ⟨⟨1,0,0,mn+1⟩,ms,v,w,ws⟩; constructor <;> dsimp only <;> omega)
   ·have en:nw ⟨⟨1,1,0,mn⟩,true,true,it,ar⟩=⟨1,0,1,mn+1⟩:=by simp [nw]
    rw [en]
    exact (by show b8 N ⟨U,hl',W,V,M,Z,K,L,X,Y,S,P,O⟩ ⟨⟨1,0,1,mn+1⟩,ms,v,w,ws⟩; constructor <;> dsimp only <;> omega)
 | @vd _ c hm =>
  simp only [cW,Cn.busy,Cn.zero] at f r u y e A C E G l o p q e1 af ag ah J aj al am an ab ac ad ae
  exact ⟨(by show b8 N ⟨U,hl',W,V,M,Z,K,L,X,Y,S,P,O⟩ ⟨⟨aa,I,ao,mn⟩,ms,v,w,ws⟩; constructor <;> dsimp only <;> omega),ap.1,ap.2.1,ap.2.2.1⟩
 | @r3 _ c =>
  simp only [iB] at f r u y e A C E G l o p q
  simp only [cW,Cn.busy,Cn.zero] at f r u y e A C E G l o p q e1 af ag ah J aj al am an ab ac ad ae
  have aG:jh { c with old:=⟨aa,I,ao,mn⟩ }=jh c:=rfl
  rw [aG] at e
  exact ⟨(by show b8 N ⟨U,hl',W,V,M,Z,K,L,X,Y,S,P,O⟩ ⟨⟨aa,I,ao,mn⟩,ms,v,w,ws⟩; constructor <;> dsimp only <;> omega),tK ⟨aA,av,aB,ay⟩ ap.2.1 ap.2.2 az⟩
 | @t1 _ c b =>
  simp only [cW,Cn.busy,Cn.zero] at f r u y e A C E G l o p q e1 af ag ah J aj al am an ab ac ad ae
  exact ⟨(by show b8 N ⟨U,hl',W,V,M,Z,K,L,X,Y,S,P,O⟩ ⟨⟨aa,I,ao,mn⟩,ms,v,w,ws⟩; constructor <;> dsimp only <;> omega),trivial⟩
 | @s1 _ c m hm =>
  have aH:cW (if c.sv=true then Lp.r2 c else Lp.t2 c)={ Cn.busy with wk:=0,pc:=1 }:=by cases c.sv <;> rfl
  simp only at hm
  simp only [aH] at f r u y e A C E G l o p q
  simp only [cW,Cn.busy,Cn.zero] at f r u y e A C E G l o p q e1 af ag ah J aj al am an ab ac ad ae
  refine ⟨(by show b8 N ⟨U,hl',W,V,M,Z,K,L,X,Y,S,P,O⟩ ⟨⟨aa,I,ao,mn⟩,m,v,w,ws⟩; constructor <;> dsimp only <;> omega),?_⟩
  cases aJ:c.sv with
  | false=>exact aJ
  | true=>trivial
 | @t2 _ c b =>
  simp only [cW,Cn.busy,Cn.zero] at f r u y e A C E G l o p q e1 af ag ah J aj al am an ab ac ad ae
  exact ⟨(by show b8 N ⟨U,hl',W,V,M,Z,K,L,X,Y,S,P,O⟩ ⟨⟨aa,I,ao,mn⟩,ms,v,w,ws⟩; constructor <;> dsimp only <;> omega),trivial⟩
 | @re _ c hm =>
  simp only at hm; subst hm
  simp only [cW,Cn.busy,Cn.zero] at f r u y e A C E G l o p q e1 af ag ah J aj al am an ab ac ad ae
  refine ⟨?_,trivial⟩
  cases hb:(c.sv && mn != 1) with
  | false =>
   simp only [hb,fi,if_false] at f r u y e A C E G l o p q
   exact (by show b8 N ⟨U,hl',W,V,M,Z,K,L,X,Y,S,P,O⟩ ⟨⟨aa,I,1,mn⟩,ms,v,w,ws⟩; constructor <;> dsimp only <;> omega)
  | true =>
   have aV:mn≠1:=by simp at hb; exact hb.2
   simp only [hb,if_true] at f r u y e A C E G l o p q
   exact (by show b8 N ⟨U,hl',W,V,M,Z,K,L,X,Y,S,P,O⟩ ⟨⟨aa,I,1,mn⟩,ms,v,w,ws⟩; constructor <;> dsimp only <;> omega)
 | @ln _ c hm =>
  simp only at hm; subst hm
  simp only [iB] at f r u y e A C E G l o p q
  simp only [cW,Cn.busy,Cn.zero] at f r u y e A C E G l o p q e1 af ag ah J aj al am an ab ac ad ae
  rw [og rfl] at e
  exact ⟨(by show b8 N ⟨U,hl',W,V,M,Z,K,L,X,Y,S,P,O⟩ ⟨⟨aa,I,0,mn⟩,ms,v,w,ws⟩; constructor <;> dsimp only <;> omega),tK ⟨aA,av,aB,ay⟩ (by simp) (λ _=>rfl) (λ _=>by simp only; omega)⟩
 | @a1 _ b =>
  obtain ⟨r1,r2,r3,r4,aW⟩:=az
  subst r1 r2 r3
  simp only [cW,Cn.busy,Cn.zero] at f r u y e A C E G l o p q e1 af ag ah J aj al am an ab ac ad ae
  cases b
  ·simp only [fi,if_false] at f r u y e A C E G l o p q e1 af ag ah J aj al am an ab ac ad ae
   exact ⟨(by show b8 N ⟨U,hl',W,V,M,Z,K,L,X,Y,S,P,O⟩ ⟨⟨1,0,0,mn - 1⟩,ms,v,w,ws⟩; constructor <;> dsimp only <;> omega),trivial⟩
  ·simp only [if_true] at f r u y e A C E G l o p q e1 af ag ah J aj al am an ab ac ad ae
   exact ⟨(by show b8 N ⟨U,hl',W,V,M,Z,K,L,X,Y,S,P,O⟩ ⟨⟨1,0,1,mn - 1⟩,ms,v,w,ws⟩; constructor <;> dsimp only <;> omega),trivial⟩
 | le =>
  simp only [cW,Cn.busy,Cn.zero] at f r u y e A C E G l o p q e1 af ag ah J aj al am an ab ac ad ae
  exact ⟨(by show b8 N ⟨U,hl',W,V,M,Z,K,L,X,Y,S,P,O⟩ ⟨⟨aa,I,ao,mn⟩,ms,v,w,ws⟩; constructor <;> dsimp only <;> omega),trivial⟩
 | lc =>
  simp only [cW,Cn.busy,Cn.zero] at f r u y e A C E G l o p q e1 af ag ah J aj al am an ab ac ad ae
  exact ⟨(by show b8 N ⟨U,hl',W,V,M,Z,K,L,X,Y,S,P,O⟩ ⟨⟨aa,I,ao,mn⟩,ms,v,w,ws⟩; constructor <;> dsimp only <;> omega),trivial⟩
 | la =>
  simp only [cW,Cn.busy,Cn.zero] at f r u y e A C E G l o p q e1 af ag ah J aj al am an ab ac ad ae
  exact ⟨(by show b8 N ⟨U,hl',W,V,M,Z,K,L,X,Y,S,P,O⟩ ⟨⟨aa,I,ao,mn⟩,ms,v,w,ws⟩; constructor <;> dsimp only <;> omega),trivial⟩
 | ul =>
  simp only [cW,Cn.busy,Cn.zero] at f r u y e A C E G l o p q e1 af ag ah J aj al am an ab ac ad ae
  exact ⟨(by show b8 N ⟨U,hl',W,V,M,Z,K,L,X,Y,S,P,O⟩ ⟨⟨aa,I,ao,mn⟩,ms,v,w,ws⟩; constructor <;> dsimp only <;> omega),trivial⟩
 | uv =>
  simp only [cW,Cn.busy,Cn.zero] at f r u y e A C E G l o p q e1 af ag ah J aj al am an ab ac ad ae
  exact ⟨(by show b8 N ⟨U,hl',W,V,M,Z,K,L,X,Y,S,P,O⟩ ⟨⟨aa,I,ao,mn⟩,ms,v,w,ws⟩; constructor <;> dsimp only <;> omega),trivial⟩
 | ur =>
  simp only [cW,Cn.busy,Cn.zero] at f r u y e A C E G l o p q e1 af ag ah J aj al am an ab ac ad ae
  exact ⟨(by show b8 N ⟨U,hl',W,V,M,Z,K,L,X,Y,S,P,O⟩ ⟨⟨aa,I,ao,mn⟩,ms,v,w,ws⟩; constructor <;> dsimp only <;> omega),trivial⟩
 | ud =>
  simp only [cW,Cn.busy,Cn.zero] at f r u y e A C E G l o p q e1 af ag ah J aj al am an ab ac ad ae
  exact ⟨(by show b8 N ⟨U,hl',W,V,M,Z,K,L,X,Y,S,P,O⟩ ⟨⟨aa,I,ao,mn⟩,ms,v,w,ws⟩; constructor <;> dsimp only <;> omega),trivial⟩
 | Dl a b d =>
  simp only at a b d; subst a b d
  simp only [cW,Cn.busy,Cn.zero] at f r u y e A C E G l o p q e1 af ag ah J aj al am an ab ac ad ae
  exact ⟨(by show b8 N ⟨U,hl',W,V,M,Z,K,L,X,Y,S,P,O⟩ ⟨⟨0,0,0,0⟩,ms,v,w,ws⟩; constructor <;> dsimp only <;> omega),trivial⟩
 | lE a b =>
  simp only at a b; subst b
  by_cases aq:mn=0∨(0:Nat)=1∨I=1∨(0:Nat)=1
  ·have au:hu ⟨0,I,0,mn⟩ = .ue:=by simp only [hu,aq,if_true]
   simp only [au] at f r u y e A C E G l o p q
   simp only [cW,Cn.busy,Cn.zero] at f r u y e A C E G l o p q e1 af ag ah J aj al am an ab ac ad ae
   rw [au]
   exact ⟨(by show b8 N ⟨U,hl',W,V,M,Z,K,L,X,Y,S,P,O⟩ ⟨⟨0,I,0,mn⟩,ms,v,w,ws⟩; constructor <;> dsimp only <;> omega),trivial⟩
  ·have au:hu ⟨0,I,0,mn⟩ = .uc ⟨0,I,0,mn⟩:=by simp only [hu,aq,if_false]
   simp only [au] at f r u y e A C E G l o p q
   simp only [cW,Cn.busy,Cn.zero] at f r u y e A C E G l o p q e1 af ag ah J aj al am an ab ac ad ae
   rw [au]
   exact ⟨(by show b8 N ⟨U,hl',W,V,M,Z,K,L,X,Y,S,P,O⟩ ⟨⟨0,I,0,mn⟩,ms,v,w,ws⟩; constructor <;> dsimp only <;> omega),⟨by simp,av,by simp,ay⟩,rfl,by simp only; omega,rfl,by simp only; omega⟩
 | Dk a =>
  simp only at a; subst a
  simp only [cW,Cn.busy,Cn.zero] at f r u y e A C E G l o p q e1 af ag ah J aj al am an ab ac ad ae
  exact ⟨(by show b8 N ⟨U,hl',W,V,M,Z,K,L,X,Y,S,P,O⟩ ⟨⟨0,I,1,mn⟩,ms,v,w,ws⟩; constructor <;> dsimp only <;> omega),trivial⟩
 | Dm a =>
  cases a
  obtain ⟨⟨aC,aD,aE,aF⟩,t2,t3,t4,t5⟩:=ap
  simp only at t2 t3 t4 t5
  subst t2 t3 t4
  simp only [cW,Cn.busy,Cn.zero] at f r u y e A C E G l o p q e1 af ag ah J aj al am an ab ac ad ae
  exact ⟨(by show b8 N ⟨U,hl',W,V,M,Z,K,L,X,Y,S,P,O⟩ ⟨⟨0,1,0,mn - 1⟩,ms,v,w,ws⟩; constructor <;> dsimp only <;> omega),trivial⟩
 | xP a =>
  simp only [cW,Cn.busy,Cn.zero] at f r u y e A C E G l o p q e1 af ag ah J aj al am an ab ac ad ae
  exact ⟨(by show b8 N ⟨U,hl',W,V,M,Z,K,L,X,Y,S,P,O⟩ ⟨⟨aa,I,ao,mn⟩,ms,v,w,ws⟩; constructor <;> dsimp only <;> omega),trivial⟩
 | ux =>
  by_cases aq:mn=0∨aa=1∨I=1∨ao=1
  ·have au:hu ⟨aa,I,ao,mn⟩ = .ue:=by simp only [hu,aq,if_true]
   simp only [au] at f r u y e A C E G l o p q
   simp only [cW,Cn.busy,Cn.zero] at f r u y e A C E G l o p q e1 af ag ah J aj al am an ab ac ad ae
   rw [au]
   exact ⟨(by show b8 N ⟨U,hl',W,V,M,Z,K,L,X,Y,S,P,O⟩ ⟨⟨aa,I,ao,mn⟩,ms,v,w,ws⟩; constructor <;> dsimp only <;> omega),trivial⟩
  ·have au:hu ⟨aa,I,ao,mn⟩ = .uc ⟨aa,I,ao,mn⟩:=by simp only [hu,aq,if_false]
   simp only [au] at f r u y e A C E G l o p q
   simp only [cW,Cn.busy,Cn.zero] at f r u y e A C E G l o p q e1 af ag ah J aj al am an ab ac ad ae
   rw [au]
   exact ⟨(by show b8 N ⟨U,hl',W,V,M,Z,K,L,X,Y,S,P,O⟩ ⟨⟨aa,I,ao,mn⟩,ms,v,w,ws⟩; constructor <;> dsimp only <;> omega),⟨aA,av,aB,ay⟩,by simp only; omega,by simp only; omega,by simp only; omega,by simp only; omega⟩
 | us =>
  simp only [cW,Cn.busy,Cn.zero] at f r u y e A C E G l o p q e1 af ag ah J aj al am an ab ac ad ae
  exact ⟨(by show b8 N ⟨U,hl',W,V,M,Z,K,L,X,Y,S,P,O⟩ ⟨⟨aa,I,ao,mn⟩,ms+1,v,w,ws⟩; constructor <;> dsimp only <;> omega),trivial⟩
 | uj =>
  simp only [cW,Cn.busy,Cn.zero] at f r u y e A C E G l o p q e1 af ag ah J aj al am an ab ac ad ae
  exact ⟨(by show b8 N ⟨U,hl',W,V,M,Z,K,L,X,Y,S,P,O⟩ ⟨⟨aa,I,ao,mn⟩,ms,v,w,ws⟩; constructor <;> dsimp only <;> omega),trivial⟩
 | uk =>
  simp only [cW,Cn.busy,Cn.zero] at f r u y e A C E G l o p q e1 af ag ah J aj al am an ab ac ad ae
  exact ⟨(by show b8 N ⟨U,hl',W,V,M,Z,K,L,X,Y,S,P,O⟩ ⟨⟨aa,I,ao,mn⟩,ms,v,w,ws⟩; constructor <;> dsimp only <;> omega),trivial⟩
 | wv =>
  simp only [cW,Cn.busy,Cn.zero] at f r u y e A C E G l o p q e1 af ag ah J aj al am an ab ac ad ae
  exact ⟨(by show b8 N ⟨U,hl',W,V,M,Z,K,L,X,Y,S,P,O⟩ ⟨⟨aa,I,ao,mn⟩,ms,v,w,ws⟩; constructor <;> dsimp only <;> omega),trivial⟩
 | wr =>
  simp only [cW,Cn.busy,Cn.zero] at f r u y e A C E G l o p q e1 af ag ah J aj al am an ab ac ad ae
  exact ⟨(by show b8 N ⟨U,hl',W,V,M,Z,K,L,X,Y,S,P,O⟩ ⟨⟨aa,I,ao,mn⟩,ms,v,w,ws⟩; constructor <;> dsimp only <;> omega),trivial⟩
 | wk =>
  simp only [cW,Cn.busy,Cn.zero] at f r u y e A C E G l o p q e1 af ag ah J aj al am an ab ac ad ae
  exact ⟨(by show b8 N ⟨U,hl',W,V,M,Z,K,L,X,Y,S,P,O⟩ ⟨⟨aa,I,ao,mn⟩,ms,v,w,ws⟩; constructor <;> dsimp only <;> omega),trivial⟩
 | qd a =>
  simp only [cW,Cn.busy,Cn.zero] at f r u y e A C E G l o p q e1 af ag ah J aj al am an ab ac ad ae
  exact ⟨(by show b8 N ⟨U,hl',W,V,M,Z,K,L,X,Y,S,P,O⟩ ⟨⟨aa,I,ao,mn⟩,ms,v - 1,w,ws⟩; constructor <;> dsimp only <;> omega),trivial⟩
 | vr a b =>
  simp only [cW,Cn.busy,Cn.zero] at f r u y e A C E G l o p q e1 af ag ah J aj al am an ab ac ad ae
  exact ⟨(by show b8 N ⟨U,hl',W,V,M,Z,K,L,X,Y,S,P,O⟩ ⟨⟨aa,I,ao,mn⟩,ms,0,w,ws⟩; constructor <;> dsimp only <;> omega),trivial⟩
 | d2 =>
  simp only [cW,Cn.zero] at f r u y e A C E G l o p q e1 af ag ah J aj al am an ab ac ad ae
  exact ⟨(by show b8 N ⟨U,hl',W,V,M,Z,K,L,X,Y,S,P,O⟩ ⟨⟨aa,I,ao,mn⟩,ms,v,w,ws⟩; constructor <;> dsimp only <;> omega),trivial⟩
 | d3 =>
  simp only [cW,Cn.zero] at f r u y e A C E G l o p q e1 af ag ah J aj al am an ab ac ad ae
  exact ⟨(by show b8 N ⟨U,hl',W,V,M,Z,K,L,X,Y,S,P,O⟩ ⟨⟨aa,I,ao,mn⟩,ms,0,0,ws⟩; constructor <;> dsimp only <;> omega),trivial⟩
 | d4 =>
  simp only [cW,Cn.zero] at f r u y e A C E G l o p q e1 af ag ah J aj al am an ab ac ad ae
  exact ⟨(by show b8 N ⟨U,hl',W,V,M,Z,K,L,X,Y,S,P,O⟩ ⟨⟨aa,I,ao,mn⟩,ms,v,w,ws+1⟩; constructor <;> dsimp only <;> omega),trivial⟩
end
inductive Mp
 | ka (r:Nat) | kc (r:Nat) | kv (r:Nat) | kd (r:Nat) | ke (r:Nat) | go (r:Nat) | wa | w1 | w2 (v:Nat) | wV | wW | w3 | w4 | we | qv | wq | fin
def eZ:Nat→Mp
 | 0=>.wa
 | r+1=>.ka r
inductive dC:Mp→Sh→Mp→Sh→Prop
 | ka {s r}:dC (.ka r) s (.kc r) s
 | II {s r}:s.v=0→dC (.kc r) s (.kv r) { s with v:=1 }
 | kv {s r}:dC (.kv r) s (.kd r) s
 | IJ {s r}:s.v≠0→dC (.kc r) s (.ke r) { s with v:=s.v+1 }
 | kd {s r}:dC (.kd r) s (.ke r) s
 | ke {s r}:dC (.ke r) s (.go r) s
 | wa {s}:dC .wa s .w1 s
 | PU {s}:s.v=0→dC .w1 s .we s
 | Dy {s}:s.v≠0→dC .w1 s (.w2 s.v) s
 | DC {s}:dC (.w2 s.v) s .wV { s with w:=1 }
 | wV {s}:dC .wV s .wW s
 | Dz {s v}:s.v≠v→dC (.w2 v) s .w1 s
 | wW {s}:dC .wW s .w3 s
 | w3 {s m}:s.ws=m+1→dC .w3 s .w4 { s with ws:=m }
 | w4 {s}:dC .w4 s .we s
 | we {s}:dC .we s .qv s
 | qv {s}:dC .qv s .wq s
 | wq {s}:dC .wq s .fin s
def rem:Mp→Nat
 | .ka r | .kc r | .kv r | .kd r | .ke r | .go r=>r+1
 | _=>0
def Cn.eI(c:Cn):Nat:=c.wk+c.z+c.pc+c.a1+c.ak
def e6(c:Cn)(s:Sh):Mp→Prop
 | .ka _ | .kc _ | .wa | .w1=>s.v=c.lv∧s.w=0∧s.ws=0∧c.dw=0∧c.d4=0
 | .w2 v=>s.v=c.lv∧s.w=0∧s.ws=0∧c.dw=0∧c.d4=0∧v≠0
 | .kv _ | .kd _ | .ke _ | .go _=>s.v=c.lv+1∧s.w=0∧s.ws=0∧c.dw=0∧c.d4=0
 | .wV | .wW | .w3=>(s.w=1∧s.ws=0∧c.d4=0∧s.v=c.lv∧((s.v=0∧c.dw=1)∨(1≤s.v∧c.dw=0)))∨(s.w=0∧s.v=0∧c.lv=0∧c.dw=0∧c.d4+s.ws=1)
 | _=>s.v=0∧s.w=0∧s.ws=0∧c.lv=0∧c.dw=0∧c.d4=0
structure gA (N:Nat) (T0:Mp) (c:Cn) (s:Sh):Prop where
 wg:e6 c s T0
 eq:c.lv+c.dw+c.d4=c.eI
 le:c.eI+rem T0≤N
def okW(N:Nat):Lp→Sh→Prop
 | .d1,s=>1≤s.v∧s.v≤N∧s.w≤1
 | .d2,s=>s.v=0∧s.w=1
 | .d4,s=>s.ws=0
 | _,_=>True
def gK(N:Nat):Mp→Sh→Prop
 | .kc _,s=>s.w=0∧s.v+1≤N
 | .w1,s=>s.w=0∧s.v≤N
 | .w2 v,s=>s.w=0∧s.v≤N∧v≠0
 | .w4,s=>s.v=0∧s.w=0
 | .w3,s=>s.ws≤1
 | _,_=>True
section
variable {N:Nat} {c c':Cn} {s s':Sh} {T T':Lp} {T0 ep:Mp}
theorem vm(T:Lp):(cW T).lv+(cW T).dw+(cW T).d4=(cW T).eI:=by
 cases T <;> simp [cW,Cn.busy,Cn.zero,Cn.eI]
 case a1 b=>cases b <;> simp
theorem Cn.lQ.eI{x y:Cn}(h:c.lQ x y c'):c'.eI+x.eI=c.eI+y.eI:=by
 have:=h.wk; have:=h.z; have:=h.pc; have:=h.a1; have:=h.ak
 unfold Cn.eI; omega
theorem gA.okW(h:gA N T0 c s)(hle:(cW T).Le c):okW N T s:=by
 obtain ⟨h1,h2,h3⟩:=h
 have e1:=hle.lv
 have a:=hle.dw
 have b:=hle.d4
 cases T <;> simp only [cW,Cn.busy,Cn.zero] at e1 a b <;> first | trivial | skip
 all_goals
  show _
  cases T0 <;> simp only [e6,rem] at h1 h3 <;> simp only [Go.Lg.okW] <;> omega
theorem gA.gK(h:gA N T0 c s):gK N T0 s:=by
 obtain ⟨h1,h2,h3⟩:=h
 cases T0 <;> simp only [e6,rem] at h1 h3 <;> simp only [Go.Lg.gK] <;> omega
set_option maxHeartbeats 2000000 in
theorem gA.step(h:gA N T0 c s)(hle:(cW T).Le c)(I:ca T s T' s')(p:c.lQ (cW T) (cW T') c'):gA N T0 c' s':=by
 obtain ⟨h1,h2,h3⟩:=h
 have E:=vm T
 have G:=vm T'
 have q:=p.eI
 have z:=p.lv
 have A:=p.dw
 have C:=p.d4
 have e1:=hle.lv
 have u:=hle.dw
 have y:=hle.d4
 have same:(cW T').lv=(cW T).lv→(cW T').dw=(cW T).dw→(cW T').d4=(cW T).d4→s'.v=s.v→s'.w=s.w→s'.ws=s.ws→gA N T0 c' s':=by
  intro a1 e o f d l
  refine ⟨?_,by omega,by omega⟩
  cases T0 <;> simp only [e6,f,d,l] at h1 ⊢ <;> omega
 cases I
 case qd a =>
  refine ⟨?_,by omega,by simp only [cW,Cn.busy,Cn.zero,Cn.eI] at q; unfold Cn.eI at h3 ⊢; omega⟩
  simp only [cW,Cn.busy,Cn.zero] at z A C e1 u y
  clear E G q h2 h3 same p hle
  have wt:e6 c s .w3→e6 c' { s with v:=s.v - 1 } .w3:=λ h=>by
   simp only [e6] at h ⊢
   rcases h with ⟨a1,e,o,f,d⟩ | ⟨a1,e,o,f,d⟩
   ·rcases d with ⟨d,l⟩ | ⟨d,l⟩ <;> first | omega | (refine .inl ⟨a1,e,by omega,by omega,.inr ⟨by omega,by omega⟩⟩)
   ·first | omega | (omega)
  cases T0 <;> first | exact wt h1 | (simp only [e6] at h1 ⊢; omega)
 case vr a b =>
  refine ⟨?_,by omega,by simp only [cW,Cn.busy,Cn.zero,Cn.eI] at q; unfold Cn.eI at h3 ⊢; omega⟩
  simp only [cW,Cn.busy,Cn.zero] at z A C e1 u y
  clear E G q h2 h3 same p hle
  have wt:e6 c s .w3→e6 c' { s with v:=0 } .w3:=λ h=>by
   simp only [e6] at h ⊢
   rcases h with ⟨a1,e,o,f,d⟩ | ⟨a1,e,o,f,d⟩
   ·rcases d with ⟨d,l⟩ | ⟨d,l⟩ <;> first | omega | (exact .inl ⟨a1,e,by omega,by omega,.inl ⟨trivial,by omega⟩⟩)
   ·first | omega | (omega)
  cases T0 <;> first | exact wt h1 | (simp only [e6] at h1 ⊢; omega)
 case d3 =>
  refine ⟨?_,by omega,by simp only [cW,Cn.zero,Cn.eI] at q; unfold Cn.eI at h3 ⊢; omega⟩
  simp only [cW,Cn.zero] at z A C e1 u y
  clear E G q h2 h3 same p hle
  have wt:e6 c s .w3→e6 c' { s with v:=0,w:=0 } .w3:=λ h=>by
   simp only [e6] at h ⊢
   rcases h with ⟨a1,e,o,f,d⟩ | ⟨a1,e,o,f,d⟩
   ·rcases d with ⟨d,l⟩ | ⟨d,l⟩ <;> first | omega | (exact .inr ⟨trivial,trivial,by omega,by omega,by omega⟩)
   ·first | omega | (omega)
  cases T0 <;> first | exact wt h1 | (simp only [e6] at h1 ⊢; omega)
 case d4 =>
  refine ⟨?_,by omega,by simp only [cW,Cn.zero,Cn.eI] at q; unfold Cn.eI at h3 ⊢; omega⟩
  simp only [cW,Cn.zero] at z A C e1 u y
  clear E G q h2 h3 same p hle
  have wt:e6 c s .w3→e6 c' { s with ws:=s.ws+1 } .w3:=λ h=>by
   simp only [e6] at h ⊢
   rcases h with ⟨a1,e,o,f,d⟩ | ⟨a1,e,o,f,d⟩
   ·rcases d with ⟨d,l⟩ | ⟨d,l⟩ <;> first | omega | (omega)
   ·first | omega | (exact .inr ⟨a1,e,by omega,by omega,by omega⟩)
  cases T0 <;> first | exact wt h1 | (simp only [e6] at h1 ⊢; omega)
 case r0=>refine same ?_ ?_ ?_ rfl rfl rfl <;> simp only [iB] <;> rfl
 case r1=>refine same ?_ ?_ ?_ rfl rfl rfl <;> simp only [iB] <;> rfl
 case r3=>refine same ?_ ?_ ?_ rfl rfl rfl <;> simp only [iB] <;> rfl
 case ln=>refine same ?_ ?_ ?_ rfl rfl rfl <;> simp only [iB] <;> rfl
 case lC=>refine same ?_ ?_ ?_ rfl rfl rfl <;> simp only [vn] <;> rfl
 case kB r hm J=>refine same ?_ ?_ ?_ rfl rfl rfl <;> cases r.ws <;> rfl
 case s1 r m hm=>refine same ?_ ?_ ?_ rfl rfl rfl <;> cases r.sv <;> rfl
 case re r hm=>refine same ?_ ?_ ?_ rfl rfl rfl <;> cases (r.sv && s.mu.n != 1) <;> rfl
 case a1 b=>refine same ?_ ?_ ?_ rfl rfl rfl <;> cases b <;> rfl
 case lE a b=>refine same ?_ ?_ ?_ rfl rfl rfl <;> simp only [hu] <;> split <;> rfl
 case ux=>refine same ?_ ?_ ?_ rfl rfl rfl <;> simp only [hu] <;> split <;> rfl
 all_goals exact same rfl rfl rfl rfl rfl rfl
theorem gA.main(h:gA N T0 c s)(e:dC T0 s ep s'):gA N ep c s':=by
 obtain ⟨h1,h2,h3⟩:=h
 cases e
 case DC =>
  obtain ⟨a1,f,a,b,d,l⟩:=h1
  exact ⟨.inl ⟨rfl,a,d,a1,.inr ⟨by dsimp only; omega,b⟩⟩,h2,by simp only [rem] at h3 ⊢; omega⟩
 case wV=>exact ⟨h1,h2,h3⟩
 case wW=>exact ⟨h1,h2,h3⟩
 all_goals refine ⟨?_,h2,?_⟩ <;> simp only [e6,rem] at h1 h3 ⊢ <;> omega
theorem b8.main(h:b8 N c s)(f:dC T0 s ep s'):b8 N c s':=by
 obtain ⟨h1,h2,h3,h4,h5,h6,d,e,a,b⟩:=h
 cases f <;> exact ⟨h1,h2,h3,h4,h5,h6,d,e,a,b⟩
theorem gA.spawn{r:Nat}(h:gA N (.go r) c s)(a:c.lQ Cn.zero (cW .ld) c'):gA N (eZ r) c' s:=by
 obtain ⟨h1,h2,h3⟩:=h
 have f:=vm .ld
 have l:=a.eI
 have b:=a.lv
 have d:=a.dw
 have e:=a.d4
 cases r <;> refine ⟨?_,?_,?_⟩ <;> simp only [e6,rem,eZ,cW,Cn.busy,Cn.zero,Cn.eI] at * <;> omega
theorem b8.spawn{r:Nat}(h:b8 N c s)(b:gA N (.go r) c s)(a:c.lQ Cn.zero (cW .ld) c'):b8 N c' s:=by
 have hle:=b.le
 obtain ⟨h1,h2,h3,h4,h5,h6,I,J,E,G⟩:=h
 obtain ⟨d,p,q,u,v,y,z,A,C,e,f,l,o⟩:=a
 simp only [cW,Cn.busy,Cn.zero,Cn.eI,rem] at *
 constructor <;> omega
end
def eb:Lp→Nat
 | .ld | .l0 | .r0=>9
 | .sq c | .c1 c | .r1 c | .c2 c | .r3 c=>if c.aw then 8 else 9
 | .t1 _ | .s1 _=>6
 | .t2 _ | .r2 _ | .a1 _=>8
 | .le | .lc | .la | .ul _ | .uv _ | .ur _=>5
 | .ud | .u0=>16
 | .uc _ | .ux=>15
 | .us=>14
 | .ue=>10
 | .wv | .wr | .wk | .d1=>8
 | .d2 | .d3=>6
 | .d4=>5
 | .quit=>0
def eU(m:Wd):Lp→Nat
 | .ld=>31
 | .l0=>30
 | .r0=>29
 | .sq c=>(4 - c.it) * 5+(if c.old=m then 0 else 5)+3
 | .c1 c=>(4 - c.it) * 5+(if c.old=m then 0 else 5)+2
 | .r1 c=>(4 - c.it) * 5+1
 | .c2 c=>(4 - c.it) * 5+(if c.old=m then 0 else 5)+1
 | .r3 c=>(4 - c.it) * 5+5
 | .t1 _=>2
 | .s1 _=>1
 | .t2 _=>25
 | .r2 _=>24
 | .le=>5
 | .lc=>4
 | .la=>3
 | .ul _=>2
 | .uv _=>1
 | .ud=>1
 | .uc o=>if o=m then 0 else 3
 | .ux=>2
 | .wv=>3
 | .wr=>2
 | .wk=>1
 | .d2=>1
 | _=>0
def dH:Lp→Bool
 | .ur _=>true
 | _=>false
theorem Oz(m:Wd)(T:Lp):eU m T≤31:=by
 cases T <;> simp only [eU] <;> (try split) <;> omega
theorem tZ(c:Lc):eb (hd c)=if c.aw then 8 else 9:=by unfold hd; split <;> rfl
theorem tT{c:Lc}{m:Wd}(h:c.old=m):eU m (hd c)≤(4 - c.it) * 5+3:=by unfold hd; split <;> simp only [eU,h,if_true] <;> omega
theorem ca.sG{N:Nat}{s s':Sh}{T T':Lp}(d:hL N T)(e:ca T s T' s') :
  eb T'+3 * s'.ms+3 * s'.ws < eb T+3 * s.ms+3 * s.ws+(if dH T then 20 else 0) ∨
  (eb T'+3 * s'.ms+3 * s'.ws=eb T+3 * s.ms+3 * s.ws∧dH T=false∧s'.mu=s.mu∧s'.v=s.v∧eU s.mu T' < eU s.mu T):=by
 cases e
 case r0=>right; have:=tT (c:=⟨s.mu,false,false,0,false⟩) (m:=s.mu) rfl; rw [tZ]; generalize eU s.mu (hd _)=x at this ⊢; exact ⟨rfl,rfl,rfl,rfl,by simp only [eU]; simp only at this; omega⟩
 case tX c=>right; simp [eb,eU,dH]
 case lC c h=>right; unfold ey; split <;> simp [eb,eU,dH]; omega
 case u5 c h=>left; obtain ⟨_,_,_,t4,_⟩:=d; simp [eb,t4,dH]
 case u4 c h=>right; simp [eb,eU,dH,Ne.symm h]
 case r1 c =>
  right; obtain ⟨_,t2,_⟩:=d
  have:=tT (c:={ c with old:=s.mu,it:=c.it+1 }) (m:=s.mu) rfl
  rw [tZ]; generalize eU s.mu (hd _)=x at this ⊢; exact ⟨rfl,rfl,rfl,rfl,by simp only [eU]; simp only at this; omega⟩
 case vc c h _ _=>left; simp only [eb,dH]; split <;> simp
 case kB c h _=>left; simp only [dH]; cases c.ws <;> cases hb:c.aw <;> simp [eb,hb]
 case vd c h=>right; simp [eb,eU,dH,Ne.symm h]
 case r3 c =>
  right
  have:=tT (c:={ c with old:=s.mu }) (m:=s.mu) rfl
  rw [tZ]; generalize eU s.mu (hd _)=x at this ⊢; exact ⟨rfl,rfl,rfl,rfl,by simp only [eU]; simp only at this; omega⟩
 case t1 c b=>right; simp [eb,eU,dH]
 case s1 c m h=>left; cases c.sv <;> simp [eb,dH,h] <;> omega
 case t2 c b=>right; simp [eb,eU,dH]
 case re c h=>right; simp [eb,eU,dH]
 case ln c h =>
  right
  have:=tT (c:={ c with old:=s.mu,aw:=true,it:=0 }) (m:=s.mu) rfl
  rw [tZ]; generalize eU s.mu (hd _)=x at this ⊢; exact ⟨rfl,rfl,rfl,rfl,by simp only [eU]; simp only at this; omega⟩
 case lE a b=>left; unfold hu; split <;> simp [eb,dH]
 case xP m h=>right; simp [eb,eU,dH,Ne.symm h]
 case ux=>unfold hu; split <;> simp [eb,eU,dH]
 case us=>left; simp [eb,dH]; omega
 case d4=>left; simp [eb,dH]; omega
 case ur=>left; simp [eb,dH]; omega
 all_goals simp [eb,eU,dH]
def stM(J:Nat):Mp→Nat
 | .ka r | .kc r=>(r+1) * (20 * J+20)+15
 | .kv r | .kd r | .ke r | .go r=>(r+1) * (20 * J+20)+14
 | .wa | .w1 | .w2 _=>10
 | .wV | .wW | .w3=>8
 | .w4 | .we | .qv | .wq=>6
 | .fin=>0
def mJ(v:Nat):Mp→Nat
 | .ka _=>1
 | .kv _=>3
 | .kd _=>2
 | .ke _=>1
 | .wa=>6
 | .w1=>4
 | .w2 u=>if u=v then 1 else 5
 | .wV=>2
 | .wW=>1
 | .w4=>3
 | .we=>2
 | .qv=>1
 | _=>0
theorem Oy(v:Nat)(T:Mp):mJ v T≤31:=by
 cases T <;> simp only [mJ] <;> (try split) <;> omega
theorem dC.sG{J:Nat}{s s':Sh}{T T':Mp}(a:dC T s T' s') :
  stM J T'+3 * s'.ms+3 * s'.ws < stM J T+3 * s.ms+3 * s.ws ∨
  (stM J T'+3 * s'.ms+3 * s'.ws=stM J T+3 * s.ms+3 * s.ws∧s'.mu=s.mu∧s'.v=s.v∧mJ s.v T' < mJ s.v T):=by
 cases a
 case Dy h=>right; simp [stM,mJ]
 case Dz v h=>right; simp [stM,mJ,Ne.symm h]
 case w3 m h=>left; simp [stM,h]; omega
 all_goals simp [stM,mJ]
theorem Pa(J r:Nat):stM J (eZ r)+(20 * J+eb .ld) < stM J (.go r):=by
 cases r with
 | zero=>simp [eZ,stM,eb]; omega
 | succ r=>simp only [eZ,stM,eb,Nat.add_mul]; omega
open Go.Conc Go.ConcN
def mX(P:Program)(K:Goroutine→Prop):Nat→Goroutine→Prop
 | 0,g=>K g
 | n+1,g=>K g∨(g.status = .running∧∃ g',(∀ w,stepG P false g w = .go g' w #[])∧mX P K n g')
structure Fx where
 P:Program
 B:Base
 bm:Nat
 bw:Nat
 bo:Nat
 tm:TypeId
 tw:TypeId
 N:Nat
 J:Nat
 cont:(Nat→Nat)→Obj
 ho:bm≠bw∧bm≠bo∧bw≠bo
 hJ:0 < J
 hN:N≤4
 mj:ax→ai→Goroutine→Prop
def g3(tm:TypeId)(s:Sh):Obj:=.cells #[.int .i32 s.mu.val,.int .u32 (s.ms:Int)] tm (0,0)
def lG(s:Sh):Int:=4294967296 * s.v+s.w
def g9(tw:TypeId)(s:Sh):Obj:=.cells #[.int .u64 (lG s),.int .u32 (s.ws:Int)] tw (0,0)
variable (F:Fx)
structure cX (s:Sh) (w:World):Prop where
 m:w.heap[F.bm]? = some (g3 F.tm s)
 g:w.heap[F.bw]? = some (g9 F.tw s)
structure bG (s':Sh) (w w':World):Prop where
 size:w'.heap.size=w.heap.size
 same:∀ b,b≠F.bm→b≠F.bw→w'.heap[b]? = w.heap[b]?
 sh:cX F s' w'
 os:F.B.os w.os→F.B.os w'.os
 tape:w'.tape=w.tape
 out:w'.output=w.output
def am:Addr:=⟨F.bm,0,none⟩
def aw:Addr:=⟨F.bw,0,none⟩
def hV:Addr:=⟨F.bw,1,none⟩
def hf(es:Array Event):Prop:=(∀ e∈es,∃ a wr,e=⟨.cell a,wr,true⟩∧(a.block=F.bm∨a.block=F.bw))∨∃ a,(a.block=F.bm∨a.block=F.bw)∧es=semEvents a
def said(m:Mark):Array Event:=#[⟨.mark m,false,true⟩]
def oA:Lp→Array Event→Prop
 | .ld,es | .ud,es | .wk,es=>es=said .disable
 | .le,es | .ue,es=>es=said .enable
 | .la,es=>es=said (.acquire (am F))
 | .ur _,es=>es=said (.releaseMerge (am F))
 | .wr,es=>es=said (.releaseMerge (aw F))
 | _,es=>hf F es
def m8:Mp→Array Event→Prop
 | .ka _,es | .wa,es=>es=said .disable
 | .ke _,es | .we,es=>es=said .enable
 | .kd _,es=>es=said (.read (hV F))
 | .wW,es=>es=said (.write (hV F))
 | .wq,es=>es=said (.acquire (aw F))
 | _,es=>hf F es
def eS:Lp→Bool
 | .wk | .d1 | .d2 | .d3 | .d4=>true
 | _=>false
def lF(j:Nat):Lp→Lp→Prop
 | .ue,.ld=>j < F.J
 | .ue,.wv=>j=F.J
 | _,_=>True
def kx(K:Nat→Lp→ax→ai→Goroutine→Prop)(k j:Nat)(T T':Lp)(R:ax)(H:ai)(g':Goroutine):Prop :=
 match T' with
 | .quit=>∃ q,QuitsD F.P q 1 g'
 | .ul _=>∀ js,js k=j→Own F.P F.B false (K j (.ul js)) R ((F.bo,F.cont js)::H) g'
 | .ud=>∃ js H',T = .ur js∧H=(F.bo,F.cont (dx js k (j+1)))::H'∧Own F.P F.B false (K (j+1) .ud) R H' g'
 | T'=>if eS T' then ∃ q,mX F.P (K j T' R H) q g' else Own F.P F.B false (K j T') R H g'
def KW:Nat→Nat→Nat→Lp→ax→ai→Goroutine→Prop
 | 0,_,_,_,_,_,_=>True
 | n+1,k,j,T,R,H,g=>hL F.N T→g.status = .running∧g.offers=none∧((T = .us∨T = .d4)→mayWake F.P g=true) ∧
   ∀ w s,Fits F.B R H w→cX F s w→nY F.N T s→okW F.N T s →
    ((∃ c,T = .s1 c)∧s.ms=0∧stepG F.P false g w = .go { g with status:=.blocked } w #[]) ∨
    ∃ g' w' es T' s',ca T s T' s'∧lF F j T T'∧oA F T es∧stepG F.P false g w = .go g' w' es∧bG F s' w w' ∧
     kx F (KW n k) k j T T' R H g'
def KM:Nat→Mp→ax→ai→Goroutine→Prop
 | 0,_,_,_,_=>True
 | n+1,T,R,H,g=>g.status = .running∧g.offers=none ∧
   ∀ w s,Fits F.B R H w→cX F s w→gK F.N T s →
    match T with
    | .go r=>∃ g' child,stepG F.P true g w = .spawn g' child w #[]∧Own F.P F.B false (KW F n (F.N - (r+1)) 0 .ld) R [] child∧Own F.P F.B true (KM n (eZ r)) R H g'
    | .wq=>∃ g' w',stepG F.P true g w = .go g' w' (said (.acquire (aw F)))∧bG F s w w'∧∀ js,(∀ k,k < F.N→js k=F.J)→F.mj R ((F.bo,F.cont js)::H) g'
    | T=>(T = .w3∧s.ws=0∧stepG F.P true g w = .go { g with status:=.blocked } w #[]) ∨
     ∃ g' w' es T' s',dC T s T' s'∧m8 F T es∧stepG F.P true g w = .go g' w' es∧bG F s' w w'∧Own F.P F.B true (KM n T') R H g'
inductive Ab
 | no
 | wk (k j:Nat) (T:Lp)
 | mn (T:Mp)
def cA:Ab→Cn
 | .wk _ _ T=>cW T
 | _=>.zero
def cP:Ab→Nat
 | .no=>0
 | .wk _ j T=>20 * (F.J - j)+eb T
 | .mn T=>stM F.J T
def gw(s:Sh):Ab→Nat
 | .no=>0
 | .wk _ _ T=>eU s.mu T
 | .mn T=>mJ s.v T
def gC:Lp→Nat
 | .ld | .lc | .la | .ul _ | .uv _ | .ur _ | .ud | .wv | .wr | .wk=>0
 | _=>1
def gU:Mp→Nat
 | .ka _ | .go _ | .wa | .qv | .wq | .fin=>0
 | _=>1
def cnt(D:Nat→Ab)(n:Nat):Cn where
 ow:=b4 n λ i=>(cA (D i)).ow
 hl:=b4 n λ i=>(cA (D i)).hl
 pu:=b4 n λ i=>(cA (D i)).pu
 pc:=b4 n λ i=>(cA (D i)).pc
 al:=b4 n λ i=>(cA (D i)).al
 z:=b4 n λ i=>(cA (D i)).z
 a1:=b4 n λ i=>(cA (D i)).a1
 ak:=b4 n λ i=>(cA (D i)).ak
 ux:=b4 n λ i=>(cA (D i)).ux
 wk:=b4 n λ i=>(cA (D i)).wk
 lv:=b4 n λ i=>(cA (D i)).lv
 dw:=b4 n λ i=>(cA (D i)).dw
 d4:=b4 n λ i=>(cA (D i)).d4
def bI(D:Nat→Ab)(i:Nat)(x:Ab):Nat→Ab:=λ j=>if j=i then x else D j
def fL(D:Nat→Ms)(i:Nat)(x:Ms):Nat→Ms:=λ j=>if j=i then x else D j
def MM(Q:Nat)(D:Nat→Ab)(s:Sh)(n:Nat):Nat:=(b4 n (λ i=>cP F (D i))+3 * s.ms+3 * s.ws) * Q+b4 n (λ i=>gw s (D i))
def nX(j:Nat):Lp→Prop
 | .ud | .u0 | .uc _ | .ux | .us | .ue=>j≤F.J
 | .wv | .wr | .wk | .d1 | .d2 | .d3 | .d4=>j=F.J
 | .quit=>False
 | _=>j < F.J
def mA(js:Nat→Nat):Lp→Prop
 | .ul j | .uv j | .ur j=>j=js
 | _=>True
def dG(s:Sh)(js:Nat→Nat)(hl:Nat):ai:=(F.bm,g3 F.tm s)::(F.bw,g9 F.tw s)::(if hl=0 then [(F.bo,F.cont js)] else [])
def hA(hl:Nat):Option Nat:=if hl=0 then some F.bo else none
def pK(K:Goroutine→Prop)(z:Prop)(g:Goroutine):Prop:=∃ a,K a∧a.status = .running∧a.offers=none∧(g=a∨(g={ a with status:=.blocked }∧z))
def hg(b:Nat)(s:Sh)(i:Nat)(m:Ms)(x:Option Th)(mu:Bool)(d:Nat)(g:Goroutine):Ab→Prop
 | .no=>x=none∧0 < i∧∃ q,m=some (ih q)∧QuitsD F.P q d g
 | .wk k j T=>0 < i∧d=gC T∧mu=eS T∧∃ y n,x=some y∧b≤n ∧
   if eS T then ∃ q,m=some (ih q)∧mX F.P (KW F n k j T y.R y.H) q g
   else (∃ a,m=some a∧mV F.P F.B false (KW F n k j T) a y.R y.H g)∨(m=none∧(∃ c,T = .s1 c)∧pK (KW F n k j T y.R y.H) (s.ms=0) g)
 | .mn T=>i=0∧d=gU T∧mu=false∧∃ y n,x=some y∧b≤n ∧
   ((∃ a,m=some a∧mV F.P F.B true (KM F n T) a y.R y.H g)∨(m=none∧T = .w3∧pK (KM F n T y.R y.H) (s.ws=0) g))
structure Bk (Q:Nat) (T0:Mp) (D:Nat→Ab) (js:Nat→Nat) (s:Sh) (n:Nat):Prop where
 d0:D 0 = .mn T0
 nf:T0 ≠ .fin
 pos:0 < n
 out:∀ i,n≤i→D i = .no
 main:∀ i T,D i = .mn T→i=0
 iz:b8 F.N (cnt D n) s
 aig:gA F.N T0 (cnt D n) s
 fX:∀ i k j T,D i = .wk k j T→hL F.N T∧nX F j T∧mA js T∧js k=j∧k+rem T0 < F.N
 hK:∀ i i' k j j' T T',D i = .wk k j T→D i' = .wk k j' T'→i=i'
 done:∀ k,k+rem T0 < F.N→js k=F.J∨∃ i j T,D i = .wk k j T
 tF:∀ k,F.N≤k+rem T0→js k=0
 pZ:31 * (n+rem T0) < Q
structure MI (Q:Nat) (T0:Mp) (D:Nat→Ab) (m:Nat→Ms) (js:Nat→Nat) (s:Sh) (th:Nat→Option Th) (mu:Nat→Bool) (dd:Nat→Nat) (gs:Array Goroutine) (w:World) (t:Trace):Prop where
 mem:cR F.B th (dG F s js (cnt D gs.size).hl) w
 tr:bX (some (am F)) (some (aw F)) th mu dd [F.bm,F.bw] (hA F (cnt D gs.size).hl) w.heap.size t
 ko:∀ i g,gs[i]? = some g→hg F (MM F Q D s gs.size) s i (m i) (th i) (mu i) (dd i) g (D i)
 out:∀ i,gs.size≤i→th i=none∧mu i=false∧dd i=0
 bk:Bk F Q T0 D js s gs.size
end Go.Lg
namespace Go.Lg
open Go.Conc Go.ConcN
theorem eJ(D:Nat→Ab)(i:Nat)(x:Ab):bI D i x i=x:=by simp [bI]
theorem cZ{D:Nat→Ab}{i j:Nat}{x:Ab}(h:j≠i):bI D i x j=D j:=by simp [bI,h]
theorem ru(D:Nat→Ms)(i:Nat)(x:Ms):fL D i x i=x:=by simp [fL]
theorem pB{D:Nat→Ms}{i j:Nat}{x:Ms}(h:j≠i):fL D i x j=D j:=by simp [fL,h]
theorem n8{th:Nat→Option Th}{i:Nat}{x:Option Th}(h:th i=x):dm th i x=th:=by
 funext j; unfold dm; split
 ·rename_i e; subst e; exact h.symm
 ·rfl
theorem xL{f:Nat→Nat}{i:Nat}:∀ {n:Nat},i < n→f i≤b4 n f
 | n+1,h=>by
  simp only [b4]
  rcases Nat.lt_or_ge i n with a | b
  ·have:=xL (f:=f) a; omega
  ·obtain rfl:i=n:=by omega
   omega
theorem uh{f:Nat→Nat}{b:Nat}(h:∀ i,f i≤b):∀ n,b4 n f≤b * n
 | 0=>by simp [b4]
 | n+1=>by have:=uh h n; have:=h n; simp only [b4,Nat.mul_succ]; omega
theorem jS{D:Nat→Ab}{i n:Nat}(hi:i < n)(x:Ab):(cnt D n).lQ (cA (D i)) (cA x) (cnt (bI D i x) n):=by
 have key:∀ f:Cn→Nat,b4 n (λ j=>f (cA (bI D i x j)))+f (cA (D i))=b4 n (λ j=>f (cA (D j)))+f (cA x):=λ f=>by
  have:=n5 (f:=λ j=>f (cA (D j))) (g:=λ j=>f (cA (bI D i x j))) hi (λ k a=>by simp only [cZ a])
  simpa only [eJ] using this
 exact ⟨key _,key _,key _,key _,key _,key _,key _,key _,key _,key _,key _,key _,key _⟩
theorem oq{D:Nat→Ab}{i n:Nat}(hi:i < n):(cA (D i)).Le (cnt D n):=by
 have key:∀ f:Cn→Nat,f (cA (D i))≤b4 n (λ j=>f (cA (D j))):=λ f=>xL (f:=λ j=>f (cA (D j))) hi
 exact ⟨key _,key _,key _,key _,key _,key _,key _,key _,key _,key _,key _,key _,key _⟩
theorem zn{D:Nat→Ab}{n:Nat}(l:0 < n)(x:Ab)(y:Ab)(d:cA x = .zero)(a:cA (D 0) = .zero):(cnt D n).lQ .zero (cA y) (cnt (bI (bI D n y) 0 x) (n+1)):=by
 have key:∀ f:Cn→Nat,f .zero=0→b4 (n+1) (λ j=>f (cA (bI (bI D n y) 0 x j)))+f .zero=b4 n (λ j=>f (cA (D j)))+f (cA y):=λ f b=>by
  simp only [b4]
  rw [cZ (show n≠0 by omega),eJ,b]
  have:b4 n (λ j=>f (cA (bI (bI D n y) 0 x j)))=b4 n (λ j=>f (cA (D j))):=rp λ j e=>by
   by_cases h:j=0
   ·subst h; rw [eJ,d,a]
   ·rw [cZ h,cZ (by omega)]
  omega
 exact ⟨key _ rfl,key _ rfl,key _ rfl,key _ rfl,key _ rfl,key _ rfl,key _ rfl,key _ rfl,key _ rfl,key _ rfl,key _ rfl,key _ rfl,key _ rfl⟩
section
variable {F:Fx} {D:Nat→Ab} {s s':Sh} {n i Q:Nat} {x:Ab}
theorem CF(s:Sh)(a:Ab):gw s a≤31:=by
 cases a
 ·exact Nat.zero_le _
 ·exact Oz _ _
 ·exact Oy _ _
theorem rz(hi:i < n)(p:31 * n < Q)
  (h:cP F x+3 * s'.ms+3 * s'.ws < cP F (D i)+3 * s.ms+3 * s.ws∨(cP F x+3 * s'.ms+3 * s'.ws=cP F (D i)+3 * s.ms+3 * s.ws∧s'.mu=s.mu∧s'.v=s.v∧gw s x < gw s (D i))) :
  MM F Q (bI D i x) s' n < MM F Q D s n:=by
 have h1:=n5 (f:=λ j=>cP F (D j)) (g:=λ j=>cP F (bI D i x j)) hi (λ k b=>by simp only [cZ b])
 simp only [eJ] at h1
 unfold MM
 rcases h with h | ⟨h,hm,o,q⟩
 ·have h2:b4 n (λ j=>gw s' (bI D i x j))≤31 * n:=uh (λ j=>CF s' _) n
  generalize b4 n (λ j=>cP F (bI D i x j))=d at *
  generalize b4 n (λ j=>cP F (D j))=a at *
  generalize b4 n (λ j=>gw s' (bI D i x j))=r' at *
  have h3:d+3 * s'.ms+3 * s'.ws+1≤a+3 * s.ms+3 * s.ws:=by omega
  have h4:=Nat.mul_le_mul_right Q h3
  rw [Nat.add_mul _ 1 Q,Nat.one_mul] at h4
  omega
 ·have er:∀ a,gw s' a=gw s a:=λ a=>by cases a <;> simp [gw,hm,o]
  have h2:=n5 (f:=λ j=>gw s (D j)) (g:=λ j=>gw s (bI D i x j)) hi (λ k b=>by simp only [cZ b])
  simp only [eJ] at h2
  have e:(λ j=>gw s' (bI D i x j))=λ j=>gw s (bI D i x j):=by funext j; exact er _
  rw [e]
  have l:b4 n (λ j=>cP F (bI D i x j))+3 * s'.ms+3 * s'.ws=b4 n (λ j=>cP F (D j))+3 * s.ms+3 * s.ws:=by omega
  rw [l]
  omega
theorem D1{y:Ab}(l:0 < n)(o:31 * (n+1) < Q)(h:cP F x+cP F y < cP F (D 0)):MM F Q (bI (bI D n y) 0 x) s (n+1) < MM F Q D s n:=by
 have h1:=n5 (f:=λ k=>cP F (D k)) (g:=λ k=>cP F (bI D 0 x k)) l (λ k d=>by simp only [cZ d])
 have h2:b4 (n+1) (λ k=>cP F (bI (bI D n y) 0 x k))=b4 n (λ k=>cP F (bI D 0 x k))+cP F y:=by
  simp only [b4]
  rw [cZ (show n≠0 by omega),eJ]
  congr 1
  exact rp λ k d=>by
   by_cases b:k=0
   ·subst b; rw [eJ,eJ]
   ·rw [cZ b,cZ b,cZ (by omega)]
 simp only [eJ] at h1
 have h3:b4 (n+1) (λ j=>gw s (bI (bI D n y) 0 x j))≤31 * (n+1):=uh (λ j=>CF s _) _
 unfold MM
 rw [h2]
 generalize b4 n (λ j=>cP F (bI D 0 x j))=e at *
 generalize b4 n (λ j=>cP F (D j))=a at *
 generalize b4 (n+1) (λ j=>gw s (bI (bI D n y) 0 x j))=r' at *
 have h4:e+cP F y+3 * s.ms+3 * s.ws+1≤a+3 * s.ms+3 * s.ws:=by omega
 have h5:=Nat.mul_le_mul_right Q h4
 rw [Nat.add_mul _ 1 Q,Nat.one_mul] at h5
 omega
theorem DZ(hi:i < n)(a:0 < Q)(h:0 < cP F (D i)):0 < MM F Q D s n:=by
 have:=xL (f:=λ j=>cP F (D j)) hi
 unfold MM
 have h2:0 < (b4 n (λ j=>cP F (D j))+3 * s.ms+3 * s.ws) * Q:=Nat.mul_pos (by omega) a
 omega
end
section
variable {F:Fx} {B:Base} {th:Nat→Option Th} {s s':Sh} {js:Nat→Nat} {hl:Nat} {w w':World}
theorem lU(F:Fx)(s:Sh)(js:Nat→Nat)(hl:Nat):(F.bm,g3 F.tm s)∈dG F s js hl:=by simp [dG]
theorem lV(F:Fx)(s:Sh)(js:Nat→Nat)(hl:Nat):(F.bw,g9 F.tw s)∈dG F s js hl:=by simp [dG]
theorem p8(F:Fx)(s:Sh)(js:Nat→Nat)(hl:Nat):∀ b,b∈[F.bm,F.bw]→∃ o,(b,o)∈dG F s js hl:=λ b hb=>by
 simp only [cJ,List.not_mem_nil,or_false] at hb
 rcases hb with rfl | rfl
 ·exact ⟨_,lU F s js hl⟩
 ·exact ⟨_,lV F s js hl⟩
theorem p7(F:Fx)(s:Sh)(js:Nat→Nat)(hl:Nat):∀ b,hA F hl=some b→(∃ o,(b,o)∈dG F s js hl)∧b ∉ [F.bm,F.bw]:=λ b hb=>by
 unfold hA at hb
 split at hb
 ·cases hb
  rename_i h
  refine ⟨⟨F.cont js,by simp [dG,h]⟩,?_⟩
  have:=F.ho
  simp only [cJ,List.not_mem_nil,or_false,not_or]
  exact ⟨λ e=>this.2.1 e.symm,λ e=>this.2.2 e.symm⟩
 ·cases hb
theorem nS{b:Nat}{o:Obj}(h:(b,o)∈dG F s js hl):(b=F.bm∧o=g3 F.tm s)∨(b=F.bw∧o=g9 F.tw s)∨(b=F.bo∧o=F.cont js∧hl=0):=by
 unfold dG at h
 simp only [cJ,Prod.mk.injEq] at h
 rcases h with h | h | h
 ·exact .inl h
 ·exact .inr (.inl h)
 ·split at h
  ·simp only [cJ,Prod.mk.injEq,List.not_mem_nil,or_false] at h
   exact .inr (.inr ⟨h.1,h.2,‹_›⟩)
  ·cases h
theorem uB(h:cR B th (dG F s js hl) w):cX F s w:=⟨h.gn _ _ (lU F s js hl),h.gn _ _ (lV F s js hl)⟩
theorem cR.put(h:cR F.B th (dG F s js hl) w)(f:bG F s' w w'):cR F.B th (dG F s' js hl) w':=by
 have ne:∀ b,(∃ j x,th j=some x∧((∃ o,x.R b=some o)∨∃ o,(b,o)∈x.H))→w'.heap[b]? = w.heap[b]? := by
  rintro b ⟨j,x,a,hb⟩
  have h1:=h.fC _ _ (lU F s js hl) j x a
  have h2:=h.fC _ _ (lV F s js hl) j x a
  refine f.same b (λ e=>?_) (λ e=>?_) <;> subst e
  ·rcases hb with ⟨o,ho⟩ | ⟨o,ho⟩
   ·exact nn h1.1 ho
   ·exact h1.2 o ho
  ·rcases hb with ⟨o,ho⟩ | ⟨o,ho⟩
   ·exact nn h2.1 ho
   ·exact h2.2 o ho
 refine ⟨λ j x a=>?_,h.apart,λ b o hb=>?_,λ b o hb j x a=>?_⟩
 ·have d:=h.fits j x a
  exact ⟨λ b o hb=>by rw [ne b ⟨j,x,a,.inl ⟨o,hb⟩⟩]; exact d.r b o hb,λ b o hb=>by rw [ne b ⟨j,x,a,.inr ⟨o,hb⟩⟩]; exact d.h b o hb,d.nd,d.dj,f.os d.os,f.tape.trans d.tape,f.out.trans d.out⟩
 ·rcases nS hb with ⟨rfl,rfl⟩ | ⟨rfl,rfl⟩ | ⟨rfl,rfl,l⟩
  ·exact f.sh.m
  ·exact f.sh.g
  ·rw [f.same _ (λ e=>F.ho.2.1 e.symm) (λ e=>F.ho.2.2 e.symm)]
   exact h.gn _ _ (by simp [dG,l])
 ·rcases nS hb with ⟨rfl,rfl⟩ | ⟨rfl,rfl⟩ | ⟨rfl,rfl,l⟩
  ·exact h.fC _ _ (lU F s js hl) j x a
  ·exact h.fC _ _ (lV F s js hl) j x a
  ·exact h.fC F.bo (F.cont js) (by simp [dG,l]) j x a
theorem cR.take{i hl':Nat}{R:ax}{H:ai}(h:cR B th (dG F s js 0) w)(hi:th i=some ⟨R,H⟩)(E:hl'≠0):cR B (dm th i (some ⟨R,(F.bo,F.cont js)::H⟩)) (dG F s js hl') w:=by
 have z:(F.bo,F.cont js)∈dG F s js 0:=by simp [dG]
 have f:=h.fits i _ hi
 have u:=h.fC _ _ z
 have sub:∀ {b o},(b,o)∈dG F s js hl'→(b,o)∈dG F s js 0∧b≠F.bo:=λ {b o} hb=>by
  rcases nS hb with ⟨rfl,rfl⟩ | ⟨rfl,rfl⟩ | ⟨rfl,rfl,a⟩
  ·exact ⟨lU F s js 0,F.ho.2.1⟩
  ·exact ⟨lV F s js 0,F.ho.2.2⟩
  ·exact absurd a E
 refine ⟨λ j x a=>?_,λ j k x y v a q b o hb=>?_,λ b o hb=>h.gn b o (sub hb).1,λ b o hb j x a=>?_⟩
 ·by_cases d:j=i
  ·subst d; rw [cQ] at a; cases a
   refine ⟨f.r,λ b o hb=>?_,?_,λ b o hb=>?_,f.os,f.tape,f.out⟩
   ·rcases cJ.1 hb with e | hb
    ·cases e; exact h.gn _ _ z
    ·exact f.h b o hb
   ·rw [List.map_cons,List.nodup_cons]
    refine ⟨λ hm=>?_,f.nd⟩
    obtain ⟨p,C,he⟩:=List.mem_map.1 hm
    obtain ⟨b,o⟩:=p
    simp only at he
    subst he
    exact (u j _ hi).2 o C
   ·rcases cJ.1 hb with e | hb
    ·cases e; exact (u j _ hi).1
    ·exact f.dj b o hb
  ·rw [cu d] at a; exact h.fits j x a
 ·by_cases d:j=i
  ·subst d; rw [cQ] at a; cases a
   rw [cu (Ne.symm v)] at q
   rcases cJ.1 hb with e | hb
   ·cases e; exact u k y q
   ·exact h.apart j k _ _ v hi q b o hb
  ·rw [cu d] at a
   by_cases A:k=i
   ·subst A; rw [cQ] at q; cases q
    have:=h.apart j k _ _ v a hi b o hb
    refine ⟨this.1,λ o' l=>?_⟩
    rcases cJ.1 l with e | l
    ·cases e; exact (u j x a).2 o hb
    ·exact this.2 o' l
   ·rw [cu A] at q; exact h.apart j k x y v a q b o hb
 ·by_cases d:j=i
  ·subst d; rw [cQ] at a; cases a
   have:=h.fC b o (sub hb).1 j _ hi
   refine ⟨this.1,λ o' l=>?_⟩
   rcases cJ.1 l with e | l
   ·cases e; exact (sub hb).2 rfl
   ·exact this.2 o' l
  ·rw [cu d] at a; exact h.fC b o (sub hb).1 j x a
theorem cR.Ii{i:Nat}{R:ax}{H:ai}{ef:Nat→Nat}(h:cR B th (dG F s js hl) w)(_:hl≠0)(hi:th i=some ⟨R,(F.bo,F.cont ef)::H⟩):cR B (dm th i (some ⟨R,H⟩)) (dG F s ef 0) w:=by
 have d:=h.fits i _ hi
 have u:=d.nd
 rw [List.map_cons,List.nodup_cons] at u
 have E:∀ o,(F.bo,o) ∉ H:=λ o ho=>u.1 (List.mem_map.2 ⟨_,ho,rfl⟩)
 have key:∀ j x,dm th i (some ⟨R,H⟩) j=some x→∃ y,th j=some y∧x.R=y.R∧(∀ p,p∈x.H→p∈y.H):=λ j x a=>by
  by_cases e:j=i
  ·subst e; rw [cQ] at a; cases a
   exact ⟨_,hi,rfl,λ p v=>List.mem_cons_of_mem _ v⟩
  ·rw [cu e] at a; exact ⟨x,a,rfl,λ p v=>v⟩
 refine ⟨λ j x a=>?_,λ j k x y C a G b o hb=>?_,λ b o hb=>?_,λ b o hb j x a=>?_⟩
 ·by_cases e:j=i
  ·subst e; rw [cQ] at a; cases a
   exact ⟨d.r,λ b o hb=>d.h b o (List.mem_cons_of_mem _ hb),u.2,λ b o hb=>d.dj b o (List.mem_cons_of_mem _ hb),d.os,d.tape,d.out⟩
  ·rw [cu e] at a; exact h.fits j x a
 ·obtain ⟨x',q,e1,l⟩:=key j x a
  obtain ⟨J,I,z,A⟩:=key k y G
  have:=h.apart j k x' J C q I b o (l _ hb)
  exact ⟨by rw [z]; exact this.1,λ o' f=>this.2 o' (A _ f)⟩
 ·rcases nS hb with ⟨rfl,rfl⟩ | ⟨rfl,rfl⟩ | ⟨rfl,rfl,_⟩
  ·exact h.gn _ _ (lU F s js hl)
  ·exact h.gn _ _ (lV F s js hl)
  ·exact d.h _ _ (by simp)
 ·obtain ⟨x',q,e1,l⟩:=key j x a
  rcases nS hb with ⟨rfl,rfl⟩ | ⟨rfl,rfl⟩ | ⟨rfl,rfl,_⟩
  ·have:=h.fC _ _ (lU F s js hl) j x' q
   exact ⟨by rw [e1]; exact this.1,λ o' f=>this.2 o' (l _ f)⟩
  ·have:=h.fC _ _ (lV F s js hl) j x' q
   exact ⟨by rw [e1]; exact this.1,λ o' f=>this.2 o' (l _ f)⟩
  ·by_cases e:j=i
   ·subst e; rw [cQ] at a; cases a
    exact ⟨d.dj F.bo (F.cont ef) (by simp),E⟩
   ·rw [cu e] at a
    have:=h.apart i j _ _ (Ne.symm e) hi a F.bo (F.cont ef) (by simp)
    exact this
end
theorem tJ{F:Fx}{j:Nat}(c:Lc):nX F j (hd c)↔j < F.J:=by unfold hd; split <;> exact Iff.rfl
theorem Nh{F:Fx}{j:Nat}(c:Lc):nX F j (ey c)↔j < F.J:=by unfold ey; split <;> exact Iff.rfl
theorem Co{F:Fx}{j:Nat}(m:Wd):nX F j (hu m)↔j≤F.J:=by unfold hu; split <;> exact Iff.rfl
section
variable {F:Fx} {Q:Nat} {T0 ep:Mp} {D:Nat→Ab} {js:Nat→Nat} {s s':Sh} {n i k j:Nat} {T T':Lp}
theorem Ni(h:nX F j T)(d:ca T s T' s')(b:lF F j T T')(hu:dH T=false)(a:T' ≠ .quit):nX F j T':=by
 cases d
 case ur=>cases hu
 case r0=>exact (tJ _).2 h
 case r1=>exact (tJ _).2 h
 case r3=>exact (tJ _).2 h
 case ln=>exact (tJ _).2 h
 case lC=>exact (Nh _).2 h
 case kB c _ _=>cases c.ws <;> exact h
 case s1 c _ _=>cases c.sv <;> exact h
 case lE=>exact (Co _).2 h
 case ux=>exact (Co _).2 h
 case uj=>exact b
 case uk=>exact b
 case qd=>exact absurd rfl a
 case d4=>exact absurd rfl a
 all_goals exact h
theorem tI{js:Nat→Nat}(c:Lc):mA js (hd c):=by unfold hd; split <;> trivial
theorem Ng{js:Nat→Nat}(c:Lc):mA js (ey c):=by unfold ey; split <;> trivial
theorem Cm{js:Nat→Nat}(m:Wd):mA js (hu m):=by unfold hu; split <;> trivial
theorem Bk.q9(h:Bk F Q T0 D js s n):31 * n < Q:=by have:=h.pZ; omega
theorem Ph{J:Nat}{T:Mp}(h:T ≠ .fin):0 < stM J T:=by cases T <;> simp only [stM] <;> first | omega | exact absurd rfl h
theorem Bk.iK(h:Bk F Q T0 D js s n):0 < MM F Q D s n:=DZ h.pos (by have:=h.q9; omega) (by rw [h.d0]; exact Ph h.nf)
theorem Bk.iV(h:Bk F Q T0 D js s n)(hd:D i = .wk k j T)(hi:i < n)(u:ca T s T' s'){x:Ab}{ef:Nat→Nat}(V:cA x=cW T')(W:∀ T,x ≠ .mn T)(v:∀ a j' b,x = .wk a j' b→a=k∧b=T'∧ef k=j'∧nX F j' b)
  (q:∀ a,a≠k→ef a=js a) (S:∀ i' a j' b,i'≠i→D i' = .wk a j' b→mA ef b) (U:mA ef T') (L:ef k=F.J∨∃ j',x = .wk k j' T'):Bk F Q T0 (bI D i x) ef s' n:=by
 have G:i≠0:=λ e=>by subst e; rw [h.d0] at hd; cases hd
 obtain ⟨Y,ab,aa,ok,on⟩:=h.fX i k j T hd
 have hle:=oq (D:=D) hi
 have o:=jS (D:=D) hi x
 rw [hd] at hle o
 rw [V] at o
 obtain ⟨K,I⟩:=h.iz.step Y hle u o
 have M:=h.aig.step hle u o
 refine ⟨by rw [cZ (Ne.symm G)]; exact h.d0,h.nf,h.pos,λ i' O=>by rw [cZ (by omega)]; exact h.out i' O,λ i' T d=>?_,K,M,λ i' a j' b d=>?_,λ i1 i2 a l X b y h1 h2=>?_,λ a r=>?_,λ a r=>?_,h.pZ⟩
 ·by_cases e:i'=i
  ·subst e; rw [eJ] at d; exact absurd d (W T)
  ·rw [cZ e] at d; exact h.main i' T d
 ·by_cases e:i'=i
  ·subst e; rw [eJ] at d
   obtain ⟨rfl,rfl,h3,h4⟩:=v a j' b d
   exact ⟨I,h4,U,h3,on⟩
  ·rw [cZ e] at d
   obtain ⟨a1,z,Z,A,C⟩:=h.fX i' a j' b d
   have P:a≠k:=λ p=>by subst p; exact e (h.hK i' i a j' j b T d hd)
   exact ⟨a1,z,S i' a j' b e d,by rw [q a P]; exact A,C⟩
 ·have key:∀ i1 l b,bI D i x i1 = .wk a l b→∃ j' T',D i1 = .wk a j' T':=λ i1 l b h1=>by
   by_cases e:i1=i
   ·subst e; rw [eJ] at h1
    obtain ⟨rfl,_⟩:=v a l b h1
    exact ⟨_,_,hd⟩
   ·rw [cZ e] at h1; exact ⟨_,_,h1⟩
  obtain ⟨_,_,e1⟩:=key i1 l b h1
  obtain ⟨_,_,E⟩:=key i2 X y h2
  exact h.hK _ _ _ _ _ _ _ e1 E
 ·by_cases e:a=k
  ·subst e
   rcases L with f | ⟨j',f⟩
   ·exact .inl f
   ·exact .inr ⟨i,j',T',by rw [eJ]; exact f⟩
  ·rcases h.done a r with f | ⟨i',j',b,f⟩
   ·exact .inl (by rw [q a e]; exact f)
   ·refine .inr ⟨i',j',b,?_⟩
    rw [cZ (λ p=>by subst p; rw [hd] at f; cases f; exact e rfl)]; exact f
 ·have e:a≠k:=λ e=>by subst e; omega
  rw [q a e]; exact h.tF a r
theorem Bk.work(h:Bk F Q T0 D js s n)(hd:D i = .wk k j T)(hi:i < n)(a:ca T s T' s')(l:lF F j T T')(o:mA js T')(hu:dH T=false)(f:T' ≠ .quit) :
  Bk F Q T0 (bI D i (.wk k j T')) js s' n∧MM F Q (bI D i (.wk k j T')) s' n < MM F Q D s n:=by
 obtain ⟨q,p,r,ok,on⟩:=h.fX i k j T hd
 refine ⟨h.iV hd hi a rfl (λ T=>by simp) (λ d j' b e=>?_) (λ _ _=>rfl) (λ i' d j' b _ e=>(h.fX i' d j' b e).2.2.1) o (.inr ⟨j,rfl⟩),rz hi h.q9 ?_⟩
 ·cases e; exact ⟨rfl,rfl,ok,Ni p a l hu f⟩
 ·rw [hd]
  have:=a.sG q
  simp only [hu,fi,if_false] at this
  simp only [cP,gw]
  rcases this with z | ⟨z1,_,z2,z3,z4⟩
  ·left; omega
  ·right; exact ⟨by omega,z2,z3,z4⟩
theorem Bk.ur(h:Bk F Q T0 D js s n)(hd:D i = .wk k j (.ur js))(hi:i < n) :
  Bk F Q T0 (bI D i (.wk k (j+1) .ud)) (dx js k (j+1)) s n∧MM F Q (bI D i (.wk k (j+1) .ud)) s n < MM F Q D s n:=by
 obtain ⟨v,q,u,ok,on⟩:=h.fX i k j _ hd
 have r:j < F.J:=q
 refine ⟨h.iV hd hi .ur rfl (λ T=>by simp) (λ o j' f e=>?_) (λ o p=>iW p) (λ i' o j' f d e=>?_) trivial (.inr ⟨_,rfl⟩),rz hi h.q9 ?_⟩
 ·cases e; exact ⟨rfl,rfl,iX _ _ _,r⟩
 ·
  have hb:=h.iz
  have h1:=hb.ow
  have h2:=hb.l1
  have a1:(cA (D i)).hl=1:=by rw [hd]; rfl
  cases f with
  | ul z =>
   have a:(cA (D i')).hl=1:=by rw [e]; rfl
   have:2≤(cnt D n).hl:=by
    have b:i' < n:=by
     apply Classical.byContradiction
     intro l
     rw [h.out i' (by omega)] at e; cases e
    have t1:=(jS (D:=D) hi .no).hl
    have t2:=(oq (D:=bI D i .no) b).hl
    rw [cZ d,a] at t2
    rw [a1] at t1
    simp only [cA,Cn.zero] at t1
    omega
   omega
  | uv z =>
   have a:(cA (D i')).hl=1:=by rw [e]; rfl
   have:2≤(cnt D n).hl:=by
    have b:i' < n:=by
     apply Classical.byContradiction
     intro l
     rw [h.out i' (by omega)] at e; cases e
    have t1:=(jS (D:=D) hi .no).hl
    have t2:=(oq (D:=bI D i .no) b).hl
    rw [cZ d,a] at t2
    rw [a1] at t1
    simp only [cA,Cn.zero] at t1
    omega
   omega
  | ur z =>
   have a:(cA (D i')).hl=1:=by rw [e]; rfl
   have:2≤(cnt D n).hl:=by
    have b:i' < n:=by
     apply Classical.byContradiction
     intro l
     rw [h.out i' (by omega)] at e; cases e
    have t1:=(jS (D:=D) hi .no).hl
    have t2:=(oq (D:=bI D i .no) b).hl
    rw [cZ d,a] at t2
    rw [a1] at t1
    simp only [cA,Cn.zero] at t1
    omega
   omega
  | _=>trivial
 ·rw [hd]
  left
  simp only [cP,eb]
  have:F.J - j=(F.J - (j+1))+1:=by omega
  omega
theorem Bk.quit(h:Bk F Q T0 D js s n)(hd:D i = .wk k j T)(hi:i < n)(d:ca T s .quit s')(b:j=F.J)(hu:dH T=false) :
  Bk F Q T0 (bI D i .no) js s' n∧MM F Q (bI D i .no) s' n < MM F Q D s n:=by
 obtain ⟨l,p,o,ok,on⟩:=h.fX i k j T hd
 refine ⟨h.iV hd hi d rfl (λ T=>by simp) (λ f j' a e=>by cases e) (λ _ _=>rfl) (λ i' f j' a _ e=>(h.fX i' f j' a e).2.2.1) trivial (.inl (ok.trans b)),rz hi h.q9 ?_⟩
 rw [hd]
 have:=d.sG l
 simp only [hu,fi,if_false] at this
 simp only [cP,gw]
 rcases this with z | ⟨z1,_,z2,z3,z4⟩
 ·left; omega
 ·right; have z5:eb Lp.quit=0:=rfl; subst b; exact ⟨by omega,z2,z3,z4⟩
theorem Oc(a:dC T0 s ep s')(h:ep ≠ .fin):rem ep=rem T0:=by cases a <;> rfl
theorem Bk.ML(h:Bk F Q T0 D js s n)(f:dC T0 s ep s')(r:ep ≠ .fin):Bk F Q ep (bI D 0 (.mn ep)) js s' n∧MM F Q (bI D 0 (.mn ep)) s' n < MM F Q D s n:=by
 have l:=Oc f r
 have u:=jS (D:=D) h.pos (.mn ep)
 rw [h.d0] at u
 have p:cnt (bI D 0 (.mn ep)) n=cnt D n:=by
  obtain ⟨v,G,I,J,K,L,M,O,P,y,A,C,E⟩:=u
  simp only [cA,Cn.zero,Nat.add_zero] at *
  generalize cnt (bI D 0 (.mn ep)) n=c' at *
  generalize cnt D n=c at *
  cases c; cases c'; simp only [Cn.mk.injEq] at *
  exact ⟨v,G,I,J,K,L,M,O,P,y,A,C,E⟩
 have key:∀ i' a j' b,bI D 0 (.mn ep) i' = .wk a j' b→D i' = .wk a j' b:=λ i' a j' b e=>by
  by_cases d:i'=0
  ·subst d; rw [eJ] at e; cases e
  ·rwa [cZ d] at e
 refine ⟨⟨eJ _ _ _,r,h.pos,λ i' S=>by rw [cZ (by have:=h.pos; omega)]; exact h.out i' S,λ i' T q=>?_,by rw [p]; exact h.iz.main f,by rw [p]; exact h.aig.main f,λ i' a j' b e=>by rw [l]; exact h.fX i' a j' b (key _ _ _ _ e),
  λ i1 i2 a V W b U h1 h2=>h.hK _ _ _ _ _ _ _ (key _ _ _ _ h1) (key _ _ _ _ h2),λ a o=>?_,λ a o=>h.tF a (by rw [← l]; exact o),by rw [l]; exact h.pZ⟩,rz h.pos h.q9 ?_⟩
 ·by_cases d:i'=0
  ·exact d
  ·rw [cZ d] at q; exact h.main i' T q
 ·rcases h.done a (by rw [← l]; exact o) with z | ⟨i',j',b,z⟩
  ·exact .inl z
  ·exact .inr ⟨i',j',b,by rw [cZ (λ e=>by subst e; rw [h.d0] at z; cases z)]; exact z⟩
 ·rw [h.d0]; exact f.sG
theorem tS(r:Nat):rem (eZ r)=r:=by cases r <;> rfl
theorem Nc(r:Nat):eZ r ≠ .fin:=by cases r <;> simp [eZ]
theorem Bk.spawn{r:Nat}(h:Bk F Q (.go r) D js s n):Bk F Q (eZ r) (bI (bI D n (.wk (F.N - (r+1)) 0 .ld)) 0 (.mn (eZ r))) js s (n+1)∧MM F Q (bI (bI D n (.wk (F.N - (r+1)) 0 .ld)) 0 (.mn (eZ r))) s (n+1) < MM F Q D s n:=by
 have p:=zn (D:=D) h.pos (.mn (eZ r)) (.wk (F.N - (r+1)) 0 .ld) rfl (by rw [h.d0]; rfl)
 have E:=h.pos
 have hle:=h.aig.le
 simp only [rem] at hle
 have M:r+1≤F.N:=by omega
 have key:∀ i' a j' b,bI (bI D n (.wk (F.N - (r+1)) 0 .ld)) 0 (.mn (eZ r)) i' = .wk a j' b→(i'=n∧a=F.N - (r+1)∧j'=0∧b = .ld)∨D i' = .wk a j' b:=λ i' a j' b e=>by
  by_cases d:i'=0
  ·subst d; rw [eJ] at e; cases e
  ·rw [cZ d] at e
   by_cases en:i'=n
   ·subst en; rw [eJ] at e; cases e; exact .inl ⟨rfl,rfl,rfl,rfl⟩
   ·rw [cZ en] at e; exact .inr e
 refine ⟨⟨eJ _ _ _,Nc r,by omega,λ i' L=>by rw [cZ (by omega),cZ (by omega)]; exact h.out i' (by omega),λ i' T f=>?_,h.iz.spawn h.aig p,h.aig.spawn p,λ i' a j' b e=>?_,λ i1 i2 a q u b o h1 h2=>?_,λ a l=>?_,λ a l=>?_,?_⟩,D1 E ?_ ?_⟩
 ·by_cases d:i'=0
  ·exact d
  ·rw [cZ d] at f
   by_cases en:i'=n
   ·subst en; rw [eJ] at f; cases f
   ·rw [cZ en] at f; exact h.main i' T f
 ·rw [tS]
  rcases key i' a j' b e with ⟨rfl,rfl,rfl,rfl⟩ | z
  ·exact ⟨trivial,F.hJ,trivial,h.tF _ (by simp only [rem]; omega),by omega⟩
  ·obtain ⟨a1,v,y,A,C⟩:=h.fX i' a j' b z
   simp only [rem] at C
   exact ⟨a1,v,y,A,by omega⟩
 ·rcases key i1 a q b h1 with ⟨G,e1,_,_⟩ | z1 <;> rcases key i2 a u o h2 with ⟨I,K,_,_⟩ | z2
  ·exact G.trans I.symm
  ·have:=(h.fX i2 _ u o z2).2.2.2.2; simp only [rem] at this; omega
  ·have:=(h.fX i1 _ q b z1).2.2.2.2; simp only [rem] at this; omega
  ·exact h.hK _ _ _ _ _ _ _ z1 z2
 ·rw [tS] at l
  by_cases e:a+(r+1) < F.N
  ·rcases h.done a e with z | ⟨i',j',b,z⟩
   ·exact .inl z
   ·refine .inr ⟨i',j',b,?_⟩
    rw [cZ (λ e=>by rw [e,h.d0] at z; cases z),cZ (λ e=>by rw [e,h.out n (b6 _)] at z; cases z)]; exact z
  ·exact .inr ⟨n,0,.ld,by rw [cZ (by omega),eJ]; congr 1; omega⟩
 ·rw [tS] at l; exact h.tF a (by simp only [rem]; omega)
 ·rw [tS]; have:=h.pZ; simp only [rem] at this; omega
 ·have:=h.pZ; simp only [rem] at this; omega
 ·rw [h.d0]
  have:=Pa F.J r
  simp only [cP]
  omega
end
theorem mV.n7{P:Program}{B:Base}{main:Bool}{K:ax→ai→Goroutine→Prop}{T:Tree}{R:ax}{H:ai}{g:Goroutine}(h:mV P B main K T R H g)(a:∀ R H g,K R H g→g.status = .running):g.status = .running:=by
 induction T generalizing R H g with
 | node ι f b =>
  rcases h with h | ⟨h,_⟩ | ⟨R',H',i,_,h⟩
  ·exact a _ _ _ h
  ·exact h
  ·exact b i h
theorem ni{gs:Array Goroutine}{i:Nat}{g:Goroutine}(h:gs[i]? = some g):i < gs.size:=(Array.getElem?_eq_some_iff.1 h).1
theorem pK.woken{P:Program}{K:Goroutine→Prop}{z q:Prop}{a e x:Goroutine}{w:World}(h:pK K z x)(p:(mayWake P a=true∧e.status ≠ .blocked∧e.status ≠ .waiting)∨(z→q)):pK K q (woken P a e w x):=by
 obtain ⟨l,r,b,ho,u⟩:=h
 refine ⟨l,r,b,ho,?_⟩
 rcases u with rfl | ⟨rfl,v⟩
 ·left
  unfold Conc.woken
  split
  ·exact again_running _ (.inl b)
  ·rfl
 ·rcases p with ⟨h1,h2,h3⟩ | p
  ·left
   unfold Conc.woken
   rw [if_pos (by simp [h1,h2,h3])]
   obtain ⟨f,c,st,d,o⟩:=l
   simp only at b ho
   subst b ho
   rfl
  ·unfold Conc.woken
   split
   ·left
    obtain ⟨f,c,st,d,o⟩:=l
    simp only at b ho
    subst b ho
    rfl
   ·right; exact ⟨rfl,p v⟩
theorem mX.run{P:Program}{K:Goroutine→Prop}(a:∀ g,K g→g.status = .running):∀ {q:Nat} {g:Goroutine},mX P K q g→g.status = .running
 | 0,_,h=>a _ h
 | _+1,_,h=>h.elim (a _) (·.1)
section
variable {F:Fx} {Q:Nat} {T0:Mp} {D:Nat→Ab} {m:Nat→Ms} {js:Nat→Nat} {s s':Sh} {th:Nat→Option Th} {mu:Nat→Bool} {dd:Nat→Nat} {gs:Array Goroutine} {w:World} {t:Trace} {sl:Option (Nat × Nat)} {i:Nat} {g:Goroutine}
theorem KW.run{n k j:Nat}{T:Lp}{R:ax}{H:ai}(h:KW F n k j T R H g)(a:0 < n)(ho:hL F.N T):g.status = .running∧g.offers=none:=by
 cases n with
 | zero=>omega
 | succ n=>have:=h ho; exact ⟨this.1,this.2.1⟩
theorem KM.run{n:Nat}{T:Mp}{R:ax}{H:ai}(h:KM F n T R H g)(a:0 < n):g.status = .running∧g.offers=none:=by
 cases n with
 | zero=>omega
 | succ n=>exact ⟨h.1,h.2.1⟩
theorem hg.look{p:Nat}{o:Ms}{x:Option Th}{b:Bool}{d:Nat}{A:Ab}(h:hg F p s i o x b d g A)(E:0 < p)(z:∀ k j T,A = .wk k j T→hL F.N T) :
  (g.status = .running)∨(g.status = .finished∧A = .no)∨(g.status = .blocked∧o=none∧((∃ k j c,A = .wk k j (.s1 c)∧s.ms=0)∨(A = .mn .w3∧s.ws=0))):=by
 cases A with
 | no =>
  obtain ⟨_,_,q,_,e⟩:=h
  rcases e.status with x | x
  ·exact .inl x
  ·exact .inr (.inl ⟨x,rfl⟩)
 | wk k j T =>
  obtain ⟨_,_,_,y,n,_,C,h⟩:=h
  have ho:=z k j T rfl
  split at h
  ·obtain ⟨q,_,e⟩:=h
   exact .inl (e.run λ g a=>(a.run (by omega) ho).1)
  ·rcases h with ⟨r,_,h⟩ | ⟨rfl,⟨c,rfl⟩,u,v,f,_,a⟩
   ·exact .inl (h.n7 λ R H g a=>(KW.run a (by omega) ho).1)
   ·rcases a with rfl | ⟨rfl,l⟩
    ·exact .inl f
    ·exact .inr (.inr ⟨rfl,rfl,.inl ⟨k,j,c,rfl,l⟩⟩)
 | mn T =>
  obtain ⟨_,_,_,y,n,_,C,h⟩:=h
  rcases h with ⟨r,_,h⟩ | ⟨rfl,rfl,u,v,f,_,a⟩
  ·exact .inl (h.n7 λ R H g a=>(KM.run a (by omega)).1)
  ·rcases a with rfl | ⟨rfl,l⟩
   ·exact .inl f
   ·exact .inr (.inr ⟨rfl,rfl,.inr ⟨rfl,l⟩⟩)
theorem hg.woken{r C:Nat}{v:Ms}{x:Option Th}{b:Bool}{d:Nat}{A:Ab}{a l:Goroutine}{w':World}(h:hg F r s i v x b d g A)(K:0 < r)(G:∀ k j T,A = .wk k j T→hL F.N T)(hle:C≤r)
  (u:(mayWake F.P a=true∧l.status ≠ .blocked∧l.status ≠ .waiting)∨(s'.ms≤s.ms∧s'.ws≤s.ws)):hg F C s' i v x b d (Conc.woken F.P a l w' g) A:=by
 have run:g.status = .running→Conc.woken F.P a l w' g=g:=λ J=>by
  unfold Conc.woken
  split
  ·exact again_running _ (.inl J)
  ·rfl
 cases A with
 | no =>
  obtain ⟨h1,h2,q,h3,f⟩:=h
  exact ⟨h1,h2,q,h3,by rw [woken_quitsD f]; exact f⟩
 | wk k j T =>
  obtain ⟨h1,h2,h3,y,n,h4,I,h⟩:=h
  have ho:=G k j T rfl
  refine ⟨h1,h2,h3,y,n,h4,by omega,?_⟩
  split
  ·rename_i hm
   rw [if_pos hm] at h
   obtain ⟨q,h5,f⟩:=h
   exact ⟨q,h5,by rw [run (f.run λ g e=>(e.run (by omega) ho).1)]; exact f⟩
  ·rename_i hm
   rw [if_neg hm] at h
   rcases h with ⟨o,h5,h⟩ | ⟨h5,h6,p⟩
   ·exact .inl ⟨o,h5,by rw [run (h.n7 λ R H g e=>(KW.run e (by omega) ho).1)]; exact h⟩
   ·exact .inr ⟨h5,h6,p.woken (u.imp id λ z E=>by omega)⟩
 | mn T =>
  obtain ⟨h1,h2,h3,y,n,h4,I,h⟩:=h
  refine ⟨h1,h2,h3,y,n,h4,by omega,?_⟩
  rcases h with ⟨o,h5,h⟩ | ⟨h5,h6,p⟩
  ·exact .inl ⟨o,h5,by rw [run (h.n7 λ R H g e=>(KM.run e (by omega)).1)]; exact h⟩
  ·exact .inr ⟨h5,h6,p.woken (u.imp id λ z E=>by omega)⟩
theorem MI.at(h:MI F Q T0 D m js s th mu dd gs w t)(d:Nat):MI F Q T0 D m js s th mu dd gs (w.at d) t:=⟨h.mem.at d,h.tr,h.ko,h.out,h.bk⟩
theorem MI.fX(h:MI F Q T0 D m js s th mu dd gs w t)(i:Nat):∀ k j T,D i = .wk k j T→hL F.N T:=λ k j T hd=>(h.bk.fX i k j T hd).1
theorem MI.iV(h:MI F Q T0 D m js s th mu dd gs w t)(hi:gs[i]? = some g){x:Ab}{m':Ms}{ep:Mp}{ef:Nat→Nat}{eG:Nat→Option Th}{mu':Nat→Bool}{dd':Nat→Nat}{g':Goroutine}{w':World}{t':Trace}
  (r:(mayWake F.P g=true∧g'.status ≠ .blocked∧g'.status ≠ .waiting)∨(s'.ms≤s.ms∧s'.ws≤s.ws))
  (l:MM F Q (bI D i x) s' gs.size≤MM F Q D s gs.size) (hm:cR F.B eG (dG F s' ef (cnt (bI D i x) gs.size).hl) w') (q:bX (some (am F)) (some (aw F)) eG mu' dd' [F.bm,F.bw] (hA F (cnt (bI D i x) gs.size).hl) w'.heap.size t')
  (p:hg F (MM F Q (bI D i x) s' gs.size) s' i m' (eG i) (mu' i) (dd' i) g' x) (ho:∀ j,j≠i→eG j=th j∧mu' j=mu j∧dd' j=dd j) (hb:Bk F Q ep (bI D i x) ef s' gs.size) :
  MI F Q ep (bI D i x) (fL m i m') ef s' eG mu' dd' ((gs.map (Conc.woken F.P g g' w')).setIfInBounds i g') w' t':=by
 have o:=ni hi
 have d:((gs.map (Conc.woken F.P g g' w')).setIfInBounds i g').size=gs.size:=by simp
 refine ⟨by rw [d]; exact hm,by rw [d]; exact q,λ j y a=>?_,λ j a=>?_,by rw [d]; exact hb⟩
 ·rw [d]
  by_cases b:j=i
  ·subst b
   rw [iZ (by simpa using o)] at a; cases a
   rw [eJ,ru]; exact p
  ·rw [fN (Ne.symm b),Array.getElem?_map] at a
   obtain ⟨z,u,rfl⟩:=Option.map_eq_some_iff.1 a
   obtain ⟨e1,e,f⟩:=ho j b
   rw [cZ b,pB b,e1,e,f]
   exact (h.ko j z u).woken h.bk.iK (h.fX j) l r
 ·rw [d] at a
  obtain ⟨e1,e,f⟩:=ho j (by omega)
  rw [e1,e,f]; exact h.out j a
theorem PE{D:Nat→Ab}{i:Nat}{x:Ab}(h:D i=x):bI D i x=D:=by
 funext j; unfold bI; split
 ·rename_i e; subst e; exact h.symm
 ·rfl
theorem MI.still(h:MI F Q T0 D m js s th mu dd gs w t)(hi:gs[i]? = some g){m':Ms}{eG:Nat→Option Th}{dd':Nat→Nat}{g':Goroutine}{w':World}{t':Trace}(hm:cR F.B eG (dG F s js (cnt D gs.size).hl) w')(d:bX (some (am F)) (some (aw F)) eG mu dd' [F.bm,F.bw] (hA F (cnt D gs.size).hl) w'.heap.size t')
  (b:hg F (MM F Q D s gs.size) s i m' (eG i) (mu i) (dd' i) g' (D i)) (ho:∀ j,j≠i→eG j=th j∧dd' j=dd j) :
  MI F Q T0 D (fL m i m') js s eG mu dd' ((gs.map (Conc.woken F.P g g' w')).setIfInBounds i g') w' t':=by
 have e:=PE (D:=D) (i:=i) rfl
 have:=h.iV (x:=D i) (m':=m') (ep:=T0) (ef:=js) (s':=s) (eG:=eG) (mu':=mu) (dd':=dd') (g':=g') (w':=w') (t':=t') hi (.inr ⟨b6 _,b6 _⟩) (by rw [e]; exact b6 _) (by rw [e]; exact hm) (by rw [e]; exact d) (by rw [e]; exact b) (λ j a=>⟨(ho j a).1,rfl,(ho j a).2⟩) (by rw [e]; exact h.bk)
 rwa [e] at this
end
theorem zs{t u:Trace}{g:Nat}:∀ {r:Nat},r≤u.size→(t++u).deaf g (t.size+r)=(u.toList.take r).foldl (deafStep g) (Deaf t g)
 | 0,_=>by simp only [Nat.add_zero,List.take_zero,List.foldl_nil]; exact deaf_old (b6 _)
 | r+1,h=>by
  have b:=zs (t:=t) (u:=u) (g:=g) (r:=r) (by omega)
  have a:r < u.size:=by omega
  have hu:(t++u)[t.size+r]? = some u[r]:=by
   rw [Array.getElem?_append_right (by omega),Nat.add_sub_cancel_left,hc a]
  rw [← Nat.add_assoc,deaf_succ hu,b]
  have:u.toList.take (r+1)=u.toList.take r++[u[r]]:=by
   rw [List.take_add_one]
   simp [a]
  rw [this,List.foldl_append]
  rfl
theorem zt{g:Nat}:∀ {l:List MemOp} {d:Nat},(∀ op∈l,op.act ≠ .mark .enable)→d≤l.foldl (deafStep g) d
 | [],_,_=>b6 _
 | y::l,d,h=>by
  have h1:d≤deafStep g d y:=by
   unfold deafStep
   split
   ·split <;> omega
   ·rename_i e; exact absurd e (h y (by simp))
   ·exact b6 _
  exact Nat.le_trans h1 (zt λ op a=>h op (List.mem_cons_of_mem _ a))
section
variable {F:Fx} {th:Nat→Option Th} {mu:Nat→Bool} {dd:Nat→Nat} {s:Sh} {js:Nat→Nat} {hl i:Nat} {w:World} {t:Trace} {fn:FuncId} {pos:String} {es:Array Event} {R:ax} {H:ai}
theorem Bh(h:cR F.B th (dG F s js hl) w):F.bm < w.heap.size:=ft (h.gn _ _ (lU F s js hl))
theorem s7(h:cR F.B th (dG F s js hl) w):F.bw < w.heap.size:=ft (h.gn _ _ (lV F s js hl))
theorem Er(_:cR F.B th (dG F s js hl) w)(he:hf F es):∀ op∈MemOp.ofEvents i fn pos es,op.g=i∧(op.act = .mark .disable∨op.act = .mark .enable∨∃ a wr,op.act = .access ⟨.cell a,wr,true⟩∧(a.block=F.bm∨a.block=F.bw)):=by
 intro op f
 obtain ⟨e,d,rfl⟩:=my f
 refine ⟨rfl,?_⟩
 rcases he with he | ⟨a,b,rfl⟩
 ·obtain ⟨a,wr,rfl,b⟩:=he e d
  exact .inr (.inr ⟨a,wr,by cases wr <;> rfl,b⟩)
 ·simp only [semEvents,List.mem_toArray,cJ,List.not_mem_nil,or_false] at d
  rcases d with rfl | rfl | rfl | rfl
  ·exact .inl rfl
  ·exact .inr (.inr ⟨a,false,rfl,b⟩)
  ·exact .inr (.inr ⟨a,true,rfl,b⟩)
  ·exact .inr (.inl rfl)
theorem Ep(he:hf F es)(d:Nat):deafBehind d es=d:=by
 rcases he with he | ⟨a,_,rfl⟩
 ·obtain ⟨l⟩:=es
  unfold deafBehind
  simp only [List.foldl_toArray']
  induction l with
  | nil=>rfl
  | cons e l h =>
   obtain ⟨a,wr,rfl,_⟩:=he e (by simp)
   exact h λ f b=>he f (by simp at b ⊢; exact .inr b)
 ·simp [deafBehind,semEvents]
theorem bX.uP(p:cR F.B th (dG F s js hl) w)(h:bX (some (am F)) (some (aw F)) th mu dd [F.bm,F.bw] (hA F hl) w.heap.size t)(hi:th i=some ⟨R,H⟩)(he:hf F es)(G:mu i=false∨1≤dd i) :
  bX (some (am F)) (some (aw F)) th mu dd [F.bm,F.bw] (hA F hl) w.heap.size (t++MemOp.ofEvents i fn pos es):=by
 have f:=Er (i:=i) (fn:=fn) (pos:=pos) p he
 have:=bX.app (u:=MemOp.ofEvents i fn pos es) (n':=w.heap.size) (R':=R) (H':=H) (d':=dd i) p rfl (p8 F s js hl) (p7 F s js hl) h hi (λ op d=>(f op d).1) (λ op d a l=>?_) (λ op d=>?_) (λ op d a=>?_) (by rw [Deaf_own,h.deaf i,Ep he]) ?_ (b6 _) (λ _ _ x=>.inl x) (λ _ o x=>.inl ⟨o,x⟩)
 ·rwa [n8 hi,fM] at this
 ·rcases (f op d).2 with e | e | ⟨b,wr,e,hb⟩ <;> rw [e] at l
  ·cases l
  ·cases l
  ·simp only [MemAct.touch?,eh] at l
   subst l
   exact .inr ⟨b.block,rfl,by rcases hb with hb | hb <;> simp [hb],.inl rfl⟩
 ·rcases (f op d).2 with e | e | ⟨b,wr,e,hb⟩ <;> rw [e]
  ·trivial
  ·trivial
  ·show b.block < _
   rcases hb with hb | hb <;> rw [hb]
   ·exact Bh p
   ·exact s7 p
 ·rcases (f op d).2 with e | e | ⟨b,wr,e,hb⟩ <;> rw [e] <;> intro x <;> cases x
 ·refine G.imp id λ hd k a O A v=>?_
  rcases v with v | ⟨g,y,L⟩
  ·obtain ⟨op,h1,h2⟩:=touch_of A
   rcases getElem?_append_cases h1 with ⟨q,_⟩ | ⟨_,h3⟩
   ·omega
   ·rcases (f op h3).2 with e | e | ⟨b,wr,e,hb⟩ <;> rw [e] at h2
    ·cases h2
    ·cases h2
    ·simp only [MemAct.touch?,eh] at h2
     subst h2; exact v rfl
  ·obtain ⟨op,h1,h2⟩:=touch_of A
   have q:=lt_size_of_getElem? h1
   rw [Array.size_append] at q
   have J:g=i:=by
    rcases getElem?_append_cases h1 with ⟨q,_⟩ | ⟨_,h3⟩
    ·omega
    ·rw [Trace.g?,h1] at y
     simp only [Option.map_some,eh] at y
     rw [← y]; exact (f op h3).1
   subst J
   obtain ⟨r,rfl⟩:∃ r,k=t.size+r:=⟨k - t.size,by omega⟩
   rw [zs (by omega),h.deaf g] at L
   have P:dd g≤((MemOp.ofEvents g fn pos es).toList.take r).foldl (deafStep g) (dd g):=by
    refine zt λ C z=>?_
    rcases he with he | ⟨b,M,rfl⟩
    ·have hm:C∈MemOp.ofEvents g fn pos es:=by simpa using List.mem_of_mem_take z
     obtain ⟨e,I,rfl⟩:=my hm
     obtain ⟨b,wr,rfl,_⟩:=he e I
     cases wr <;> (intro x; cases x)
    ·have K:r≤3:=by simp [MemOp.ofEvents,semEvents] at q; omega
     have E:(MemOp.ofEvents g fn pos (semEvents b)).toList=[⟨g,fn,pos,.mark .disable⟩,⟨g,fn,pos,.access ⟨.cell b,false,true⟩⟩,⟨g,fn,pos,.access ⟨.cell b,true,true⟩⟩,⟨g,fn,pos,.mark .enable⟩]:=by simp [MemOp.ofEvents,semEvents,MemAct.ofEvent]
     rw [E] at z
     have h3:C∈[(⟨g,fn,pos,.mark .disable⟩:MemOp),⟨g,fn,pos,.access ⟨.cell b,false,true⟩⟩,⟨g,fn,pos,.access ⟨.cell b,true,true⟩⟩]:=by
      have:([(⟨g,fn,pos,.mark .disable⟩:MemOp),⟨g,fn,pos,.access ⟨.cell b,false,true⟩⟩,⟨g,fn,pos,.access ⟨.cell b,true,true⟩⟩,⟨g,fn,pos,.mark .enable⟩]).take r <+: ([(⟨g,fn,pos,.mark .disable⟩:MemOp),⟨g,fn,pos,.access ⟨.cell b,false,true⟩⟩,⟨g,fn,pos,.access ⟨.cell b,true,true⟩⟩,⟨g,fn,pos,.mark .enable⟩]).take 3:=List.take_prefix_take_left K
      exact this.subset z
     simp only [cJ,List.not_mem_nil,or_false] at h3
     rcases h3 with rfl | rfl | rfl <;> (intro x; cases x)
   omega
theorem bX.word{m:Mark}{a b:Option Addr}{sh:List Nat}{fr:Option Nat}{n:Nat}(h:bX a b th mu dd sh fr n t)(hm:m = .disable∨m = .enable) :
  bX a b th mu (dx dd i (deafBehind (dd i) (said m))) sh fr n (t++MemOp.ofEvents i fn pos (said m)):=by
 refine h.leaves λ e he=>?_
 simp only [said,List.mem_toArray,cJ,List.not_mem_nil,or_false] at he
 subst he
 rcases hm with rfl | rfl <;> rfl
end
theorem se(c:Lc):gC (hd c)=1:=by unfold hd; split <;> rfl
theorem E9(c:Lc):gC (ey c)=1:=by unfold ey; split <;> rfl
theorem zw(m:Wd):gC (hu m)=1:=by unfold hu; split <;> rfl
theorem tD(c:Lc):eS (hd c)=false:=by unfold hd; split <;> rfl
theorem M0(c:Lc):eS (ey c)=false:=by unfold ey; split <;> rfl
theorem Ce(m:Wd):eS (hu m)=false:=by unfold hu; split <;> rfl
inductive ry (F:Fx):Lp→Lp→Array Event→Prop
 | at {T T' es}:hf F es→gC T'=gC T→eS T'=eS T→ry F T T' es
 | lX {T T'}:gC T=0→gC T'=1→eS T'=eS T→ry F T T' (said .disable)
 | en {T T'}:gC T=1→gC T'=0→eS T'=eS T→ry F T T' (said .enable)
theorem wc{c:Lc}{T:Lp}(h1:∀ c,T ≠ .sq c)(h2:∀ c,T ≠ .c2 c):hd c≠T:=by unfold hd; split <;> exact λ e=>by subst e; first | exact h1 _ rfl | exact h2 _ rfl
theorem xE{c:Lc}{T:Lp}(h1:∀ c,T ≠ .c1 c)(h2:∀ c,T ≠ .r1 c):ey c≠T:=by unfold ey; split <;> exact λ e=>by subst e; first | exact h1 _ rfl | exact h2 _ rfl
theorem wh{m:Wd}{T:Lp}(h1:T ≠ .ue)(h2:∀ c,T ≠ .uc c):hu m≠T:=by unfold hu; split <;> exact λ e=>by subst e; first | exact h1 rfl | exact h2 _ rfl
theorem ca.inv{s s':Sh}{T T':Lp}(h:ca T s T' s'):(∀ js,T' = .ul js→T = .la)∧(T' = .ud→dH T=true)∧(T' = .quit→T = .d1∨T = .d4):=by
 have k1:∀ c,(∀ js,hd c = .ul js→T = .la)∧(hd c = .ud→dH T=true)∧(hd c = .quit→T = .d1∨T = .d4):=λ c=>⟨λ js e=>absurd e (wc (by simp) (by simp)),λ e=>absurd e (wc (by simp) (by simp)),λ e=>absurd e (wc (by simp) (by simp))⟩
 have k2:∀ c,(∀ js,ey c = .ul js→T = .la)∧(ey c = .ud→dH T=true)∧(ey c = .quit→T = .d1∨T = .d4):=λ c=>⟨λ js e=>absurd e (xE (by simp) (by simp)),λ e=>absurd e (xE (by simp) (by simp)),λ e=>absurd e (xE (by simp) (by simp))⟩
 have k3:∀ c,(∀ js,hu c = .ul js→T = .la)∧(hu c = .ud→dH T=true)∧(hu c = .quit→T = .d1∨T = .d4):=λ c=>⟨λ js e=>absurd e (wh (by simp) (by simp)),λ e=>absurd e (wh (by simp) (by simp)),λ e=>absurd e (wh (by simp) (by simp))⟩
 cases h
 case r0=>exact k1 _
 case r1=>exact k1 _
 case r3=>exact k1 _
 case ln=>exact k1 _
 case lC=>exact k2 _
 case lE=>exact k3 _
 case ux=>exact k3 _
 case kB c _ _=>cases c.ws <;> simp
 case s1 c _ _=>cases c.sv <;> simp
 all_goals simp [dH]
theorem q5(i:Nat)(fn:FuncId)(pos:String)(m:Mark):MemOp.ofEvents i fn pos (said m)=#[⟨i,fn,pos,.mark m⟩]:=by simp [MemOp.ofEvents,said,MemAct.ofEvent]
section
variable {F:Fx} {Q:Nat} {T0:Mp} {D:Nat→Ab} {m:Nat→Ms} {js:Nat→Nat} {s s':Sh} {th:Nat→Option Th} {mu:Nat→Bool} {dd:Nat→Nat} {gs:Array Goroutine} {w w':World} {t:Trace} {sl:Option (Nat × Nat)} {i k j:Nat} {g g':Goroutine} {T T':Lp}
theorem ca.xX(h:ca T s T' s'):(T = .us∨T = .d4)∨(s'.ms≤s.ms∧s'.ws≤s.ws):=by
 cases h
 case us=>exact .inl (.inl rfl)
 case d4=>exact .inl (.inr rfl)
 case s1 c m h=>exact .inr ⟨by simp only; omega,b6 _⟩
 all_goals exact .inr ⟨b6 _,b6 _⟩
theorem dC.xX{T T':Mp}(h:dC T s T' s'):s'.ms≤s.ms∧s'.ws≤s.ws:=by
 cases h
 case w3 m h=>exact ⟨b6 _,by simp only; omega⟩
 all_goals exact ⟨b6 _,b6 _⟩
theorem Hd(b:ca T s T' s'){es:Array Event}(he:oA F T es)(h1:T ≠ .la)(h2:dH T=false)(h3:T ≠ .wr)(a:T' ≠ .quit):ry F T T' es:=by
 cases b
 case ld=>rw [show es=said .disable from he]; exact .lX rfl rfl rfl
 case ud=>rw [show es=said .disable from he]; exact .lX rfl rfl rfl
 case le=>rw [show es=said .enable from he]; exact .en rfl rfl rfl
 case uj=>rw [show es=said .enable from he]; exact .en rfl rfl rfl
 case uk=>rw [show es=said .enable from he]; exact .en rfl rfl rfl
 case wk=>rw [show es=said .disable from he]; exact .lX rfl rfl rfl
 case la=>exact absurd rfl h1
 case ur=>cases h2
 case wr=>exact absurd rfl h3
 case qd=>exact absurd rfl a
 case d4=>exact absurd rfl a
 case r0=>exact .at he (se _) (tD _)
 case r1=>exact .at he (se _) (tD _)
 case r3=>exact .at he (se _) (tD _)
 case ln=>exact .at he (se _) (tD _)
 case lC=>exact .at he (E9 _) (M0 _)
 case kB c _ _=>exact .at he (by cases c.ws <;> rfl) (by cases c.ws <;> rfl)
 case s1 c _ _=>exact .at he (by cases c.sv <;> rfl) (by cases c.sv <;> rfl)
 case lE=>exact .at he (zw _) (Ce _)
 case ux=>exact .at he (zw _) (Ce _)
 all_goals exact .at he rfl rfl
theorem M5{K:Nat→Lp→ax→ai→Goroutine→Prop}{R:ax}{H:ai}(b:ca T s T' s')(h1:T ≠ .la)(h2:dH T=false)(d:T' ≠ .quit)(h:kx F K k j T T' R H g') :
  if eS T' then ∃ q,mX F.P (K j T' R H) q g' else Own F.P F.B false (K j T') R H g':=by
 cases a:T' with
 | quit=>exact absurd a d
 | ul js=>exact absurd (b.inv.1 js a) h1
 | ud=>rw [b.inv.2.1 a] at h2; cases h2
 | _=>subst a; exact h
theorem E2(h:MI F Q T0 D m js s th mu dd gs w t)(hi:gs[i]? = some g)(hd:D i = .wk k j T):0 < i∧dd i=gC T∧mu i=eS T:=by
 have:=h.ko i g hi
 rw [hd] at this
 exact ⟨this.1,this.2.1,this.2.2.1⟩
theorem MI.work(h:MI F Q T0 D m js s th mu dd gs w t)(hi:gs[i]? = some g)(hd:D i = .wk k j T){y:Th}(z:th i=some y){n:Nat}(aR:MM F Q D s gs.size≤n)(aA:KW F n k j T y.R y.H g) :
  ((∃ c,T = .s1 c)∧s.ms=0∧stepG F.P false g w = .go { g with status:=.blocked } w #[]) ∨
  ∃ ab w' ops an m' ef s' eG mu' dd',(∀ sl,runT F.P (crowd gs w sl) i=(.next (crowd ab w' sl),ops))∧ab.size=gs.size∧MI F Q T0 an m' ef s' eG mu' dd' ab w' (t++ops)∧MM F Q an s' ab.size < MM F Q D s gs.size:=by
 have v:=ni hi
 obtain ⟨Y,C,X⟩:=E2 h hi hd
 have aG:(i == 0)=false:=by simp; omega
 obtain ⟨aP,aO,az,ok,on⟩:=h.bk.fX i k j T hd
 have hle:=oq (D:=D) v
 rw [hd] at hle
 have aQ:=h.bk.iK
 obtain ⟨n',rfl⟩:∃ n',n=n'+1:=⟨n - 1,by omega⟩
 obtain ⟨aT,aS,aJ,ak⟩:=aA aP
 obtain ⟨R,H⟩:=y
 rcases ak w s (h.mem.fits i _ z) (uB h.mem) (h.bk.iz.nY hle) (h.bk.aig.okW hle) with hb | ⟨g',w',es,T',s',a,aM,U,ak,G,ad⟩
 ·exact .inl hb
 right
 have ae:∀ sl,runT F.P (crowd gs w sl) i=(.next (crowd ((gs.map (Conc.woken F.P g g' w')).setIfInBounds i g') w' sl),MemOp.ofEvents i g.frame.fn g.frame.place es):=λ sl=>runT_crowd_go hi (by rw [aG]; exact ak)
 have I:((gs.map (Conc.woken F.P g g' w')).setIfInBounds i g').size=gs.size:=by simp
 have ao:=Bh h.mem
 have aD:=s7 h.mem
 have wk:(g'.status = .running∨g'.status = .finished)→(mayWake F.P g=true∧g'.status ≠ .blocked∧g'.status ≠ .waiting)∨(s'.ms≤s.ms∧s'.ws≤s.ws):=λ aq=>by
  rcases a.xX with aa | aa
  ·exact .inl ⟨aJ aa,by rcases aq with e | e <;> rw [e] <;> simp,by rcases aq with e | e <;> rw [e] <;> simp⟩
  ·exact .inr aa
 have other:∀ (x1:Option Th) (x2:Bool) (x3:Nat),∀ j,j≠i→dm th i x1 j=th j∧gz mu i x2 j=mu j∧dx dd i x3 j=dd j:=λ x1 x2 x3 j aj=>⟨cu aj,xS aj,iW aj⟩
 have ag:gz mu i (mu i)=mu:=by funext j; unfold gz; split <;> simp [*]
 by_cases l:T' = .quit
 ·
  subst l
  obtain ⟨q,l⟩:=ad
  have M:(T = .d1∨T = .d4):=a.inv.2.2 rfl
  have aH:j=F.J:=by rcases M with rfl | rfl <;> exact aO
  have aK:mu i=true:=by rw [X]; rcases M with rfl | rfl <;> rfl
  have aE:dd i=1:=by rw [C]; rcases M with rfl | rfl <;> rfl
  have aC:hf F es:=by rcases M with rfl | rfl <;> exact U
  obtain ⟨f,d⟩:=h.bk.quit hd v a aH (by rcases M with rfl | rfl <;> rfl)
  have S:(cnt (bI D i .no) gs.size).hl=(cnt D gs.size).hl:=by
   have:=(jS (D:=D) v .no).hl
   rw [hd] at this
   rcases M with rfl | rfl <;> simpa [cA,cW,Cn.busy,Cn.zero] using this
  have p:=(bX.uP (fn:=g.frame.fn) (pos:=g.frame.place) h.mem h.tr z aC (.inr (by omega))).die aK
  rw [← G.size] at p
  refine ⟨_,_,_,_,fL m i (some (ih q)),js,s',dm th i none,gz mu i (mu i),dx dd i (dd i),ae,I,h.iV hi (wk l.status) (Nat.le_of_lt d) (by rw [S]; exact cR.drop (h.mem.put G)) (by rw [S,ag,fM]; exact p) ?_ (other _ _ _) f,by rw [I]; exact d⟩
  rw [cQ,iX,aE]
  exact ⟨rfl,Y,q,rfl,l⟩
 by_cases W:T = .la
 ·
  subst W
  cases a
  obtain ⟨r,u⟩:=ad js ok
  obtain ⟨f,d⟩:=h.bk.work (T':=.ul js) hd v .la trivial rfl rfl (by simp)
  have ap:=f.iK
  have O:MM F Q (bI D i (.wk k j (.ul js))) s gs.size≤n':=by omega
  have ac:(cnt D gs.size).hl=0:=by
   have:=h.bk.iz.ow; have:=h.bk.iz.l1
   have:=hle.ow
   simp only [cA,cW,Cn.busy,Cn.zero] at this
   omega
  have V:(cnt (bI D i (.wk k j (.ul js))) gs.size).hl=1:=by
   have:=(jS (D:=D) v (.wk k j (.ul js))).hl
   rw [hd] at this
   simp only [cA,cW,Cn.busy,Cn.zero] at this
   omega
  have e1:es=said (.acquire (am F)):=U
  subst e1
  have hm:=h.mem
  have Z:=h.tr
  rw [ac] at hm Z
  have A:dd i=0:=by rw [C]; rfl
  have p:=bX.acquire (b:=F.bo) (o:=F.cont js) (y:=⟨i,g.frame.fn,g.frame.place,.mark (.acquire (am F))⟩) Z z rfl rfl A ao
  rw [← G.size,← q5] at p
  refine ⟨_,_,_,_,fL m i (some r),js,s,dm th i (some ⟨R,(F.bo,F.cont js)::H⟩),gz mu i (mu i),dx dd i 0,ae,I,h.iV hi (wk (.inl (u.n7 λ R H g L=>(KW.run L (by omega) trivial).1))) (Nat.le_of_lt d) (by rw [V]; exact cR.take (hm.put G) z (by omega)) (by rw [V,ag,show dx dd i 0=dd by rw [← A]; exact fM _ _]; exact p) ?_ (other _ _ _) f,by rw [I]; exact d⟩
  rw [cQ,iX,um,X]
  exact ⟨Y,rfl,rfl,_,n',rfl,O,.inl ⟨r,rfl,u⟩⟩
 by_cases ar:dH T=true
 ·
  cases T with
  | ur av =>
   have aI:av=js:=az
   subst aI
   cases a
   obtain ⟨aU,H',e1,K,r,u⟩:=ad
   cases e1
   subst K
   obtain ⟨f,d⟩:=h.bk.ur hd v
   have ap:=f.iK
   have O:MM F Q (bI D i (.wk k (j+1) .ud)) s gs.size≤n':=by omega
   have V:(cnt D gs.size).hl≠0:=by
    have:=hle.hl
    simp only [cA,cW,Cn.busy,Cn.zero] at this
    omega
   have ac:(cnt (bI D i (.wk k (j+1) .ud)) gs.size).hl=0:=by
    have:=(jS (D:=D) v (.wk k (j+1) .ud)).hl
    rw [hd] at this
    simp only [cA,cW,Cn.busy,Cn.zero] at this
    have:=h.bk.iz.ow; have:=h.bk.iz.l1
    omega
   have e1:es=said (.releaseMerge (am F)):=U
   subst e1
   have A:dd i=0:=by rw [C]; rfl
   have Z:=h.tr
   rw [show hA F (cnt D gs.size).hl=none by simp [hA,V]] at Z
   have p:=bX.release (H':=H') (y:=⟨i,g.frame.fn,g.frame.place,.mark (.releaseMerge (am F))⟩) Z z (List.mem_cons_self) (λ x aa=>List.mem_cons_of_mem _ aa) rfl rfl A ao
   rw [← G.size,← q5] at p
   refine ⟨_,_,_,_,fL m i (some r),dx av k (j+1),s,dm th i (some ⟨R,H'⟩),gz mu i (mu i),dx dd i 0,ae,I,h.iV hi (wk (.inl (u.n7 λ R H g L=>(KW.run L (by omega) trivial).1))) (Nat.le_of_lt d) (by rw [ac]; exact cR.Ii (h.mem.put G) V z) (by rw [ac,ag,show dx dd i 0=dd by rw [← A]; exact fM _ _]; exact p) ?_ (other _ _ _) f,by rw [I]; exact d⟩
   rw [cQ,iX,um,X]
   exact ⟨Y,rfl,rfl,_,n',rfl,O,.inl ⟨r,rfl,u⟩⟩
  | _=>cases ar
 have af:dH T=false:=by simpa using ar
 have aN:mA js T':=by
  cases a
  case la=>exact absurd rfl W
  case ul=>exact az
  case r0=>exact tI _
  case r1=>exact tI _
  case r3=>exact tI _
  case ln=>exact tI _
  case lC=>exact Ng _
  case kB c _ _=>cases c.ws <;> trivial
  case s1 c _ _=>cases c.sv <;> trivial
  case lE=>exact Cm _
  case ux=>exact Cm _
  all_goals trivial
 obtain ⟨f,d⟩:=h.bk.work hd v a aM aN af l
 have ap:=f.iK
 have O:MM F Q (bI D i (.wk k j T')) s' gs.size≤n':=by omega
 have E:=M5 a W af l ad
 have ay:hL F.N T':=by
  have:=f.fX i k j T' (eJ _ _ _)
  exact this.1
 have S:(cnt (bI D i (.wk k j T')) gs.size).hl=(cnt D gs.size).hl:=by
  have:=(jS (D:=D) v (.wk k j T')).hl
  rw [hd] at this
  have e:(cW T').hl=(cW T).hl:=by
   cases a
   case la=>exact absurd rfl W
   case ur=>cases af
   case r0=>rw [iB]; rfl
   case r1=>rw [iB]; rfl
   case r3=>rw [iB]; rfl
   case ln=>rw [iB]; rfl
   case lC=>rw [vn]; rfl
   case kB c _ _=>cases c.ws <;> rfl
   case s1 c _ _=>cases c.sv <;> rfl
   case re c _=>generalize (c.sv && _)=b; cases b <;> rfl
   case a1 b=>cases b <;> rfl
   case lE=>unfold hu; split <;> rfl
   case ux=>unfold hu; split <;> rfl
   all_goals rfl
  simp only [cA] at this
  omega
 have aF:g'.status = .running:=by
  cases hm:eS T' with
  | true =>
   simp only [hm,if_true] at E
   obtain ⟨q,l⟩:=E
   exact l.run λ g L=>(L.run (by omega) ay).1
  | false =>
   simp only [hm,fi,if_false] at E
   obtain ⟨r,u⟩:=E
   exact u.n7 λ R H g L=>(KW.run L (by omega) ay).1
 obtain ⟨m',aL⟩:∃ m',hg F (MM F Q (bI D i (.wk k j T')) s' gs.size) s' i m' (some ⟨R,H⟩) (eS T') (gC T') g' (.wk k j T'):=by
  cases hm:eS T' with
  | true =>
   simp only [hm,if_true] at E
   obtain ⟨q,l⟩:=E
   exact ⟨some (ih q),Y,rfl,hm.symm,_,n',rfl,O,by rw [if_pos hm]; exact ⟨q,rfl,l⟩⟩
  | false =>
   simp only [hm,fi,if_false] at E
   obtain ⟨r,u⟩:=E
   exact ⟨some r,Y,rfl,hm.symm,_,n',rfl,O,by rw [if_neg (by simp [hm])]; exact .inl ⟨r,rfl,u⟩⟩
 have p:bX (some (am F)) (some (aw F)) th (gz mu i (eS T')) (dx dd i (gC T')) [F.bm,F.bw] (hA F (cnt D gs.size).hl) w.heap.size (t++MemOp.ofEvents i g.frame.fn g.frame.place es):=by
  by_cases au:T = .wr
  ·subst au
   cases a
   have e1:es=said (.releaseMerge (aw F)):=U
   subst e1
   have A:dd i=0:=by rw [C]; rfl
   have:=bX.Qc (y:=⟨i,g.frame.fn,g.frame.place,.mark (.releaseMerge (aw F))⟩) (i:=i) h.tr rfl rfl A aD
   rw [show dx dd i (gC .wk)=dd by rw [show gC .wk=dd i from A.symm]; exact fM _ _,q5]
   exact this
  ·have al:eS T'=eS T→gz mu i (eS T')=mu:=λ e=>by rw [e,← X]; exact ag
   cases Hd a U W af au l with
   | «at» aB e1 K =>
    rw [al K,e1,← C,fM]
    refine bX.uP h.mem h.tr z aB ?_
    rw [X,C]
    cases a <;> first | exact .inl rfl | exact .inr (b6 _) | (cases e1)
   | lX e1 K ah =>
    have:=bX.word (i:=i) (fn:=g.frame.fn) (pos:=g.frame.place) h.tr (m:=.disable) (.inl rfl)
    rw [al ah,K]
    rwa [show deafBehind (dd i) (said .disable)=1 by rw [C,e1]; rfl] at this
   | en e1 K ah =>
    have:=bX.word (i:=i) (fn:=g.frame.fn) (pos:=g.frame.place) h.tr (m:=.enable) (.inr rfl)
    rw [al ah,K]
    rwa [show deafBehind (dd i) (said .enable)=0 by rw [C,e1]; rfl] at this
 rw [← G.size] at p
 refine ⟨_,_,_,_,fL m i m',js,s',dm th i (some ⟨R,H⟩),gz mu i (eS T'),dx dd i (gC T'),ae,I,h.iV hi (wk (.inl aF)) (Nat.le_of_lt d) (by rw [S,n8 z]; exact h.mem.put G) (by rw [S,n8 z]; exact p) (by rw [cQ,um,iX]; exact aL) (other _ _ _) f,by rw [I]; exact d⟩
end
section
variable {F:Fx} {Q:Nat} {T0:Mp} {D:Nat→Ab} {m:Nat→Ms} {js:Nat→Nat} {s s':Sh} {th:Nat→Option Th} {mu:Nat→Bool} {dd:Nat→Nat} {gs:Array Goroutine} {w w':World} {t:Trace} {sl:Option (Nat × Nat)} {i k j:Nat} {g g':Goroutine} {R:ax} {H:ai} {hl:Nat} {fn:FuncId} {pos:String}
theorem bX.ON{mk:Mark}(e:cR F.B th (dG F s js hl) w)(h:bX (some (am F)) (some (aw F)) th mu dd [F.bm,F.bw] (hA F hl) w.heap.size t)(hi:th 0=some ⟨R,H⟩)(hm:mk = .read (hV F)∨mk = .write (hV F))(f:mu 0=false) :
  bX (some (am F)) (some (aw F)) th mu dd [F.bm,F.bw] (hA F hl) w.heap.size (t++MemOp.ofEvents 0 fn pos (said mk)):=by
 rw [q5]
 have hd:Deaf (t++#[⟨0,fn,pos,.mark mk⟩]) 0=dd 0:=by
  rw [Deaf_push]
  unfold deafStep
  rcases hm with rfl | rfl <;> exact h.deaf 0
 have:=bX.app (u:=#[⟨0,fn,pos,.mark mk⟩]) (n':=w.heap.size) (R':=R) (H':=H) (d':=dd 0) e rfl (p8 F s js hl) (p7 F s js hl) h hi (λ op b=>by rw [lk b]) (λ op b a d=>?_) (λ op b=>?_) (λ op b a=>?_) hd (.inl f) (b6 _) (λ _ _ x=>.inl x) (λ _ o x=>.inl ⟨o,x⟩)
 ·rwa [n8 hi,fM] at this
 ·rw [lk b] at d
  refine .inr ⟨F.bw,?_,by simp,.inr ⟨?_,rfl⟩⟩ <;> rcases hm with rfl | rfl <;> (simp only [MemAct.touch?,eh] at d; subst d; rfl)
 ·rw [lk b]
  rcases hm with rfl | rfl <;> exact s7 e
 ·rw [lk b]
  rcases hm with rfl | rfl <;> (intro x; cases x)
theorem hg.mono{e f:Nat}{a:Ms}{x:Option Th}{b:Bool}{d:Nat}{A:Ab}(h:hg F e s i a x b d g A)(hle:f≤e):hg F f s i a x b d g A:=by
 cases A with
 | no=>exact h
 | wk k j T =>
  obtain ⟨h1,h2,h3,y,n,h4,l,h⟩:=h
  exact ⟨h1,h2,h3,y,n,h4,by omega,h⟩
 | mn T =>
  obtain ⟨h1,h2,h3,y,n,h4,l,h⟩:=h
  exact ⟨h1,h2,h3,y,n,h4,by omega,h⟩
inductive pH (F:Fx):Mp→Mp→Array Event→Prop
 | at {T T' es}:hf F es→gU T'=gU T→pH F T T' es
 | lX {T T'}:gU T=0→gU T'=1→pH F T T' (said .disable)
 | en {T T'}:gU T=1→gU T'=0→pH F T T' (said .enable)
 | sd {T T' mk}:gU T'=gU T→mk = .read (hV F)∨mk = .write (hV F)→pH F T T' (said mk)
theorem He{T T':Mp}(a:dC T s T' s'){es:Array Event}(he:m8 F T es)(h1:T ≠ .wq):pH F T T' es:=by
 cases a
 case ka=>rw [show es=said .disable from he]; exact .lX rfl rfl
 case wa=>rw [show es=said .disable from he]; exact .lX rfl rfl
 case ke=>rw [show es=said .enable from he]; exact .en rfl rfl
 case we=>rw [show es=said .enable from he]; exact .en rfl rfl
 case kd=>rw [show es=said (.read (hV F)) from he]; exact .sd rfl (.inl rfl)
 case wW=>rw [show es=said (.write (hV F)) from he]; exact .sd rfl (.inr rfl)
 case wq=>exact absurd rfl h1
 all_goals exact .at he rfl
theorem zq(h:MI F Q T0 D m js s th mu dd gs w t)(hi:gs[0]? = some g):dd 0=gU T0∧mu 0=false:=by
 have:=h.ko 0 g hi
 rw [h.bk.d0] at this
 exact ⟨this.2.1,this.2.2.1⟩
theorem KM.Ij{n r:Nat}(h:KM F (n+1) (.go r) R H g):∀ w s,Fits F.B R H w→cX F s w→gK F.N (.go r) s→∃ g' child,stepG F.P true g w = .spawn g' child w #[]∧Own F.P F.B false (KW F n (F.N - (r+1)) 0 .ld) R [] child∧Own F.P F.B true (KM F n (eZ r)) R H g':=h.2.2
theorem KM.Qa{n:Nat}(h:KM F (n+1) .wq R H g):∀ w s,Fits F.B R H w→cX F s w→gK F.N .wq s→∃ g' w',stepG F.P true g w = .go g' w' (said (.acquire (aw F)))∧bG F s w w'∧∀ js,(∀ k,k < F.N→js k=F.J)→F.mj R ((F.bo,F.cont js)::H) g':=h.2.2
theorem KM.other{n:Nat}{T:Mp}(h:KM F (n+1) T R H g)(h1:∀ r,T ≠ .go r)(h2:T ≠ .wq):∀ w s,Fits F.B R H w→cX F s w→gK F.N T s→(T = .w3∧s.ws=0∧stepG F.P true g w = .go { g with status:=.blocked } w #[]) ∨
  ∃ g' w' es T' s',dC T s T' s'∧m8 F T es∧stepG F.P true g w = .go g' w' es∧bG F s' w w'∧Own F.P F.B true (KM F n T') R H g':=by
 cases T <;> first | exact absurd rfl (h1 _) | exact absurd rfl h2 | exact h.2.2
theorem MI.main(h:MI F Q T0 D m js s th mu dd gs w t)(hi:gs[0]? = some g){y:Th}(f:th 0=some y){n:Nat}(ap:MM F Q D s gs.size≤n)(O:KM F n T0 y.R y.H g)(h2:T0 ≠ .wq) :
  (T0 = .w3∧s.ws=0∧stepG F.P true g w = .go { g with status:=.blocked } w #[]) ∨
  ∃ ep G w' ops L m' ef s' eG mu' dd',(∀ sl,runT F.P (crowd gs w sl) 0=(.next (crowd G w' sl),ops))∧MI F Q ep L m' ef s' eG mu' dd' G w' (t++ops)∧MM F Q L s' G.size < MM F Q D s gs.size:=by
 have X:=ni hi
 obtain ⟨u,A⟩:=zq h hi
 have ao:=h.bk.iK
 obtain ⟨n',rfl⟩:∃ n',n=n'+1:=⟨n - 1,by omega⟩
 obtain ⟨R,H⟩:=y
 have V:=h.mem.fits 0 _ f
 have aa:=uB h.mem
 have Y:=h.bk.aig.gK
 by_cases h1:∃ r,T0 = .go r
 ·
  right
  obtain ⟨r,rfl⟩:=h1
  obtain ⟨g',child,K,⟨M,af⟩,⟨l,aj⟩⟩:=O.Ij w s V aa Y
  obtain ⟨q,p⟩:=h.bk.spawn
  have al:=q.iK
  obtain ⟨an,ab,ac⟩:=h.out gs.size (b6 _)
  have d:((gs.setIfInBounds 0 g').push child).size=gs.size+1:=by simp
  have W:(cnt (bI (bI D gs.size (.wk (F.N - (r+1)) 0 .ld)) 0 (.mn (eZ r))) (gs.size+1)).hl=(cnt D gs.size).hl:=by
   have:=(zn (D:=D) h.bk.pos (.mn (eZ r)) (.wk (F.N - (r+1)) 0 .ld) rfl (by rw [h.bk.d0]; rfl)).hl
   simpa [cA,cW,Cn.busy,Cn.zero] using this
  have J:∀ sl,runT F.P (crowd gs w sl) 0=(.next (crowd ((gs.setIfInBounds 0 g').push child) w sl),#[⟨0,g.frame.fn,g.frame.place,.go gs.size⟩,⟨gs.size,child.frame.fn,g.frame.place,.start⟩]):=λ sl=>by
   have:=runT_crowd_spawn (P:=F.P) (sl:=sl) hi (show stepG F.P (0 == 0) g w=_ from K)
   rw [this]
   simp [MemOp.ofEvents]
  have U:dd 0=0:=by rw [u]; rfl
  have E:=h.tr.spawn (c:=gs.size) (x:=⟨0,g.frame.fn,g.frame.place,.go gs.size⟩) (y:=⟨gs.size,child.frame.fn,g.frame.place,.start⟩) f (aJ.refl R) an ⟨rfl,rfl⟩ ⟨rfl,rfl⟩ U ac (by omega) ab
  have ak:=h.mem.add (c:=gs.size) f (aJ.refl R)
  refine ⟨eZ r,_,w,_,_,fL (fL m gs.size (some M)) 0 (some l),js,s,_,mu,dx dd 0 (gU (eZ r)),J,⟨by rw [d,W]; exact ak,?_,λ a x b=>?_,λ a b=>?_,by rw [d]; exact q⟩,by rw [d]; exact p⟩
  ·rw [d,W]
   have:dx dd 0 (gU (eZ r))=dd:=by
    rw [show gU (eZ r)=dd 0 by rw [U]; cases r <;> rfl]; exact fM _ _
   rw [this]; exact E
  ·rw [d]
   by_cases v:a=0
   ·subst v
    rw [Array.getElem?_push,if_neg (by simp; omega),iZ X] at b
    cases b
    rw [eJ,ru,iX,cu (by omega),f,A]
    exact ⟨rfl,rfl,rfl,_,n',rfl,by omega,.inl ⟨l,rfl,aj⟩⟩
   ·by_cases z:a=gs.size
    ·subst z
     rw [Array.getElem?_push,if_pos (by simp)] at b
     cases b
     rw [cZ (by omega),eJ,pB (by omega),ru,iW (by omega),cQ,ab,ac]
     exact ⟨by omega,rfl,rfl,_,n',rfl,by omega,by rw [if_neg (by simp [eS])]; exact .inl ⟨M,rfl,af⟩⟩
    ·rw [Array.getElem?_push,if_neg (by simp; omega),fN (by omega)] at b
     rw [cZ v,cZ z,pB v,pB z,iW v,cu z]
     exact (h.ko a x b).mono (Nat.le_of_lt p)
  ·rw [d] at b
   rw [cu (by omega),iW (by omega)]
   exact h.out a (by omega)
 have ad:∀ r,T0 ≠ .go r:=λ r e=>h1 ⟨r,e⟩
 rcases O.other ad h2 w s V aa Y with hb | ⟨g',w',es,T',s',C,ag,K,Z,l,ae⟩
 ·exact .inl hb
 right
 have ah:T' ≠ .fin:=λ e=>by subst e; cases C; exact h2 rfl
 have J:∀ sl,runT F.P (crowd gs w sl) 0=(.next (crowd ((gs.map (Conc.woken F.P g g' w')).setIfInBounds 0 g') w' sl),MemOp.ofEvents 0 g.frame.fn g.frame.place es):=λ sl=>runT_crowd_go hi (show stepG F.P (0 == 0) g w=_ from K)
 have d:((gs.map (Conc.woken F.P g g' w')).setIfInBounds 0 g').size=gs.size:=by simp
 obtain ⟨q,p⟩:=h.bk.ML C ah
 have al:=q.iK
 have S:(cnt (bI D 0 (.mn T')) gs.size).hl=(cnt D gs.size).hl:=by
  have:=(jS (D:=D) X (.mn T')).hl
  rw [h.bk.d0] at this
  simpa [cA,Cn.zero] using this
 have E:bX (some (am F)) (some (aw F)) th mu (dx dd 0 (gU T')) [F.bm,F.bw] (hA F (cnt D gs.size).hl) w.heap.size (t++MemOp.ofEvents 0 g.frame.fn g.frame.place es):=by
  cases He C ag h2 with
  | «at» b e1 =>
   rw [e1,← u,fM]
   exact bX.uP h.mem h.tr f b (.inl A)
  | lX e1 o =>
   have:=bX.word (i:=0) (fn:=g.frame.fn) (pos:=g.frame.place) h.tr (m:=.disable) (.inl rfl)
   rw [o]
   rwa [show deafBehind (dd 0) (said .disable)=1 by rw [u,e1]; rfl] at this
  | en e1 o =>
   have:=bX.word (i:=0) (fn:=g.frame.fn) (pos:=g.frame.place) h.tr (m:=.enable) (.inr rfl)
   rw [o]
   rwa [show deafBehind (dd 0) (said .enable)=0 by rw [u,e1]; rfl] at this
  | sd e1 o =>
   rw [e1,← u,fM]
   exact bX.ON h.mem h.tr f o A
 rw [← Z.size] at E
 refine ⟨T',_,_,_,_,fL m 0 (some l),js,s',dm th 0 (some ⟨R,H⟩),gz mu 0 (mu 0),dx dd 0 (gU T'),J,h.iV hi (.inr C.xX) (Nat.le_of_lt p) (by rw [S,n8 f]; exact h.mem.put Z) ?_ ?_ (λ j I=>⟨cu I,xS I,iW I⟩) q,by rw [d]; exact p⟩
 ·rw [S,n8 f,show gz mu 0 (mu 0)=mu by funext j; unfold gz; split <;> simp [*]]; exact E
 ·rw [cQ,um,iX,A]
  exact ⟨rfl,rfl,rfl,_,n',rfl,by omega,.inl ⟨l,rfl,ae⟩⟩
theorem MI.Pv(h:MI F Q .wq D m js s th mu dd gs w t)(hi:gs[0]? = some g){y:Th}(S:th 0=some y){n:Nat}(ag:MM F Q D s gs.size≤n)(W:KM F n .wq y.R y.H g) :
  ∃ u g' w' ops q dd' R' H',(∀ sl,runT F.P (crowd gs w sl) 0=(.next (crowd u w' sl),ops))∧u[0]? = some g'∧F.mj R' H' g'∧kr F.P F.B R' H' u w' (t++ops) q dd':=by
 have ad:=ni hi
 obtain ⟨Y,af⟩:=zq h hi
 have an:=h.bk.iK
 obtain ⟨n',rfl⟩:∃ n',n=n'+1:=⟨n - 1,by omega⟩
 obtain ⟨R,H⟩:=y
 obtain ⟨g',w',aj,C,ae⟩:=W.Qa w s (h.mem.fits 0 _ S) (uB h.mem) h.bk.aig.gK
 have al:=h.bk.aig.wg
 obtain ⟨_,_,_,aq,ap,ao⟩:=al
 have heq:=h.bk.aig.eq
 have au:(cnt D gs.size).eI=0:=by omega
 have U:∀ a k j T,D a ≠ .wk k j T:=λ a k j T e=>by
  have d:a < gs.size:=by
   apply Classical.byContradiction
   intro ag
   rw [h.bk.out a (by omega)] at e; cases e
  have hle:=oq (D:=D) d
  rw [e] at hle
  have p:T ≠ .quit:=λ V=>by
   have:=(h.bk.fX a k j T e).2.1
   subst V; exact this
  have e1:=hle.lv
  have E:=hle.dw
  have G:=hle.d4
  simp only [cA] at e1 E G
  cases T <;> simp only [cW,Cn.busy,Cn.zero] at e1 E G <;> first | omega | skip
  case a1 b=>cases b <;> simp only [fi,if_false,if_true] at e1 <;> omega
  case quit=>exact p rfl
 have r:∀ a,a≠0→D a = .no:=λ a d=>by
  cases hd:D a with
  | no=>rfl
  | wk k j T=>exact absurd hd (U a k j T)
  | mn T=>exact absurd (h.bk.main a T hd) d
 have aa:(cnt D gs.size).hl=0:=by
  have:∀ n,b4 n (λ a=>(cA (D a)).hl)=0:=λ n=>by
   have e:b4 n (λ a=>(cA (D a)).hl)=b4 n (λ _=>0):=rp λ a _=>by
    by_cases d:a=0
    ·subst d; rw [h.bk.d0]; rfl
    ·rw [r a d]; rfl
   rw [e]
   have l:∀ n,b4 n (λ _=>0)=0:=by intro n; induction n with | zero=>rfl | succ n am=>simp only [b4,am]
   exact l n
  exact this _
 have ak:th=only ⟨R,H⟩:=by
  funext a
  unfold only
  split
  ·rename_i e; subst e; exact S
  ·rename_i e
   rcases Nat.lt_or_ge a gs.size with hl | Z
   ·have:=h.ko a _ (hc hl)
    rw [r a e] at this
    exact this.1
   ·exact (h.out a Z).1
 have ab:∀ k,k < F.N→js k=F.J:=λ k ac=>by
  rcases h.bk.done k (by simpa [rem] using ac) with z | ⟨a,j,T,z⟩
  ·exact z
  ·exact absurd z (U a k j T)
 have K:dd 0=0:=by rw [Y]; rfl
 have hm:=h.mem.put C
 have M:=h.tr
 rw [aa,ak] at hm M
 have X:F.bo < w.heap.size:=by rw [← C.size]; exact ft (hm.gn F.bo (F.cont js) (by simp [dG]))
 have O:=bX.PV (b:=F.bo) (o:=F.cont js) (y:=⟨0,g.frame.fn,g.frame.place,.mark (.acquire (aw F))⟩) M X rfl rfl K af (s7 h.mem)
 rw [← C.size,← q5] at O
 have A:=cR.take (hl':=1) hm (i:=0) rfl (by omega)
 rw [tO] at A
 have ah:∀ sl,runT F.P (crowd gs w sl) 0=(.next (crowd ((gs.map (Conc.woken F.P g g' w')).setIfInBounds 0 g') w' sl),MemOp.ofEvents 0 g.frame.fn g.frame.place (said (.acquire (aw F)))):=λ sl=>runT_crowd_go hi (show stepG F.P (0 == 0) g w=_ from aj)
 have ar:((gs.map (Conc.woken F.P g g' w')).setIfInBounds 0 g').size=gs.size:=by simp
 refine ⟨_,g',w',_,λ a=>match m a with | some T=>Classical.epsilon λ q=>m a=some (ih q)∧∀ x,gs[a]? = some x→QuitsD F.P q (dd a) x | none=>0,dd,R,(F.bo,F.cont js)::H,ah,iZ (by simpa using ad),ae js ab,⟨⟨A.fits,A.apart,λ c o v=>(by cases v),λ c o v=>(by cases v)⟩,O,K,λ a d=>(h.out a (by simpa using d)).2.2,λ a x d f=>?_⟩⟩
 rw [fN (by omega),Array.getElem?_map] at f
 obtain ⟨z,l,rfl⟩:=Option.map_eq_some_iff.1 f
 have L:=h.ko a z l
 rw [r a (by omega)] at L
 obtain ⟨_,_,q,p,I⟩:=L
 rw [woken_quitsD I]
 have hex:∃ q,m a=some (ih q)∧∀ x,gs[a]? = some x→QuitsD F.P q (dd a) x:=⟨q,p,λ x f=>by rw [l] at f; cases f; exact I⟩
 have:=(Classical.epsilon_spec hex).2 z l
 simp only [p] at this ⊢
 exact this
def tU(m:Nat→Ms)(gs:Array Goroutine):Nat:=b4 gs.size λ a=>if (m a).isNone∧(gs[a]?.map (·.status))=some .running then 1 else 0
def pI(a b:Nat × List Ms × Nat):Prop:=a.1 < b.1∨(a.1=b.1∧(One gR a.2.1 b.2.1∨(a.2.1=b.2.1∧a.2.2 < b.2.2)))
theorem pI.wf:WellFounded pI:=by
 have key:∀ p l r,Acc pI (p,l,r):=by
  intro p
  induction p using Nat.strongRecOn with
  | ind p d =>
   intro l
   induction l using One.wf.induction with
   | _ l b =>
    intro r
    induction r using Nat.strongRecOn with
    | ind r e =>
     refine ⟨_,λ y a=>?_⟩
     obtain ⟨q,l',r'⟩:=y
     rcases a with h | ⟨h1,h2 | ⟨h2,h3⟩⟩
     ·exact d q h l' r'
     ·simp only at h1; subst h1; exact b l' h2 r'
     ·simp only at h1 h2; subst h1 h2; exact e r' h3
 exact ⟨λ ⟨p,l,r⟩=>key p l r⟩
def pf(F:Fx)(Q:Nat)(D:Nat→Ab)(m:Nat→Ms)(s:Sh)(gs:Array Goroutine):Nat × List Ms × Nat:=(MM F Q D s gs.size,(List.range gs.size).map m,tU m gs)
theorem xc{m:Nat→Ms}{n i:Nat}{a b:Ms}(hi:i < n)(hb:m i=b)(hl:gR a b):One gR ((List.range n).map (fL m i a)) ((List.range n).map m):=by
 have e:(List.range n).map (fL m i a)=((List.range n).map m).set i a:=by
  apply List.ext_getElem?
  intro j
  rw [List.getElem?_set]
  by_cases d:i=j
  ·subst d; simp [hi,ru]
  ·simp only [d,if_false,List.getElem?_map]
   cases h:(List.range n)[j]? with
   | none=>rfl
   | some k =>
    have f:k=j:=by
     obtain ⟨_,h2⟩:=dU.1 h
     simpa using h2.symm
    subst f
    simp [pB (Ne.symm d)]
 rw [e]
 exact One.set (by simp [hi,hb]) hl
end
theorem xM{f:Nat→Nat}:∀ {n:Nat},0 < b4 n f→∃ i,i < n∧0 < f i
 | n+1,h=>by
  simp only [b4] at h
  rcases Nat.eq_zero_or_pos (f n) with b | a
  ·obtain ⟨i,hi,h2⟩:=xM (n:=n) (f:=f) (by omega)
   exact ⟨i,by omega,h2⟩
  ·exact ⟨n,by omega,a⟩
section
variable {F:Fx} {Post:Value→World→Prop} {Q:Nat} {T0:Mp} {D:Nat→Ab} {m:Nat→Ms} {js:Nat→Nat} {s s':Sh} {th:Nat→Option Th} {mu:Nat→Bool} {dd:Nat→Nat} {gs:Array Goroutine} {w w':World} {t:Trace} {sl:Option (Nat × Nat)} {i k j:Nat} {g g':Goroutine}
theorem MI.look(h:MI F Q T0 D m js s th mu dd gs w t)(hi:gs[i]? = some g):(g.status = .running)∨(g.status = .finished∧D i = .no)∨(g.status = .blocked∧m i=none∧((∃ k j c,D i = .wk k j (.s1 c)∧s.ms=0)∨(D i = .mn .w3∧s.ws=0))) :=
 (h.ko i g hi).look h.bk.iK (h.fX i)
theorem MI.awake(h:MI F Q T0 D m js s th mu dd gs w t):∀ x∈gs,awake x:=by
 intro x a
 obtain ⟨i,hi,rfl⟩:=Array.mem_iff_getElem.1 a
 rcases h.look (hc hi) with e | ⟨e,_⟩ | ⟨e,_⟩
 ·exact awake_of (.inl e)
 ·exact awake_of (.inr (.inr e))
 ·exact awake_of (.inr (.inl e))
theorem MI.C2(h:MI F Q T0 D m js s th mu dd gs w t):∃ (i:Nat) (g:Goroutine),gs[i]? = some g∧g.status = .running:=by
 apply Classical.byContradiction
 intro l
 have o:∀ i,i < gs.size→∀ k j T,D i = .wk k j T→∃ c,T = .s1 c∧s.ms=0:=λ i hi k j T hd=>by
  rcases h.look (hc hi) with e | ⟨_,e⟩ | ⟨_,_,⟨q,j',c,e,d⟩ | ⟨e,_⟩⟩
  ·exact absurd ⟨i,_,hc hi,e⟩ l
  ·rw [hd] at e; cases e
  ·rw [hd] at e; cases e; exact ⟨c,rfl,d⟩
  ·rw [hd] at e; cases e
 have b:∀ f:Cn→Nat,f .zero=0→(∀ c,f (cW (.s1 c))=0)→b4 gs.size (λ i=>f (cA (D i)))=0:=λ f v h1=>by
  apply Classical.byContradiction
  intro M
  obtain ⟨i,hi,a⟩:=xM (n:=gs.size) (f:=λ i=>f (cA (D i))) (by omega)
  cases hd:D i with
  | no=>rw [hd] at a; simp only [cA] at a; omega
  | mn T=>rw [hd] at a; simp only [cA] at a; omega
  | wk k j T =>
   obtain ⟨c,rfl,_⟩:=o i hi k j T hd
   rw [hd] at a; simp only [cA,h1] at a; omega
 have p:T0 = .w3∧s.ws=0:=by
  have hi:=hc h.bk.pos
  rcases h.look hi with e | ⟨_,e⟩ | ⟨_,_,⟨q,j',c,e,d⟩ | ⟨e,d⟩⟩
  ·exact absurd ⟨0,_,hi,e⟩ l
  ·rw [h.bk.d0] at e; cases e
  ·rw [h.bk.d0] at e; cases e
  ·rw [h.bk.d0] at e; cases e; exact ⟨rfl,d⟩
 obtain ⟨rfl,V⟩:=p
 have G:(cnt D gs.size).dw=0:=b (·.dw) rfl λ _=>rfl
 have E:(cnt D gs.size).d4=0:=b (·.d4) rfl λ _=>rfl
 have L:(cnt D gs.size).ow=0:=b (·.ow) rfl λ _=>rfl
 have I:(cnt D gs.size).hl=0:=b (·.hl) rfl λ _=>rfl
 have P:(cnt D gs.size).pu=0:=b (·.pu) rfl λ _=>rfl
 have O:(cnt D gs.size).pc=0:=b (·.pc) rfl λ _=>rfl
 have C:(cnt D gs.size).al=0:=b (·.al) rfl λ _=>rfl
 have y:(cnt D gs.size).a1=0:=b (·.a1) rfl λ _=>rfl
 have A:(cnt D gs.size).ak=0:=b (·.ak) rfl λ _=>rfl
 have S:(cnt D gs.size).ux=0:=b (·.ux) rfl λ _=>rfl
 have U:(cnt D gs.size).wk=0:=b (·.wk) rfl λ _=>rfl
 have J:0 < (cnt D gs.size).lv:=by
  rcases h.bk.aig.wg with ⟨_,_,_,h4,⟨_,h6⟩ | ⟨h5,_⟩⟩ | ⟨_,_,_,_,h5⟩
  ·omega
  ·omega
  ·omega
 have heq:=h.bk.aig.eq
 unfold Cn.eI at heq
 have d:0 < (cnt D gs.size).z:=by omega
 obtain ⟨i,hi,a⟩:=xM (n:=gs.size) (f:=λ i=>(cA (D i)).z) d
 have K:s.ms=0:=by
  cases hd:D i with
  | no=>rw [hd] at a; simp [cA,Cn.zero] at a
  | mn T=>rw [hd] at a; simp [cA,Cn.zero] at a
  | wk k j T=>exact (o i hi k j T hd).choose_spec.2
 have a1:=h.bk.iz.ow
 have r:=h.bk.iz.md
 have u:=h.bk.iz.i4
 omega
theorem MQ{gs:Array Goroutine}{g:Goroutine}{w:World}:gs.map (Conc.woken F.P g { g with status:=.blocked } w)=gs:=by
 have:Conc.woken F.P g { g with status:=.blocked } w=id:=by funext o; simp [Conc.woken]
 rw [this,Array.map_id]
theorem MI.ghost(h:MI F Q T0 D m js s th mu dd gs w t)(hi:gs[i]? = some g){m':Ms}{x:Th}{R:ax}{H:ai}(l:th i=some ⟨R,H⟩)(hu:dg F.B R H w x.R x.H w)(d:hg F (MM F Q D s gs.size) s i m' (some x) (mu i) (dd i) g (D i)) :
  MI F Q T0 D (fL m i m') js s (dm th i (some x)) mu dd gs w t:=by
 obtain ⟨hm,f⟩:=Aw h.mem (p8 F s js _) (p7 F s js _) h.tr l hu
 have o:=ni hi
 refine ⟨hm,f,λ a y b=>?_,λ a b=>?_,h.bk⟩
 ·by_cases e:a=i
  ·subst e
   rw [hi] at b; cases b
   rw [ru,cQ]; exact d
  ·rw [pB e,cu e]; exact h.ko a y b
 ·rw [cu (by omega)]; exact h.out a b
theorem MI.NH(aB:F.mj=eo F.P F.B Post):∀ (Z:Nat × List Ms × Nat) (gs:Array Goroutine) (w:World) (sl:Option (Nat × Nat)) (t:Trace) (T0:Mp) (D:Nat→Ab) (m:Nat→Ms) (js:Nat→Nat) (s:Sh) (th:Nat→Option Th) (mu:Nat→Bool) (dd:Nat→Nat),
  MI F Q T0 D m js s th mu dd gs w t→pf F Q D m s gs=Z→∀ i g,gs[i]? = some g→g.status = .running→∀ G,stepT F.P G=runT F.P (crowd gs w sl) i→fl F.P Post G t:=by
 intro Z
 induction Z using pI.wf.induction with
 | _ Z ag =>
  intro gs w sl t T0 D m js s th mu dd h aJ i g hi z G O
  subst aJ
  have X:=ni hi
  have next:∀ (o:Array Goroutine) (w':World) (ah:Option (Nat × Nat)) (t':Trace) (ep:Mp) (A:Nat→Ab) (m':Nat→Ms) (ef:Nat→Nat) (s':Sh) (eG:Nat→Option Th) (mu':Nat→Bool) (dd':Nat→Nat),MI F Q ep A m' ef s' eG mu' dd' o w' t' →
    pI (pf F Q A m' s' o) (pf F Q D m s gs)→fl F.P Post (crowd o w' ah) t':=by
   intro o w' ah t' ep A m' ef s' eG mu' dd' ab hl
   obtain ⟨a,aq,d,aK,M,aG,p⟩:=crowd_pick (P:=F.P) (gs:=o) (w:=w') (sl:=ah) ab.awake ab.C2
   exact ag _ hl o (w'.at d) aK t' ep A m' ef s' eG mu' dd' (ab.at d) rfl a aq M aG _ p
  have u:=h.ko i g hi
  have go:∀ (m':Ms) (x:Option Th) (d':Nat) (g':Goroutine) (w':World) (es:Array Event),stepG F.P (i == 0) g w = .go g' w' es→cR F.B (dm th i x) (dG F s js (cnt D gs.size).hl) w' →
    bX (some (am F)) (some (aw F)) (dm th i x) mu (dx dd i d') [F.bm,F.bw] (hA F (cnt D gs.size).hl) w'.heap.size (t++MemOp.ofEvents i g.frame.fn g.frame.place es) →
    hg F (MM F Q D s gs.size) s i m' x (mu i) d' g' (D i)→(gR m' (m i)∨(m'=m i∧m i=none∧g'={ g with status:=.blocked }))→fl F.P Post G t:=by
   intro m' x d' g' w' es p hm Y aH aC
   have L:=runT_crowd_go (P:=F.P) (sl:=sl) hi p
   have C:=h.still hi (m':=m') (eG:=dm th i x) (dd':=dx dd i d') (g':=g') (w':=w') hm Y (by rw [cQ,iX]; exact aH) (λ a M=>⟨cu M,iW M⟩)
   refine fl.step (O.trans L) (next _ _ _ _ _ _ _ _ _ _ _ _ C ?_)
   have ak:((gs.map (Conc.woken F.P g g' w')).setIfInBounds i g').size=gs.size:=by simp
   unfold pf
   rw [ak]
   rcases aC with hl | ⟨e1,an,ao⟩
   ·exact .inr ⟨rfl,.inl (xc X rfl hl)⟩
   ·subst ao
    have em:fL m i m'=m:=by funext a; unfold fL; split <;> simp [*]
    refine .inr ⟨rfl,.inr ⟨by rw [em],?_⟩⟩
    show tU _ _ < tU _ _
    rw [em]
    unfold tU
    rw [ak,MQ]
    have:=n5 (f:=λ a=>if (m a).isNone∧(gs[a]?.map (·.status))=some .running then 1 else 0) (g:=λ a=>if (m a).isNone∧(((gs.setIfInBounds i { g with status:=.blocked })[a]?).map (·.status))=some .running then 1 else 0) X (λ a M=>by
     simp only [fN (Ne.symm M)])
    simp only [an,hi,Option.isNone_none,Option.map_some,z,true_and,if_true,iZ X] at this
    simp at this
    simp
    omega
  have J:∀ x,th i=x→dm th i x=th:=λ x aI=>n8 aI
  have nx:(∃ o w' ops A m' ef s' eG mu' dd',(∀ sl,runT F.P (crowd gs w sl) i=(.next (crowd o w' sl),ops))∧o.size=gs.size∧MI F Q T0 A m' ef s' eG mu' dd' o w' (t++ops)∧MM F Q A s' o.size < MM F Q D s gs.size)→fl F.P Post G t:=by
   rintro ⟨o,w',ops,A,m',ef,s',eG,mu',dd',L,_,C,hl⟩
   exact fl.step (O.trans (L sl)) (next _ _ _ _ _ _ _ _ _ _ _ _ C (.inl hl))
  cases hd:D i with
  | no =>
   rw [hd] at u
   obtain ⟨r,U,q,ae,E⟩:=u
   have W:(i == 0)=false:=by simp; omega
   cases q with
   | zero=>rw [E.1] at z; cases z
   | succ q =>
    rcases E with e | ⟨_,g',es,ay,p,E⟩
    ·rw [e.1] at z; cases z
    ·refine go (some (ih q)) none (deafBehind (dd i) es) g' w es (by rw [W]; exact p w) ?_ ?_ ?_ (.inl (by rw [ae]; exact Cg q))
     ·rw [J _ r]; exact h.mem
     ·rw [J _ r]; exact h.tr.leaves ay
     ·rw [hd]; exact ⟨rfl,U,q,rfl,E⟩
  | wk k j T =>
   rw [hd] at u
   obtain ⟨U,I,v,y,n,l,r,u⟩:=u
   have W:(i == 0)=false:=by simp; omega
   have stop:KW F n k j T y.R y.H g→fl F.P Post G t:=by
    intro b
    rcases h.work hi hd l r b with ⟨⟨c,rfl⟩,af,p⟩ | hN
    ·refine go none (some y) (dd i) _ w #[] (by rw [W]; exact p) ?_ ?_ ?_ ?_
     ·rw [J _ l]; exact h.mem
     ·rw [J _ l,fM,ofEvents_none,Array.append_empty]; exact h.tr
     ·rw [hd]
      have ho:=h.fX i k j _ hd
      have aE:=h.bk.iK
      exact ⟨U,I,v,y,n,rfl,r,by rw [if_neg (by simp [eS])]; exact .inr ⟨rfl,⟨c,rfl⟩,g,b,z,(KW.run b (by omega) ho).2,.inr ⟨rfl,af⟩⟩⟩
     ·cases aA:m i with
      | none=>exact .inr ⟨rfl,rfl,rfl⟩
      | some T'=>exact .inl .none
    ·exact nx hN
   by_cases S:eS T=true
   ·rw [if_pos S] at u
    obtain ⟨q,ae,E⟩:=u
    cases q with
    | zero=>exact stop E
    | succ q =>
     rcases E with b | ⟨_,g',p,E⟩
     ·exact stop b
     ·refine go (some (ih q)) (some y) (dd i) g' w #[] (by rw [W]; exact p w) ?_ ?_ ?_ (.inl (by rw [ae]; exact Cg q))
      ·rw [J _ l]; exact h.mem
      ·rw [J _ l,fM,ofEvents_none,Array.append_empty]; exact h.tr
      ·rw [hd]; exact ⟨U,I,v,y,n,rfl,r,by rw [if_pos S]; exact ⟨q,rfl,E⟩⟩
   ·rw [if_neg S] at u
    have aj:mu i=false:=by rw [v]; simpa using S
    rcases u with ⟨aa,V,K⟩ | ⟨hm,⟨c,rfl⟩,ap,b,aF,aD,ac⟩
    ·obtain ⟨ι,f⟩:=aa
     obtain ⟨R,H⟩:=y
     rcases K with b | ⟨_,p⟩ | ⟨R',H',a,ad,K⟩
     ·exact stop b
     ·obtain ⟨g',w',es,R',H',a,h1,h2,h3,h4⟩:=p w (h.mem.fits i _ l)
      obtain ⟨hm,Y⟩:=q7 h.mem (p8 F s js _) (p7 F s js _) h.tr l (.inl aj) h2 (.inl aj) h3 g.frame.fn g.frame.place
      refine go (some (f a)) (some ⟨R',H'⟩) (dd i) g' w' es (by rw [W]; exact h1) hm (by rw [fM]; exact Y) ?_ (.inl (by rw [V]; exact .some (.mk f a)))
      rw [hd]; exact ⟨U,I,v,_,n,rfl,r,by rw [if_neg S]; exact .inl ⟨f a,rfl,h4⟩⟩
     ·have C:=h.ghost (x:=⟨R',H'⟩) (m':=some (f a)) hi l (ad w (h.mem.fits i _ l)) (by rw [hd]; exact ⟨U,I,v,_,n,rfl,r,by rw [if_neg S]; exact .inl ⟨f a,rfl,K⟩⟩)
      exact ag (pf F Q D (fL m i (some (f a))) s gs) (.inr ⟨rfl,.inl (xc X V (.some (.mk f a)))⟩) gs w sl t _ _ _ _ _ _ _ _ C rfl i g hi z G O
    ·rcases ac with rfl | ⟨rfl,_⟩
     ·exact stop b
     ·cases z
  | mn T =>
   have ar:i=0:=h.bk.main i T hd
   subst ar
   have av:T=T0:=by have:=h.bk.d0; rw [hd] at this; cases this; rfl
   subst av
   rw [hd] at u
   obtain ⟨_,I,v,y,n,l,r,u⟩:=u
   have stop:KM F n T y.R y.H g→fl F.P Post G t:=by
    intro b
    by_cases al:T = .wq
    ·subst al
     obtain ⟨o,g',w',ops,q,dd',R',H',L,az,hJ,au⟩:=h.Pv hi l r b
     rw [aB] at hJ
     exact fl.step (O.trans (L sl)) (hJ o w' sl _ q dd' az au)
    ·rcases h.main hi l r b al with ⟨rfl,af,p⟩ | ⟨ep,o,w',ops,A,m',ef,s',eG,mu',dd',L,C,hl⟩
     ·refine go none (some y) (dd 0) _ w #[] p ?_ ?_ ?_ ?_
      ·rw [J _ l]; exact h.mem
      ·rw [J _ l,fM,ofEvents_none,Array.append_empty]; exact h.tr
      ·rw [hd]
       have aE:=h.bk.iK
       exact ⟨rfl,I,v,y,n,rfl,r,.inr ⟨rfl,rfl,g,b,z,(KM.run b (by omega)).2,.inr ⟨rfl,af⟩⟩⟩
      ·cases aA:m 0 with
       | none=>exact .inr ⟨rfl,rfl,rfl⟩
       | some T'=>exact .inl .none
     ·exact fl.step (O.trans (L sl)) (next _ _ _ _ _ _ _ _ _ _ _ _ C (.inl hl))
   rcases u with ⟨aa,V,K⟩ | ⟨hm,rfl,ap,b,aF,aD,ac⟩
   ·obtain ⟨ι,f⟩:=aa
    obtain ⟨R,H⟩:=y
    rcases K with b | ⟨_,p⟩ | ⟨R',H',a,ad,K⟩
    ·exact stop b
    ·obtain ⟨g',w',es,R',H',a,h1,h2,h3,h4⟩:=p w (h.mem.fits 0 _ l)
     obtain ⟨hm,Y⟩:=q7 h.mem (p8 F s js _) (p7 F s js _) h.tr l (.inl v) h2 (.inl v) h3 g.frame.fn g.frame.place
     refine go (some (f a)) (some ⟨R',H'⟩) (dd 0) g' w' es h1 hm (by rw [fM]; exact Y) ?_ (.inl (by rw [V]; exact .some (.mk f a)))
     rw [hd]; exact ⟨rfl,I,v,_,n,rfl,r,.inl ⟨f a,rfl,h4⟩⟩
    ·have C:=h.ghost (x:=⟨R',H'⟩) (m':=some (f a)) hi l (ad w (h.mem.fits 0 _ l)) (by rw [hd]; exact ⟨rfl,I,v,_,n,rfl,r,.inl ⟨f a,rfl,K⟩⟩)
     exact ag (pf F Q D (fL m 0 (some (f a))) s gs) (.inr ⟨rfl,.inl (xc X V (.some (.mk f a)))⟩) gs w sl t _ _ _ _ _ _ _ _ C rfl 0 g hi z G O
   ·rcases ac with rfl | ⟨rfl,_⟩
    ·exact stop b
    ·cases z
theorem MI.runs(f:F.mj=eo F.P F.B Post)(h:MI F Q T0 D m js s th mu dd gs w t):fl F.P Post (crowd gs w sl) t:=by
 obtain ⟨a,b,d,p,e,l,o⟩:=crowd_pick (P:=F.P) (gs:=gs) (w:=w) (sl:=sl) h.awake h.C2
 exact MI.NH f _ gs (w.at d) p t T0 D m js s th mu dd (h.at d) rfl a b e l _ o
end
end Go.Lg
