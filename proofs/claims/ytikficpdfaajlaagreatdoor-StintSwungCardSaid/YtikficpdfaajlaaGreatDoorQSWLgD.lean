/- A mutex that any number of goroutines share; the machine of workers behind a mutex and a wait group: it runs to its end. Conditions: none. -/
import Derived.Test.YtikficpdfaajlaaGreatDoorQSWLgB
import Derived.Conc.MarkLaws
namespace Go.Lg
structure Wd where
 l:Nat
 w:Nat
 s:Nat
 n:Nat
 deriving DecidableEq
def Wd.val(m:Wd):Int:=m.l+2 * m.w+4 * m.s+8 * m.n
def Wd.ok(N:Nat)(m:Wd):Prop:=m.l≤1∧m.w≤1∧m.s≤1∧m.n≤N
def Wd.zero:Wd:=⟨0,0,0,0⟩
theorem Wd.val_inj{N N':Nat}{a b:Wd}(d:a.ok N)(hb:b.ok N')(h:a.val=b.val):a=b:=by
 obtain ⟨l,w,s,n⟩:=a
 obtain ⟨l',w',s',n'⟩:=b
 simp only [Wd.ok,Wd.val,Wd.mk.injEq] at *
 omega
structure Sh where
 mu:Wd
 ms:Nat
 v:Nat
 w:Nat
 ws:Nat
structure Lc where
 old:Wd
 aw:Bool
 sv:Bool
 it:Nat
 ws:Bool
inductive Lp
 | ld | l0 | r0 | sq (c:Lc) | c1 (c:Lc) | r1 (c:Lc) | c2 (c:Lc) | r3 (c:Lc) | t1 (c:Lc) | s1 (c:Lc) | t2 (c:Lc) | r2 (c:Lc) | a1 (keep:Bool)
 | le | lc | la | ul (js:Nat→Nat) | uv (js:Nat→Nat) | ur (js:Nat→Nat) | ud | u0 | uc (old:Wd) | ux | us | ue
 | wv | wr | wk | d1 | d2 | d3 | d4 | quit
def hd(c:Lc):Lp:=if c.old.l=1∧c.old.s=0 then .sq c else .c2 c
def nw(c:Lc):Wd:={ l:=if c.old.s=0 then 1 else c.old.l,w:=if c.aw then 0 else c.old.w,s:=if c.sv∧c.old.l=1 then 1 else c.old.s,n:=if c.old.l=1∨c.old.s=1 then c.old.n+1 else c.old.n }
def hu(m:Wd):Lp:=if m.n=0∨m.l=1∨m.w=1∨m.s=1 then .ue else .uc m
def fb(c:Lc):Lp:=if c.aw=false∧c.old.w=0∧c.old.n≠0 then .c1 c else .r1 c
inductive cz:Lp→Sh→Lp→Sh→Prop
 | ld {s}:cz .ld s .l0 s
 | Dr {s}:s.mu = .zero→cz .l0 s .le { s with mu:=⟨1,0,0,0⟩ }
 | Dq {s}:s.mu ≠ .zero→cz .l0 s .r0 s
 | r0 {s}:cz .r0 s (hd ⟨s.mu,false,false,0,false⟩) s
 | wh {s c}:cz (.sq c) s (.c2 c) s
 | mE {s c}:c.it < 4→cz (.sq c) s (fb c) s
 | xr {s c}:s.mu=c.old→cz (.c1 c) s (.r1 { c with aw:=true }) { s with mu:={ c.old with w:=1 } }
 | xq {s c}:s.mu≠c.old→cz (.c1 c) s (.r1 c) s
 | r1 {s c}:cz (.r1 c) s (hd { c with old:=s.mu,it:=c.it+1 }) s
 | xy {s c}:s.mu=c.old→c.old.l=0→c.old.s=0→cz (.c2 c) s .le { s with mu:=nw c }
 | lQ {s c}:s.mu=c.old→(c.old.l=1∨c.old.s=1)→cz (.c2 c) s (if c.ws then .s1 c else .t1 c) { s with mu:=nw c }
 | xz {s c}:s.mu≠c.old→cz (.c2 c) s (.r3 c) s
 | r3 {s c}:cz (.r3 c) s (hd { c with old:=s.mu }) s
 | t1 {s c} (b:Bool):cz (.t1 c) s (.s1 { c with ws:=b }) s
 | s1 {s c m}:s.ms=m+1→cz (.s1 c) s (if c.sv then .r2 c else .t2 c) { s with ms:=m }
 | t2 {s c} (b:Bool):cz (.t2 c) s (.r2 { c with sv:=b }) s
 | s9 {s c}:s.mu.s=1→cz (.r2 c) s (.a1 (c.sv && s.mu.n != 1)) s
 | mr {s c}:s.mu.s=0→cz (.r2 c) s (hd { c with old:=s.mu,aw:=true,it:=0 }) s
 | a1 {s b}:cz (.a1 b) s .le { s with mu:=⟨1,s.mu.w,if b then s.mu.s else 0,s.mu.n - 1⟩ }
 | le {s}:cz .le s .lc s
 | lc {s}:cz .lc s .la s
 | la {s js}:cz .la s (.ul js) s
 | ul {s js}:cz (.ul js) s (.uv js) s
 | uv {s js}:cz (.uv js) s (.ur js) s
 | ur {s js}:cz (.ur js) s .ud s
 | ud {s}:cz .ud s .u0 s
 | Gp {s}:s.mu.w=0→s.mu.s=0→s.mu.n=0→cz .u0 s .ue { s with mu:={ s.mu with l:=0 } }
 | mF {s}:¬ (s.mu.w=0∧s.mu.s=0∧s.mu.n=0)→s.mu.s=0→cz .u0 s (hu { s.mu with l:=0 }) { s with mu:={ s.mu with l:=0 } }
 | Gn {s}:s.mu.s=1→cz .u0 s .us { s with mu:={ s.mu with l:=0 } }
 | Gq {s m}:s.mu=m→cz (.uc m) s .us { s with mu:={ m with w:=1,n:=m.n - 1 } }
 | z8 {s m}:s.mu≠m→cz (.uc m) s .ux s
 | ux {s}:cz .ux s (hu s.mu) s
 | us {s}:cz .us s .ue { s with ms:=s.ms+1 }
 | wC {s}:cz .ue s .ld s
 | wD {s}:cz .ue s .wv s
 | wv {s}:cz .wv s .wr s
 | wr {s}:cz .wr s .wk s
 | wk {s}:cz .wk s .d1 s
 | rI {s}:(s.v≠1∨s.w=0)→cz .d1 s .quit { s with v:=s.v - 1 }
 | xN {s}:s.v=1→s.w=1→cz .d1 s .d2 { s with v:=0 }
 | d2 {s}:cz .d2 s .d3 s
 | d3 {s}:cz .d3 s .d4 { s with v:=0,w:=0 }
 | d4 {s}:cz .d4 s .quit { s with ws:=s.ws+1 }
structure Cn where
 ow:Nat
 hl:Nat
 pu:Nat
 pc:Nat
 al:Nat
 z:Nat
 a1:Nat
 ak:Nat
 ux:Nat
 wk:Nat
 lv:Nat
 dw:Nat
 d4:Nat
def kg(c:Lc):Nat:=if c.aw then 1 else 0
def Cn.zero:Cn:=⟨0,0,0,0,0,0,0,0,0,0,0,0,0⟩
def Cn.busy:Cn:={ Cn.zero with wk:=1,lv:=1 }
def cW:Lp→Cn
 | .le | .lc | .la | .ud | .u0=>{ Cn.busy with ow:=1 }
 | .ul _ | .uv _ | .ur _=>{ Cn.busy with hl:=1 }
 | .us=>{ Cn.busy with pu:=1 }
 | .t2 _ | .r2 _=>{ Cn.busy with wk:=0,pc:=1 }
 | .a1 b=>if b then { Cn.busy with wk:=0,ak:=1 } else { Cn.busy with wk:=0,a1:=1 }
 | .sq c | .c1 c | .r1 c | .c2 c | .r3 c=>{ Cn.busy with al:=kg c }
 | .t1 _ | .s1 _=>{ Cn.busy with wk:=0,z:=1 }
 | .uc _ | .ux=>{ Cn.busy with ux:=1 }
 | .d2 | .d3=>{ Cn.zero with wk:=1,dw:=1 }
 | .d4=>{ Cn.zero with wk:=1,d4:=1 }
 | .quit=>Cn.zero
 | _=>Cn.busy
structure Cn.mP (c x y c':Cn):Prop where
 ow:c'.ow+x.ow=c.ow+y.ow
 hl:c'.hl+x.hl=c.hl+y.hl
 pu:c'.pu+x.pu=c.pu+y.pu
 pc:c'.pc+x.pc=c.pc+y.pc
 al:c'.al+x.al=c.al+y.al
 z:c'.z+x.z=c.z+y.z
 a1:c'.a1+x.a1=c.a1+y.a1
 ak:c'.ak+x.ak=c.ak+y.ak
 ux:c'.ux+x.ux=c.ux+y.ux
 wk:c'.wk+x.wk=c.wk+y.wk
 lv:c'.lv+x.lv=c.lv+y.lv
 dw:c'.dw+x.dw=c.dw+y.dw
 d4:c'.d4+x.d4=c.d4+y.d4
structure Cn.Le (x c:Cn):Prop where
 ow:x.ow≤c.ow
 hl:x.hl≤c.hl
 pu:x.pu≤c.pu
 pc:x.pc≤c.pc
 al:x.al≤c.al
 z:x.z≤c.z
 a1:x.a1≤c.a1
 ak:x.ak≤c.ak
 ux:x.ux≤c.ux
 wk:x.wk≤c.wk
 lv:x.lv≤c.lv
 dw:x.dw≤c.dw
 d4:x.d4≤c.d4
structure cy (N:Nat) (c:Cn) (s:Sh):Prop where
 l1:s.mu.l≤1
 w1:s.mu.w≤1
 s1:s.mu.w+s.mu.s≤1
 ow:c.ow+c.hl=s.mu.l
 al:c.al≤s.mu.w
 md:((s.mu.s=0∨s.mu.l=1)∧c.pu+c.pc+c.al+s.ms=s.mu.w∧c.a1+c.ak=0∧s.mu.n+c.pu+s.ms=c.z)∨(s.mu.s=1∧s.mu.l=0∧c.pu+c.pc+c.a1+c.ak+c.al+s.ms=1∧s.mu.n=c.z+c.pc+c.a1+c.ak)
 ak:2 * c.ak≤s.mu.n
 sn:s.mu.s=0∨1≤s.mu.n
 i4:s.mu.l=1∨s.mu.w=1∨s.mu.s=1∨s.mu.n=0∨1≤c.ux
 wN:c.wk+c.z+c.pc+c.a1+c.ak≤N
def iJ(N:Nat):Lp→Prop
 | .sq c=>c.old.ok N∧c.it≤4∧(c.sv=true→c.aw=true)∧(c.aw=true→c.old.w=1)∧c.old.l=1∧c.old.s=0
 | .c1 c=>c.old.ok N∧c.it < 4∧c.sv=false∧c.aw=false∧c.old.l=1∧c.old.s=0∧c.old.w=0∧c.old.n≠0
 | .r1 c=>c.old.ok N∧c.it < 4∧(c.sv=true→c.aw=true)
 | .c2 c=>c.old.ok N∧c.it≤4∧(c.sv=true→c.aw=true)∧(c.aw=true→c.old.w=1)
 | .r3 c=>c.old.ok N∧c.it≤4∧(c.sv=true→c.aw=true)
 | .t1 c=>c.ws=false
 | .t2 c=>c.sv=false
 | .uc m=>m.ok N∧m.l=0∧m.w=0∧m.s=0∧m.n≠0
 | _=>True
def pj(N:Nat)(T:Lp)(s:Sh):Prop:=s.mu.ok N∧(match T with
 | .r1 c | .r3 c=>c.aw=true→s.mu.w=1
 | .r2 _=>(s.mu.s=1∧s.mu.l=0∧s.mu.w=0∧s.mu.n≠0)∨(s.mu.s=0∧s.mu.w=1)
 | .a1 b=>s.mu.s=1∧s.mu.l=0∧s.mu.w=0∧s.mu.n≠0∧(b=true→2≤s.mu.n)
 | .u0=>s.mu.l=1
 | .us=>s.ms=0
 | _=>True)
theorem pC{c:Lc}(h:c.aw=true):kg c=1:=by simp [kg,h]
theorem rf{c:Lc}(h:c.aw=false):kg c=0:=by simp [kg,h]
section
variable {N:Nat} {c c':Cn} {s s':Sh} {T T':Lp}
theorem cy.pj(h:cy N c s)(hle:(cW T).Le c):pj N T s:=by
 obtain ⟨h1,h2,h3,h4,h5,h6,O,P,L,M⟩:=h
 obtain ⟨e1,E,G,I,f,J,o,p,K,y,z,A,C⟩:=hle
 refine ⟨⟨h1,h2,by omega,by omega⟩,?_⟩
 cases T <;> simp only [cW,Cn.busy,Cn.zero] at * <;> first | trivial | skip
 case r1 c=>intro d; rw [pC d] at f; omega
 case r3 c=>intro d; rw [pC d] at f; omega
 case r2 c=>omega
 case a1 b =>
  cases b
  ·simp only [fc,if_false] at o p
   exact ⟨by omega,by omega,by omega,by omega,λ hb=>by cases hb⟩
  ·simp only [if_true] at o p
   exact ⟨by omega,by omega,by omega,by omega,λ _=>by omega⟩
 case u0=>omega
 case us=>omega
theorem jF(c:Lc):cW (hd c)={ Cn.busy with al:=kg c }:=by unfold hd; split <;> rfl
theorem xH(c:Lc):cW (fb c)={ Cn.busy with al:=kg c }:=by unfold fb; split <;> rfl
theorem vF{c:Lc}(h1:c.old.ok N)(h2:c.it≤4)(h3:c.sv=true→c.aw=true)(h4:c.aw=true→c.old.w=1):iJ N (hd c):=by
 unfold hd; split
 ·exact ⟨h1,h2,h3,h4,by omega,by omega⟩
 ·exact ⟨h1,h2,h3,h4⟩
set_option maxHeartbeats 2000000 in
theorem cy.step(h:cy N c s)(aB:iJ N T)(hle:(cW T).Le c)(a4:cz T s T' s')(a2:c.mP (cW T) (cW T') c'):cy N c' s'∧iJ N T':=by
 have aI:=h.pj hle
 obtain ⟨h1,h2,h3,h4,h5,h6,aY,a0,aW,aX⟩:=h
 obtain ⟨o,E,G,I,f,J,K,L,M,p,y,A,C⟩:=a2
 obtain ⟨e1,ap,aq,ar,P,au,av,ax,ay,al,am,an,ao⟩:=hle
 obtain ⟨⟨aJ,aG,aK,aH⟩,aI⟩:=aI
 obtain ⟨⟨ah,O,az,mn⟩,ms,v,w,ws⟩:=s
 obtain ⟨ow,hl,pu,pc,a8,z,a1,ak,ux,wk,lv,dw,d4⟩:=c
 obtain ⟨ab,hl',ad,ac,V,ag,S,U,ae,af,Z,Y,W⟩:=c'
 dsimp only at h1 h2 h3 h4 h5 h6 aY a0 aW aX o E G I f J K L M p y A C e1 ap aq ar P au av ax ay al am an ao aJ aG aK aH aI
 cases a4 with
 | ld =>
  simp only [cW,Cn.busy,Cn.zero] at o E G I f J K L M p y A C e1 ap aq ar P au av ax ay al am an ao
  exact ⟨(by show cy N ⟨ab,hl',ad,ac,V,ag,S,U,ae,af,Z,Y,W⟩ ⟨⟨ah,O,az,mn⟩,ms,v,w,ws⟩; constructor <;> dsimp only <;> omega),trivial⟩
 | Dr hm =>
  simp only [Wd.zero,Wd.mk.injEq] at hm
  obtain ⟨rfl,rfl,rfl,rfl⟩:=hm
  simp only [cW,Cn.busy,Cn.zero] at o E G I f J K L M p y A C e1 ap aq ar P au av ax ay al am an ao
  exact ⟨(by show cy N ⟨ab,hl',ad,ac,V,ag,S,U,ae,af,Z,Y,W⟩ ⟨⟨1,0,0,0⟩,ms,v,w,ws⟩; constructor <;> dsimp only <;> omega),trivial⟩
 | Dq hm =>
  simp only [cW,Cn.busy,Cn.zero] at o E G I f J K L M p y A C e1 ap aq ar P au av ax ay al am an ao
  exact ⟨(by show cy N ⟨ab,hl',ad,ac,V,ag,S,U,ae,af,Z,Y,W⟩ ⟨⟨ah,O,az,mn⟩,ms,v,w,ws⟩; constructor <;> dsimp only <;> omega),trivial⟩
 | r0 =>
  simp only [jF] at o E G I f J K L M p y A C
  simp only [cW,Cn.busy,Cn.zero] at o E G I f J K L M p y A C e1 ap aq ar P au av ax ay al am an ao
  rw [rf rfl] at f
  exact ⟨(by show cy N ⟨ab,hl',ad,ac,V,ag,S,U,ae,af,Z,Y,W⟩ ⟨⟨ah,O,az,mn⟩,ms,v,w,ws⟩; constructor <;> dsimp only <;> omega),vF ⟨aJ,aG,aK,aH⟩ (by simp) (by simp) (by simp)⟩
 | @wh _ c =>
  simp only [cW,Cn.busy,Cn.zero] at o E G I f J K L M p y A C e1 ap aq ar P au av ax ay al am an ao
  exact ⟨(by show cy N ⟨ab,hl',ad,ac,V,ag,S,U,ae,af,Z,Y,W⟩ ⟨⟨ah,O,az,mn⟩,ms,v,w,ws⟩; constructor <;> dsimp only <;> omega),aB.1,aB.2.1,aB.2.2.1,aB.2.2.2.1⟩
 | @mE _ c hi =>
  obtain ⟨t1,t2,t3,t4,t5,t6⟩:=aB
  simp only [xH] at o E G I f J K L M p y A C
  simp only [cW,Cn.busy,Cn.zero] at o E G I f J K L M p y A C e1 ap aq ar P au av ax ay al am an ao
  refine ⟨(by show cy N ⟨ab,hl',ad,ac,V,ag,S,U,ae,af,Z,Y,W⟩ ⟨⟨ah,O,az,mn⟩,ms,v,w,ws⟩; constructor <;> dsimp only <;> omega),?_⟩
  unfold fb; split
  ·rename_i aC
   refine ⟨t1,hi,?_,aC.1,t5,t6,aC.2.1,aC.2.2⟩
   cases aT:c.sv with
   | false=>rfl
   | true=>rw [t3 aT] at aC; cases aC.1
  ·exact ⟨t1,hi,t3⟩
 | @xr _ c hm =>
  obtain ⟨old,aw,sv,it,aD⟩:=c
  cases hm
  obtain ⟨⟨aM,aN,aO,aP⟩,t2,t3,t4,t5,t6,t7,t8⟩:=aB
  simp only at t2 t3 t4 t5 t6 t7 t8
  subst t4
  simp only [cW,Cn.busy,Cn.zero] at o E G I f J K L M p y A C e1 ap aq ar P au av ax ay al am an ao
  rw [rf rfl,pC rfl] at f
  rw [rf rfl] at P
  exact ⟨(by show cy N ⟨ab,hl',ad,ac,V,ag,S,U,ae,af,Z,Y,W⟩ ⟨⟨ah,1,az,mn⟩,ms,v,w,ws⟩; constructor <;> dsimp only <;> omega),⟨aM,aN,aO,aP⟩,t2,λ _=>rfl⟩
 | @xq _ c hm =>
  simp only [cW,Cn.busy,Cn.zero] at o E G I f J K L M p y A C e1 ap aq ar P au av ax ay al am an ao
  exact ⟨(by show cy N ⟨ab,hl',ad,ac,V,ag,S,U,ae,af,Z,Y,W⟩ ⟨⟨ah,O,az,mn⟩,ms,v,w,ws⟩; constructor <;> dsimp only <;> omega),aB.1,aB.2.1,λ aC=>by rw [aB.2.2.1] at aC; cases aC⟩
 | @r1 _ c =>
  simp only [jF] at o E G I f J K L M p y A C
  simp only [cW,Cn.busy,Cn.zero] at o E G I f J K L M p y A C e1 ap aq ar P au av ax ay al am an ao
  have aQ:kg { c with old:=⟨ah,O,az,mn⟩,it:=c.it+1 }=kg c:=rfl
  rw [aQ] at f
  exact ⟨(by show cy N ⟨ab,hl',ad,ac,V,ag,S,U,ae,af,Z,Y,W⟩ ⟨⟨ah,O,az,mn⟩,ms,v,w,ws⟩; constructor <;> dsimp only <;> omega),vF ⟨aJ,aG,aK,aH⟩ (by have:=aB.2.1; simp only; omega) aB.2.2 aI⟩
 | @xy _ c hm hl aV =>
  obtain ⟨old,aw,sv,it,aD⟩:=c
  cases hm
  simp only at hl aV
  subst hl aV
  obtain ⟨⟨aM,aN,aO,aP⟩,t2,t3,t4⟩:=aB
  simp only at t3 t4
  simp only [cW,Cn.busy,Cn.zero] at o E G I f J K L M p y A C e1 ap aq ar P au av ax ay al am an ao
  have en:nw ⟨⟨0,O,0,mn⟩,aw,sv,it,aD⟩=⟨1,if aw then 0 else O,0,mn⟩:=by simp [nw]
  rw [en]
  cases aw
  ·rw [rf rfl] at f P
   exact ⟨(by show cy N ⟨ab,hl',ad,ac,V,ag,S,U,ae,af,Z,Y,W⟩ ⟨⟨1,O,0,mn⟩,ms,v,w,ws⟩; constructor <;> dsimp only <;> omega),trivial⟩
  ·rw [pC rfl] at f P
   have:=t4 rfl
   exact ⟨(by show cy N ⟨ab,hl',ad,ac,V,ag,S,U,ae,af,Z,Y,W⟩ ⟨⟨1,0,0,mn⟩,ms,v,w,ws⟩; constructor <;> dsimp only <;> omega),trivial⟩
 | @lQ _ c hm a5 =>
  obtain ⟨old,aw,sv,it,aD⟩:=c
  cases hm
  obtain ⟨⟨aM,aN,aO,aP⟩,t2,t3,t4⟩:=aB
  simp only at t3 t4 a5
  have aR:cW (if aD=true then Lp.s1 ⟨⟨ah,O,az,mn⟩,aw,sv,it,aD⟩ else Lp.t1 ⟨⟨ah,O,az,mn⟩,aw,sv,it,aD⟩)={ Cn.busy with wk:=0,z:=1 }:=by cases aD <;> rfl
  simp only at o E G I f J K L M p y A C
  simp only [aR] at o E G I f J K L M p y A C
  simp only [cW,Cn.busy,Cn.zero] at o E G I f J K L M p y A C e1 ap aq ar P au av ax ay al am an ao
  refine ⟨?_,by cases aD <;> first | rfl | trivial⟩
  cases aw
  ·cases sv
   ·rw [rf rfl] at f P
    by_cases aU:az=0
    ·subst aU
     have aS:ah=1:=by omega
     subst aS
     have en:nw ⟨⟨1,O,0,mn⟩,false,false,it,aD⟩=⟨1,O,0,mn+1⟩:=by simp [nw]
     rw [en]
     exact (by show cy N ⟨ab,hl',ad,ac,V,ag,S,U,ae,af,Z,Y,W⟩ ⟨⟨1,O,0,mn+1⟩,ms,v,w,ws⟩; constructor <;> dsimp only <;> omega)
    ·have a6:az=1:=by omega
     subst a6
     have en:nw ⟨⟨ah,O,1,mn⟩,false,false,it,aD⟩=⟨ah,O,1,mn+1⟩:=by simp [nw]
     rw [en]
     exact (by show cy N ⟨ab,hl',ad,ac,V,ag,S,U,ae,af,Z,Y,W⟩ ⟨⟨ah,O,1,mn+1⟩,ms,v,w,ws⟩; constructor <;> dsimp only <;> omega)
   ·exact absurd (t3 rfl) (by simp)
  ·rw [pC rfl] at f P
   have hw:=t4 rfl
   have aU:az=0:=by omega
   have aS:ah=1:=by omega
   subst aU aS hw
   cases sv
   ·have en:nw ⟨⟨1,1,0,mn⟩,true,false,it,aD⟩=⟨1,0,0,mn+1⟩:=by simp [nw]
    rw [en]
    exact (by show cy N ⟨ab,hl',ad,ac,V,ag,S,U,ae,af,Z,Y,W⟩ ⟨⟨1,0,0,mn+1⟩,ms,v,w,ws⟩; constructor <;> dsimp only <;> omega)
   ·have en:nw ⟨⟨1,1,0,mn⟩,true,true,it,aD⟩=⟨1,0,1,mn+1⟩:=by simp [nw]
    rw [en]
    exact (by show cy N ⟨ab,hl',ad,ac,V,ag,S,U,ae,af,Z,Y,W⟩ ⟨⟨1,0,1,mn+1⟩,ms,v,w,ws⟩; constructor <;> dsimp only <;> omega)
 | @xz _ c hm =>
  simp only [cW,Cn.busy,Cn.zero] at o E G I f J K L M p y A C e1 ap aq ar P au av ax ay al am an ao
  exact ⟨(by show cy N ⟨ab,hl',ad,ac,V,ag,S,U,ae,af,Z,Y,W⟩ ⟨⟨ah,O,az,mn⟩,ms,v,w,ws⟩; constructor <;> dsimp only <;> omega),aB.1,aB.2.1,aB.2.2.1⟩
 | @r3 _ c =>
  simp only [jF] at o E G I f J K L M p y A C
  simp only [cW,Cn.busy,Cn.zero] at o E G I f J K L M p y A C e1 ap aq ar P au av ax ay al am an ao
  have aQ:kg { c with old:=⟨ah,O,az,mn⟩ }=kg c:=rfl
  rw [aQ] at f
  exact ⟨(by show cy N ⟨ab,hl',ad,ac,V,ag,S,U,ae,af,Z,Y,W⟩ ⟨⟨ah,O,az,mn⟩,ms,v,w,ws⟩; constructor <;> dsimp only <;> omega),vF ⟨aJ,aG,aK,aH⟩ aB.2.1 aB.2.2 aI⟩
 | @t1 _ c b =>
  simp only [cW,Cn.busy,Cn.zero] at o E G I f J K L M p y A C e1 ap aq ar P au av ax ay al am an ao
  exact ⟨(by show cy N ⟨ab,hl',ad,ac,V,ag,S,U,ae,af,Z,Y,W⟩ ⟨⟨ah,O,az,mn⟩,ms,v,w,ws⟩; constructor <;> dsimp only <;> omega),trivial⟩
 | @s1 _ c m hm =>
  have aR:cW (if c.sv=true then Lp.r2 c else Lp.t2 c)={ Cn.busy with wk:=0,pc:=1 }:=by cases c.sv <;> rfl
  simp only at hm
  simp only [aR] at o E G I f J K L M p y A C
  simp only [cW,Cn.busy,Cn.zero] at o E G I f J K L M p y A C e1 ap aq ar P au av ax ay al am an ao
  refine ⟨(by show cy N ⟨ab,hl',ad,ac,V,ag,S,U,ae,af,Z,Y,W⟩ ⟨⟨ah,O,az,mn⟩,m,v,w,ws⟩; constructor <;> dsimp only <;> omega),?_⟩
  cases aT:c.sv with
  | false=>exact aT
  | true=>trivial
 | @t2 _ c b =>
  simp only [cW,Cn.busy,Cn.zero] at o E G I f J K L M p y A C e1 ap aq ar P au av ax ay al am an ao
  exact ⟨(by show cy N ⟨ab,hl',ad,ac,V,ag,S,U,ae,af,Z,Y,W⟩ ⟨⟨ah,O,az,mn⟩,ms,v,w,ws⟩; constructor <;> dsimp only <;> omega),trivial⟩
 | @s9 _ c hm =>
  simp only at hm; subst hm
  simp only [cW,Cn.busy,Cn.zero] at o E G I f J K L M p y A C e1 ap aq ar P au av ax ay al am an ao
  refine ⟨?_,trivial⟩
  cases hb:(c.sv && mn != 1) with
  | false =>
   simp only [hb,fc,if_false] at o E G I f J K L M p y A C
   exact (by show cy N ⟨ab,hl',ad,ac,V,ag,S,U,ae,af,Z,Y,W⟩ ⟨⟨ah,O,1,mn⟩,ms,v,w,ws⟩; constructor <;> dsimp only <;> omega)
  | true =>
   have a9:mn≠1:=by simp at hb; exact hb.2
   simp only [hb,if_true] at o E G I f J K L M p y A C
   exact (by show cy N ⟨ab,hl',ad,ac,V,ag,S,U,ae,af,Z,Y,W⟩ ⟨⟨ah,O,1,mn⟩,ms,v,w,ws⟩; constructor <;> dsimp only <;> omega)
 | @mr _ c hm =>
  simp only at hm; subst hm
  simp only [jF] at o E G I f J K L M p y A C
  simp only [cW,Cn.busy,Cn.zero] at o E G I f J K L M p y A C e1 ap aq ar P au av ax ay al am an ao
  rw [pC rfl] at f
  exact ⟨(by show cy N ⟨ab,hl',ad,ac,V,ag,S,U,ae,af,Z,Y,W⟩ ⟨⟨ah,O,0,mn⟩,ms,v,w,ws⟩; constructor <;> dsimp only <;> omega),vF ⟨aJ,aG,aK,aH⟩ (by simp) (λ _=>rfl) (λ _=>by simp only; omega)⟩
 | @a1 _ b =>
  obtain ⟨r1,r2,r3,r4,bb⟩:=aI
  subst r1 r2 r3
  simp only [cW,Cn.busy,Cn.zero] at o E G I f J K L M p y A C e1 ap aq ar P au av ax ay al am an ao
  cases b
  ·simp only [fc,if_false] at o E G I f J K L M p y A C e1 ap aq ar P au av ax ay al am an ao
   exact ⟨(by show cy N ⟨ab,hl',ad,ac,V,ag,S,U,ae,af,Z,Y,W⟩ ⟨⟨1,0,0,mn - 1⟩,ms,v,w,ws⟩; constructor <;> dsimp only <;> omega),trivial⟩
  ·simp only [if_true] at o E G I f J K L M p y A C e1 ap aq ar P au av ax ay al am an ao
   exact ⟨(by show cy N ⟨ab,hl',ad,ac,V,ag,S,U,ae,af,Z,Y,W⟩ ⟨⟨1,0,1,mn - 1⟩,ms,v,w,ws⟩; constructor <;> dsimp only <;> omega),trivial⟩
 | le =>
  simp only [cW,Cn.busy,Cn.zero] at o E G I f J K L M p y A C e1 ap aq ar P au av ax ay al am an ao
  exact ⟨(by show cy N ⟨ab,hl',ad,ac,V,ag,S,U,ae,af,Z,Y,W⟩ ⟨⟨ah,O,az,mn⟩,ms,v,w,ws⟩; constructor <;> dsimp only <;> omega),trivial⟩
 | lc =>
  simp only [cW,Cn.busy,Cn.zero] at o E G I f J K L M p y A C e1 ap aq ar P au av ax ay al am an ao
  exact ⟨(by show cy N ⟨ab,hl',ad,ac,V,ag,S,U,ae,af,Z,Y,W⟩ ⟨⟨ah,O,az,mn⟩,ms,v,w,ws⟩; constructor <;> dsimp only <;> omega),trivial⟩
 | la =>
  simp only [cW,Cn.busy,Cn.zero] at o E G I f J K L M p y A C e1 ap aq ar P au av ax ay al am an ao
  exact ⟨(by show cy N ⟨ab,hl',ad,ac,V,ag,S,U,ae,af,Z,Y,W⟩ ⟨⟨ah,O,az,mn⟩,ms,v,w,ws⟩; constructor <;> dsimp only <;> omega),trivial⟩
 | ul =>
  simp only [cW,Cn.busy,Cn.zero] at o E G I f J K L M p y A C e1 ap aq ar P au av ax ay al am an ao
  exact ⟨(by show cy N ⟨ab,hl',ad,ac,V,ag,S,U,ae,af,Z,Y,W⟩ ⟨⟨ah,O,az,mn⟩,ms,v,w,ws⟩; constructor <;> dsimp only <;> omega),trivial⟩
 | uv =>
  simp only [cW,Cn.busy,Cn.zero] at o E G I f J K L M p y A C e1 ap aq ar P au av ax ay al am an ao
  exact ⟨(by show cy N ⟨ab,hl',ad,ac,V,ag,S,U,ae,af,Z,Y,W⟩ ⟨⟨ah,O,az,mn⟩,ms,v,w,ws⟩; constructor <;> dsimp only <;> omega),trivial⟩
 | ur =>
  simp only [cW,Cn.busy,Cn.zero] at o E G I f J K L M p y A C e1 ap aq ar P au av ax ay al am an ao
  exact ⟨(by show cy N ⟨ab,hl',ad,ac,V,ag,S,U,ae,af,Z,Y,W⟩ ⟨⟨ah,O,az,mn⟩,ms,v,w,ws⟩; constructor <;> dsimp only <;> omega),trivial⟩
 | ud =>
  simp only [cW,Cn.busy,Cn.zero] at o E G I f J K L M p y A C e1 ap aq ar P au av ax ay al am an ao
  exact ⟨(by show cy N ⟨ab,hl',ad,ac,V,ag,S,U,ae,af,Z,Y,W⟩ ⟨⟨ah,O,az,mn⟩,ms,v,w,ws⟩; constructor <;> dsimp only <;> omega),trivial⟩
 | Gp a b d =>
  simp only at a b d; subst a b d
  simp only [cW,Cn.busy,Cn.zero] at o E G I f J K L M p y A C e1 ap aq ar P au av ax ay al am an ao
  exact ⟨(by show cy N ⟨ab,hl',ad,ac,V,ag,S,U,ae,af,Z,Y,W⟩ ⟨⟨0,0,0,0⟩,ms,v,w,ws⟩; constructor <;> dsimp only <;> omega),trivial⟩
 | mF a b =>
  simp only at a b; subst b
  by_cases aC:mn=0∨(0:Nat)=1∨O=1∨(0:Nat)=1
  ·have aE:hu ⟨0,O,0,mn⟩ = .ue:=by simp only [hu,aC,if_true]
   simp only [aE] at o E G I f J K L M p y A C
   simp only [cW,Cn.busy,Cn.zero] at o E G I f J K L M p y A C e1 ap aq ar P au av ax ay al am an ao
   rw [aE]
   exact ⟨(by show cy N ⟨ab,hl',ad,ac,V,ag,S,U,ae,af,Z,Y,W⟩ ⟨⟨0,O,0,mn⟩,ms,v,w,ws⟩; constructor <;> dsimp only <;> omega),trivial⟩
  ·have aE:hu ⟨0,O,0,mn⟩ = .uc ⟨0,O,0,mn⟩:=by simp only [hu,aC,if_false]
   simp only [aE] at o E G I f J K L M p y A C
   simp only [cW,Cn.busy,Cn.zero] at o E G I f J K L M p y A C e1 ap aq ar P au av ax ay al am an ao
   rw [aE]
   exact ⟨(by show cy N ⟨ab,hl',ad,ac,V,ag,S,U,ae,af,Z,Y,W⟩ ⟨⟨0,O,0,mn⟩,ms,v,w,ws⟩; constructor <;> dsimp only <;> omega),⟨by simp,aG,by simp,aH⟩,rfl,by simp only; omega,rfl,by simp only; omega⟩
 | Gn a =>
  simp only at a; subst a
  simp only [cW,Cn.busy,Cn.zero] at o E G I f J K L M p y A C e1 ap aq ar P au av ax ay al am an ao
  exact ⟨(by show cy N ⟨ab,hl',ad,ac,V,ag,S,U,ae,af,Z,Y,W⟩ ⟨⟨0,O,1,mn⟩,ms,v,w,ws⟩; constructor <;> dsimp only <;> omega),trivial⟩
 | Gq a =>
  cases a
  obtain ⟨⟨aM,aN,aO,aP⟩,t2,t3,t4,t5⟩:=aB
  simp only at t2 t3 t4 t5
  subst t2 t3 t4
  simp only [cW,Cn.busy,Cn.zero] at o E G I f J K L M p y A C e1 ap aq ar P au av ax ay al am an ao
  exact ⟨(by show cy N ⟨ab,hl',ad,ac,V,ag,S,U,ae,af,Z,Y,W⟩ ⟨⟨0,1,0,mn - 1⟩,ms,v,w,ws⟩; constructor <;> dsimp only <;> omega),trivial⟩
 | z8 a =>
  simp only [cW,Cn.busy,Cn.zero] at o E G I f J K L M p y A C e1 ap aq ar P au av ax ay al am an ao
  exact ⟨(by show cy N ⟨ab,hl',ad,ac,V,ag,S,U,ae,af,Z,Y,W⟩ ⟨⟨ah,O,az,mn⟩,ms,v,w,ws⟩; constructor <;> dsimp only <;> omega),trivial⟩
 | ux =>
  by_cases aC:mn=0∨ah=1∨O=1∨az=1
  ·have aE:hu ⟨ah,O,az,mn⟩ = .ue:=by simp only [hu,aC,if_true]
   simp only [aE] at o E G I f J K L M p y A C
   simp only [cW,Cn.busy,Cn.zero] at o E G I f J K L M p y A C e1 ap aq ar P au av ax ay al am an ao
   rw [aE]
   exact ⟨(by show cy N ⟨ab,hl',ad,ac,V,ag,S,U,ae,af,Z,Y,W⟩ ⟨⟨ah,O,az,mn⟩,ms,v,w,ws⟩; constructor <;> dsimp only <;> omega),trivial⟩
  ·have aE:hu ⟨ah,O,az,mn⟩ = .uc ⟨ah,O,az,mn⟩:=by simp only [hu,aC,if_false]
   simp only [aE] at o E G I f J K L M p y A C
   simp only [cW,Cn.busy,Cn.zero] at o E G I f J K L M p y A C e1 ap aq ar P au av ax ay al am an ao
   rw [aE]
   exact ⟨(by show cy N ⟨ab,hl',ad,ac,V,ag,S,U,ae,af,Z,Y,W⟩ ⟨⟨ah,O,az,mn⟩,ms,v,w,ws⟩; constructor <;> dsimp only <;> omega),⟨aJ,aG,aK,aH⟩,by simp only; omega,by simp only; omega,by simp only; omega,by simp only; omega⟩
 | us =>
  simp only [cW,Cn.busy,Cn.zero] at o E G I f J K L M p y A C e1 ap aq ar P au av ax ay al am an ao
  exact ⟨(by show cy N ⟨ab,hl',ad,ac,V,ag,S,U,ae,af,Z,Y,W⟩ ⟨⟨ah,O,az,mn⟩,ms+1,v,w,ws⟩; constructor <;> dsimp only <;> omega),trivial⟩
 | wC =>
  simp only [cW,Cn.busy,Cn.zero] at o E G I f J K L M p y A C e1 ap aq ar P au av ax ay al am an ao
  exact ⟨(by show cy N ⟨ab,hl',ad,ac,V,ag,S,U,ae,af,Z,Y,W⟩ ⟨⟨ah,O,az,mn⟩,ms,v,w,ws⟩; constructor <;> dsimp only <;> omega),trivial⟩
 | wD =>
  simp only [cW,Cn.busy,Cn.zero] at o E G I f J K L M p y A C e1 ap aq ar P au av ax ay al am an ao
  exact ⟨(by show cy N ⟨ab,hl',ad,ac,V,ag,S,U,ae,af,Z,Y,W⟩ ⟨⟨ah,O,az,mn⟩,ms,v,w,ws⟩; constructor <;> dsimp only <;> omega),trivial⟩
 | wv =>
  simp only [cW,Cn.busy,Cn.zero] at o E G I f J K L M p y A C e1 ap aq ar P au av ax ay al am an ao
  exact ⟨(by show cy N ⟨ab,hl',ad,ac,V,ag,S,U,ae,af,Z,Y,W⟩ ⟨⟨ah,O,az,mn⟩,ms,v,w,ws⟩; constructor <;> dsimp only <;> omega),trivial⟩
 | wr =>
  simp only [cW,Cn.busy,Cn.zero] at o E G I f J K L M p y A C e1 ap aq ar P au av ax ay al am an ao
  exact ⟨(by show cy N ⟨ab,hl',ad,ac,V,ag,S,U,ae,af,Z,Y,W⟩ ⟨⟨ah,O,az,mn⟩,ms,v,w,ws⟩; constructor <;> dsimp only <;> omega),trivial⟩
 | wk =>
  simp only [cW,Cn.busy,Cn.zero] at o E G I f J K L M p y A C e1 ap aq ar P au av ax ay al am an ao
  exact ⟨(by show cy N ⟨ab,hl',ad,ac,V,ag,S,U,ae,af,Z,Y,W⟩ ⟨⟨ah,O,az,mn⟩,ms,v,w,ws⟩; constructor <;> dsimp only <;> omega),trivial⟩
 | rI a =>
  simp only [cW,Cn.busy,Cn.zero] at o E G I f J K L M p y A C e1 ap aq ar P au av ax ay al am an ao
  exact ⟨(by show cy N ⟨ab,hl',ad,ac,V,ag,S,U,ae,af,Z,Y,W⟩ ⟨⟨ah,O,az,mn⟩,ms,v - 1,w,ws⟩; constructor <;> dsimp only <;> omega),trivial⟩
 | xN a b =>
  simp only [cW,Cn.busy,Cn.zero] at o E G I f J K L M p y A C e1 ap aq ar P au av ax ay al am an ao
  exact ⟨(by show cy N ⟨ab,hl',ad,ac,V,ag,S,U,ae,af,Z,Y,W⟩ ⟨⟨ah,O,az,mn⟩,ms,0,w,ws⟩; constructor <;> dsimp only <;> omega),trivial⟩
 | d2 =>
  simp only [cW,Cn.zero] at o E G I f J K L M p y A C e1 ap aq ar P au av ax ay al am an ao
  exact ⟨(by show cy N ⟨ab,hl',ad,ac,V,ag,S,U,ae,af,Z,Y,W⟩ ⟨⟨ah,O,az,mn⟩,ms,v,w,ws⟩; constructor <;> dsimp only <;> omega),trivial⟩
 | d3 =>
  simp only [cW,Cn.zero] at o E G I f J K L M p y A C e1 ap aq ar P au av ax ay al am an ao
  exact ⟨(by show cy N ⟨ab,hl',ad,ac,V,ag,S,U,ae,af,Z,Y,W⟩ ⟨⟨ah,O,az,mn⟩,ms,0,0,ws⟩; constructor <;> dsimp only <;> omega),trivial⟩
 | d4 =>
  simp only [cW,Cn.zero] at o E G I f J K L M p y A C e1 ap aq ar P au av ax ay al am an ao
  exact ⟨(by show cy N ⟨ab,hl',ad,ac,V,ag,S,U,ae,af,Z,Y,W⟩ ⟨⟨ah,O,az,mn⟩,ms,v,w,ws+1⟩; constructor <;> dsimp only <;> omega),trivial⟩
end
inductive Mp
 | ka (r:Nat) | kc (r:Nat) | kv (r:Nat) | kd (r:Nat) | ke (r:Nat) | go (r:Nat) | wa | w1 | w2 (v:Nat) | wV | wW | w3 | w4 | we | qv | wq | fin
def fD:Nat→Mp
 | 0=>.wa
 | r+1=>.ka r
inductive ef:Mp→Sh→Mp→Sh→Prop
 | ka {s r}:ef (.ka r) s (.kc r) s
 | Mt {s r}:s.v=0→ef (.kc r) s (.kv r) { s with v:=1 }
 | kv {s r}:ef (.kv r) s (.kd r) s
 | Mu {s r}:s.v≠0→ef (.kc r) s (.ke r) { s with v:=s.v+1 }
 | kd {s r}:ef (.kd r) s (.ke r) s
 | ke {s r}:ef (.ke r) s (.go r) s
 | wa {s}:ef .wa s .w1 s
 | Tz {s}:s.v=0→ef .w1 s .we s
 | GA {s}:s.v≠0→ef .w1 s (.w2 s.v) s
 | GC {s}:ef (.w2 s.v) s .wV { s with w:=1 }
 | wV {s}:ef .wV s .wW s
 | GB {s v}:s.v≠v→ef (.w2 v) s .w1 s
 | wW {s}:ef .wW s .w3 s
 | w3 {s m}:s.ws=m+1→ef .w3 s .w4 { s with ws:=m }
 | w4 {s}:ef .w4 s .we s
 | we {s}:ef .we s .qv s
 | qv {s}:ef .qv s .wq s
 | wq {s}:ef .wq s .fin s
def rem:Mp→Nat
 | .ka r | .kc r | .kv r | .kd r | .ke r | .go r=>r+1
 | _=>0
def Cn.ff(c:Cn):Nat:=c.wk+c.z+c.pc+c.a1+c.ak
def fN(c:Cn)(s:Sh):Mp→Prop
 | .ka _ | .kc _ | .wa | .w1=>s.v=c.lv∧s.w=0∧s.ws=0∧c.dw=0∧c.d4=0
 | .w2 v=>s.v=c.lv∧s.w=0∧s.ws=0∧c.dw=0∧c.d4=0∧v≠0
 | .kv _ | .kd _ | .ke _ | .go _=>s.v=c.lv+1∧s.w=0∧s.ws=0∧c.dw=0∧c.d4=0
 | .wV | .wW | .w3=>(s.w=1∧s.ws=0∧c.d4=0∧s.v=c.lv∧((s.v=0∧c.dw=1)∨(1≤s.v∧c.dw=0)))∨(s.w=0∧s.v=0∧c.lv=0∧c.dw=0∧c.d4+s.ws=1)
 | _=>s.v=0∧s.w=0∧s.ws=0∧c.lv=0∧c.dw=0∧c.d4=0
structure hh (N:Nat) (T0:Mp) (c:Cn) (s:Sh):Prop where
 wg:fN c s T0
 eq:c.lv+c.dw+c.d4=c.ff
 le:c.ff+rem T0≤N
def okW(N:Nat):Lp→Sh→Prop
 | .d1,s=>1≤s.v∧s.v≤N∧s.w≤1
 | .d2,s=>s.v=0∧s.w=1
 | .d4,s=>s.ws=0
 | _,_=>True
def hx(N:Nat):Mp→Sh→Prop
 | .kc _,s=>s.w=0∧s.v+1≤N
 | .w1,s=>s.w=0∧s.v≤N
 | .w2 v,s=>s.w=0∧s.v≤N∧v≠0
 | .w4,s=>s.v=0∧s.w=0
 | .w3,s=>s.ws≤1
 | _,_=>True
section
variable {N:Nat} {c c':Cn} {s s':Sh} {T T':Lp} {T0 e5:Mp}
theorem xG(T:Lp):(cW T).lv+(cW T).dw+(cW T).d4=(cW T).ff:=by
 cases T <;> simp [cW,Cn.busy,Cn.zero,Cn.ff]
 case a1 b=>cases b <;> simp
theorem Cn.mP.ff{x y:Cn}(h:c.mP x y c'):c'.ff+x.ff=c.ff+y.ff:=by
 have:=h.wk; have:=h.z; have:=h.pc; have:=h.a1; have:=h.ak
 unfold Cn.ff; omega
theorem hh.okW(h:hh N T0 c s)(hle:(cW T).Le c):okW N T s:=by
 obtain ⟨h1,h2,h3⟩:=h
 have e1:=hle.lv
 have b:=hle.dw
 have d:=hle.d4
 cases T <;> simp only [cW,Cn.busy,Cn.zero] at e1 b d <;> first | trivial | skip
 all_goals
  show _
  cases T0 <;> simp only [fN,rem] at h1 h3 <;> simp only [Go.Lg.okW] <;> omega
theorem hh.hx(h:hh N T0 c s):hx N T0 s:=by
 obtain ⟨h1,h2,h3⟩:=h
 cases T0 <;> simp only [fN,rem] at h1 h3 <;> simp only [Go.Lg.hx] <;> omega
set_option maxHeartbeats 2000000 in
theorem hh.step(h:hh N T0 c s)(hle:(cW T).Le c)(O:cz T s T' s')(z:c.mP (cW T) (cW T') c'):hh N T0 c' s':=by
 obtain ⟨h1,h2,h3⟩:=h
 have L:=xG T
 have M:=xG T'
 have A:=z.ff
 have I:=z.lv
 have J:=z.dw
 have K:=z.d4
 have e1:=hle.lv
 have E:=hle.dw
 have G:=hle.d4
 have same:(cW T').lv=(cW T).lv→(cW T').dw=(cW T).dw→(cW T').d4=(cW T).d4→s'.v=s.v→s'.w=s.w→s'.ws=s.ws→hh N T0 c' s':=by
  intro a1 f y o d p
  refine ⟨?_,by omega,by omega⟩
  cases T0 <;> simp only [fN,o,d,p] at h1 ⊢ <;> omega
 cases O
 case rI a =>
  refine ⟨?_,by omega,by simp only [cW,Cn.busy,Cn.zero,Cn.ff] at A; unfold Cn.ff at h3 ⊢; omega⟩
  simp only [cW,Cn.busy,Cn.zero] at I J K e1 E G
  clear L M A h2 h3 same z hle
  have wt:fN c s .w3→fN c' { s with v:=s.v - 1 } .w3:=λ h=>by
   simp only [fN] at h ⊢
   rcases h with ⟨a1,f,y,o,d⟩ | ⟨a1,f,y,o,d⟩
   ·rcases d with ⟨d,p⟩ | ⟨d,p⟩ <;> first | omega | (refine .inl ⟨a1,f,by omega,by omega,.inr ⟨by omega,by omega⟩⟩)
   ·first | omega | (omega)
  cases T0 <;> first | exact wt h1 | (simp only [fN] at h1 ⊢; omega)
 case xN a b =>
  refine ⟨?_,by omega,by simp only [cW,Cn.busy,Cn.zero,Cn.ff] at A; unfold Cn.ff at h3 ⊢; omega⟩
  simp only [cW,Cn.busy,Cn.zero] at I J K e1 E G
  clear L M A h2 h3 same z hle
  have wt:fN c s .w3→fN c' { s with v:=0 } .w3:=λ h=>by
   simp only [fN] at h ⊢
   rcases h with ⟨a1,f,y,o,d⟩ | ⟨a1,f,y,o,d⟩
   ·rcases d with ⟨d,p⟩ | ⟨d,p⟩ <;> first | omega | (exact .inl ⟨a1,f,by omega,by omega,.inl ⟨trivial,by omega⟩⟩)
   ·first | omega | (omega)
  cases T0 <;> first | exact wt h1 | (simp only [fN] at h1 ⊢; omega)
 case d3 =>
  refine ⟨?_,by omega,by simp only [cW,Cn.zero,Cn.ff] at A; unfold Cn.ff at h3 ⊢; omega⟩
  simp only [cW,Cn.zero] at I J K e1 E G
  clear L M A h2 h3 same z hle
  have wt:fN c s .w3→fN c' { s with v:=0,w:=0 } .w3:=λ h=>by
   simp only [fN] at h ⊢
   rcases h with ⟨a1,f,y,o,d⟩ | ⟨a1,f,y,o,d⟩
   ·rcases d with ⟨d,p⟩ | ⟨d,p⟩ <;> first | omega | (exact .inr ⟨trivial,trivial,by omega,by omega,by omega⟩)
   ·first | omega | (omega)
  cases T0 <;> first | exact wt h1 | (simp only [fN] at h1 ⊢; omega)
 case d4 =>
  refine ⟨?_,by omega,by simp only [cW,Cn.zero,Cn.ff] at A; unfold Cn.ff at h3 ⊢; omega⟩
  simp only [cW,Cn.zero] at I J K e1 E G
  clear L M A h2 h3 same z hle
  have wt:fN c s .w3→fN c' { s with ws:=s.ws+1 } .w3:=λ h=>by
   simp only [fN] at h ⊢
   rcases h with ⟨a1,f,y,o,d⟩ | ⟨a1,f,y,o,d⟩
   ·rcases d with ⟨d,p⟩ | ⟨d,p⟩ <;> first | omega | (omega)
   ·first | omega | (exact .inr ⟨a1,f,by omega,by omega,by omega⟩)
  cases T0 <;> first | exact wt h1 | (simp only [fN] at h1 ⊢; omega)
 case r0=>refine same ?_ ?_ ?_ rfl rfl rfl <;> simp only [jF] <;> rfl
 case r1=>refine same ?_ ?_ ?_ rfl rfl rfl <;> simp only [jF] <;> rfl
 case r3=>refine same ?_ ?_ ?_ rfl rfl rfl <;> simp only [jF] <;> rfl
 case mr=>refine same ?_ ?_ ?_ rfl rfl rfl <;> simp only [jF] <;> rfl
 case mE=>refine same ?_ ?_ ?_ rfl rfl rfl <;> simp only [xH] <;> rfl
 case lQ C hm P=>refine same ?_ ?_ ?_ rfl rfl rfl <;> cases C.ws <;> rfl
 case s1 C m hm=>refine same ?_ ?_ ?_ rfl rfl rfl <;> cases C.sv <;> rfl
 case s9 C hm=>refine same ?_ ?_ ?_ rfl rfl rfl <;> cases (C.sv && s.mu.n != 1) <;> rfl
 case a1 b=>refine same ?_ ?_ ?_ rfl rfl rfl <;> cases b <;> rfl
 case mF a b=>refine same ?_ ?_ ?_ rfl rfl rfl <;> simp only [hu] <;> split <;> rfl
 case ux=>refine same ?_ ?_ ?_ rfl rfl rfl <;> simp only [hu] <;> split <;> rfl
 all_goals exact same rfl rfl rfl rfl rfl rfl
theorem hh.main(h:hh N T0 c s)(o:ef T0 s e5 s'):hh N e5 c s':=by
 obtain ⟨h1,h2,h3⟩:=h
 cases o
 case GC =>
  obtain ⟨a1,p,b,d,f,y⟩:=h1
  exact ⟨.inl ⟨rfl,b,f,a1,.inr ⟨by dsimp only; omega,d⟩⟩,h2,by simp only [rem] at h3 ⊢; omega⟩
 case wV=>exact ⟨h1,h2,h3⟩
 case wW=>exact ⟨h1,h2,h3⟩
 all_goals refine ⟨?_,h2,?_⟩ <;> simp only [fN,rem] at h1 h3 ⊢ <;> omega
theorem cy.main(h:cy N c s)(p:ef T0 s e5 s'):cy N c s':=by
 obtain ⟨h1,h2,h3,h4,h5,h6,f,o,b,d⟩:=h
 cases p <;> exact ⟨h1,h2,h3,h4,h5,h6,f,o,b,d⟩
theorem hh.spawn{r:Nat}(h:hh N (.go r) c s)(b:c.mP Cn.zero (cW .ld) c'):hh N (fD r) c' s:=by
 obtain ⟨h1,h2,h3⟩:=h
 have p:=xG .ld
 have y:=b.ff
 have d:=b.lv
 have f:=b.dw
 have o:=b.d4
 cases r <;> refine ⟨?_,?_,?_⟩ <;> simp only [fN,rem,fD,cW,Cn.busy,Cn.zero,Cn.ff] at * <;> omega
theorem cy.spawn{r:Nat}(h:cy N c s)(d:hh N (.go r) c s)(b:c.mP Cn.zero (cW .ld) c'):cy N c' s:=by
 have hle:=d.le
 obtain ⟨h1,h2,h3,h4,h5,h6,P,S,M,O⟩:=h
 obtain ⟨f,A,C,E,G,I,J,K,L,o,p,y,z⟩:=b
 simp only [cW,Cn.busy,Cn.zero,Cn.ff,rem] at *
 constructor <;> omega
end
def eS:Lp→Nat
 | .ld | .l0 | .r0=>9
 | .sq c | .c1 c | .r1 c | .c2 c | .r3 c=>if c.aw then 8 else 9
 | .t1 _ | .s1 _=>6
 | .t2 _ | .r2 _ | .a1 _=>8
 | .le | .lc | .la | .ul _ | .uv _ | .ur _=>5
 | .ud | .u0=>16
 | .uc _ | .ux=>15
 | .us=>14
 | .ue=>10
 | .wv | .wr | .wk | .d1=>8
 | .d2 | .d3=>6
 | .d4=>5
 | .quit=>0
def fv(m:Wd):Lp→Nat
 | .ld=>31
 | .l0=>30
 | .r0=>29
 | .sq c=>(4 - c.it) * 5+(if c.old=m then 0 else 5)+3
 | .c1 c=>(4 - c.it) * 5+(if c.old=m then 0 else 5)+2
 | .r1 c=>(4 - c.it) * 5+1
 | .c2 c=>(4 - c.it) * 5+(if c.old=m then 0 else 5)+1
 | .r3 c=>(4 - c.it) * 5+5
 | .t1 _=>2
 | .s1 _=>1
 | .t2 _=>25
 | .r2 _=>24
 | .le=>5
 | .lc=>4
 | .la=>3
 | .ul _=>2
 | .uv _=>1
 | .ud=>1
 | .uc o=>if o=m then 0 else 3
 | .ux=>2
 | .wv=>3
 | .wr=>2
 | .wk=>1
 | .d2=>1
 | _=>0
def eu:Lp→Bool
 | .ur _=>true
 | _=>false
theorem R9(m:Wd)(T:Lp):fv m T≤31:=by
 cases T <;> simp only [fv] <;> (try split) <;> omega
theorem wj(c:Lc):eS (hd c)=if c.aw then 8 else 9:=by unfold hd; split <;> rfl
theorem vU{c:Lc}{m:Wd}(h:c.old=m):fv m (hd c)≤(4 - c.it) * 5+3:=by unfold hd; split <;> simp only [fv,h,if_true] <;> omega
theorem cz.uJ{N:Nat}{s s':Sh}{T T':Lp}(d:iJ N T)(f:cz T s T' s') :
  eS T'+3 * s'.ms+3 * s'.ws < eS T+3 * s.ms+3 * s.ws+(if eu T then 20 else 0) ∨
  (eS T'+3 * s'.ms+3 * s'.ws=eS T+3 * s.ms+3 * s.ws∧eu T=false∧s'.mu=s.mu∧s'.v=s.v∧fv s.mu T' < fv s.mu T):=by
 cases f
 case r0=>right; have:=vU (c:=⟨s.mu,false,false,0,false⟩) (m:=s.mu) rfl; rw [wj]; generalize fv s.mu (hd _)=x at this ⊢; exact ⟨rfl,rfl,rfl,rfl,by simp only [fv]; simp only at this; omega⟩
 case wh c=>right; simp [eS,fv,eu]
 case mE c h=>right; unfold fb; split <;> simp [eS,fv,eu]; omega
 case xr c h=>left; obtain ⟨_,_,_,t4,_⟩:=d; simp [eS,t4,eu]
 case xq c h=>right; simp [eS,fv,eu,Ne.symm h]
 case r1 c =>
  right; obtain ⟨_,t2,_⟩:=d
  have:=vU (c:={ c with old:=s.mu,it:=c.it+1 }) (m:=s.mu) rfl
  rw [wj]; generalize fv s.mu (hd _)=x at this ⊢; exact ⟨rfl,rfl,rfl,rfl,by simp only [fv]; simp only at this; omega⟩
 case xy c h _ _=>left; simp only [eS,eu]; split <;> simp
 case lQ c h _=>left; simp only [eu]; cases c.ws <;> cases hb:c.aw <;> simp [eS,hb]
 case xz c h=>right; simp [eS,fv,eu,Ne.symm h]
 case r3 c =>
  right
  have:=vU (c:={ c with old:=s.mu }) (m:=s.mu) rfl
  rw [wj]; generalize fv s.mu (hd _)=x at this ⊢; exact ⟨rfl,rfl,rfl,rfl,by simp only [fv]; simp only at this; omega⟩
 case t1 c b=>right; simp [eS,fv,eu]
 case s1 c m h=>left; cases c.sv <;> simp [eS,eu,h] <;> omega
 case t2 c b=>right; simp [eS,fv,eu]
 case s9 c h=>right; simp [eS,fv,eu]
 case mr c h =>
  right
  have:=vU (c:={ c with old:=s.mu,aw:=true,it:=0 }) (m:=s.mu) rfl
  rw [wj]; generalize fv s.mu (hd _)=x at this ⊢; exact ⟨rfl,rfl,rfl,rfl,by simp only [fv]; simp only at this; omega⟩
 case mF a b=>left; unfold hu; split <;> simp [eS,eu]
 case z8 m h=>right; simp [eS,fv,eu,Ne.symm h]
 case ux=>unfold hu; split <;> simp [eS,fv,eu]
 case us=>left; simp [eS,eu]; omega
 case d4=>left; simp [eS,eu]; omega
 case ur=>left; simp [eS,eu]; omega
 all_goals simp [eS,fv,eu]
def stM(J:Nat):Mp→Nat
 | .ka r | .kc r=>(r+1) * (20 * J+20)+15
 | .kv r | .kd r | .ke r | .go r=>(r+1) * (20 * J+20)+14
 | .wa | .w1 | .w2 _=>10
 | .wV | .wW | .w3=>8
 | .w4 | .we | .qv | .wq=>6
 | .fin=>0
def nO(v:Nat):Mp→Nat
 | .ka _=>1
 | .kv _=>3
 | .kd _=>2
 | .ke _=>1
 | .wa=>6
 | .w1=>4
 | .w2 u=>if u=v then 1 else 5
 | .wV=>2
 | .wW=>1
 | .w4=>3
 | .we=>2
 | .qv=>1
 | _=>0
theorem R8(v:Nat)(T:Mp):nO v T≤31:=by
 cases T <;> simp only [nO] <;> (try split) <;> omega
theorem ef.uJ{J:Nat}{s s':Sh}{T T':Mp}(b:ef T s T' s') :
  stM J T'+3 * s'.ms+3 * s'.ws < stM J T+3 * s.ms+3 * s.ws ∨
  (stM J T'+3 * s'.ms+3 * s'.ws=stM J T+3 * s.ms+3 * s.ws∧s'.mu=s.mu∧s'.v=s.v∧nO s.v T' < nO s.v T):=by
 cases b
 case GA h=>right; simp [stM,nO]
 case GB v h=>right; simp [stM,nO,Ne.symm h]
 case w3 m h=>left; simp [stM,h]; omega
 all_goals simp [stM,nO]
theorem SP(J r:Nat):stM J (fD r)+(20 * J+eS .ld) < stM J (.go r):=by
 cases r with
 | zero=>simp [fD,stM,eS]; omega
 | succ r=>simp only [fD,stM,eS,Nat.add_mul]; omega
open Go.Conc Go.ConcN
def n5(P:Program)(K:Goroutine→Prop):Nat→Goroutine→Prop
 | 0,g=>K g
 | n+1,g=>K g∨(g.status = .running∧∃ g',(∀ w,stepG P false g w = .go g' w #[])∧n5 P K n g')
structure Fx where
 P:Program
 B:Base
 bm:Nat
 bw:Nat
 bo:Nat
 tm:TypeId
 tw:TypeId
 N:Nat
 J:Nat
 cont:(Nat→Nat)→Obj
 ho:bm≠bw∧bm≠bo∧bw≠bo
 hJ:0 < J
 hN:N≤4
 mj:aA→ai→Goroutine→Prop
def hU(tm:TypeId)(s:Sh):Obj:=.cells #[.int .i32 s.mu.val,.int .u32 (s.ms:Int)] tm (0,0)
def mH(s:Sh):Int:=4294967296 * s.v+s.w
def hZ(tw:TypeId)(s:Sh):Obj:=.cells #[.int .u64 (mH s),.int .u32 (s.ws:Int)] tw (0,0)
variable (F:Fx)
structure dA (s:Sh) (w:World):Prop where
 m:w.heap[F.bm]? = some (hU F.tm s)
 g:w.heap[F.bw]? = some (hZ F.tw s)
structure bZ (s':Sh) (w w':World):Prop where
 size:w'.heap.size=w.heap.size
 same:∀ b,b≠F.bm→b≠F.bw→w'.heap[b]? = w.heap[b]?
 sh:dA F s' w'
 os:F.B.os w.os→F.B.os w'.os
 tape:w'.tape=w.tape
 out:w'.output=w.output
def am:Addr:=⟨F.bm,0,none⟩
def aw:Addr:=⟨F.bw,0,none⟩
def iQ:Addr:=⟨F.bw,1,none⟩
def h9(es:Array Event):Prop:=(∀ e∈es,∃ a wr,e=⟨.cell a,wr,true⟩∧(a.block=F.bm∨a.block=F.bw))∨∃ a,(a.block=F.bm∨a.block=F.bw)∧es=semEvents a
def said(m:Mark):Array Event:=#[⟨.mark m,false,true⟩]
def pQ:Lp→Array Event→Prop
 | .ld,es | .ud,es | .wk,es=>es=said .disable
 | .le,es | .ue,es=>es=said .enable
 | .la,es=>es=said (.acquire (am F))
 | .ur _,es=>es=said (.releaseMerge (am F))
 | .wr,es=>es=said (.releaseMerge (aw F))
 | _,es=>h9 F es
def ov:Mp→Array Event→Prop
 | .ka _,es | .wa,es=>es=said .disable
 | .ke _,es | .we,es=>es=said .enable
 | .kd _,es=>es=said (.read (iQ F))
 | .wW,es=>es=said (.write (iQ F))
 | .wq,es=>es=said (.acquire (aw F))
 | _,es=>h9 F es
def ft:Lp→Bool
 | .wk | .d1 | .d2 | .d3 | .d4=>true
 | _=>false
def mG(j:Nat):Lp→Lp→Prop
 | .ue,.ld=>j < F.J
 | .ue,.wv=>j=F.J
 | _,_=>True
def lM(K:Nat→Lp→aA→ai→Goroutine→Prop)(k j:Nat)(T T':Lp)(R:aA)(H:ai)(g':Goroutine):Prop :=
 match T' with
 | .quit=>∃ q,QuitsD F.P q 1 g'
 | .ul _=>∀ js,js k=j→Own F.P F.B false (K j (.ul js)) R ((F.bo,F.cont js)::H) g'
 | .ud=>∃ js H',T = .ur js∧H=(F.bo,F.cont (ec js k (j+1)))::H'∧Own F.P F.B false (K (j+1) .ud) R H' g'
 | T'=>if ft T' then ∃ q,n5 F.P (K j T' R H) q g' else Own F.P F.B false (K j T') R H g'
def KW:Nat→Nat→Nat→Lp→aA→ai→Goroutine→Prop
 | 0,_,_,_,_,_,_=>True
 | n+1,k,j,T,R,H,g=>iJ F.N T→g.status = .running∧g.offers=none∧((T = .us∨T = .d4)→mayWake F.P g=true) ∧
   ∀ w s,Fits F.B R H w→dA F s w→pj F.N T s→okW F.N T s →
    ((∃ c,T = .s1 c)∧s.ms=0∧stepG F.P false g w = .go { g with status:=.blocked } w #[]) ∨
    ∃ g' w' es T' s',cz T s T' s'∧mG F j T T'∧pQ F T es∧stepG F.P false g w = .go g' w' es∧bZ F s' w w' ∧
     lM F (KW n k) k j T T' R H g'
def KM:Nat→Mp→aA→ai→Goroutine→Prop
 | 0,_,_,_,_=>True
 | n+1,T,R,H,g=>g.status = .running∧g.offers=none ∧
   ∀ w s,Fits F.B R H w→dA F s w→hx F.N T s →
    match T with
    | .go r=>∃ g' child,stepG F.P true g w = .spawn g' child w #[]∧Own F.P F.B false (KW F n (F.N - (r+1)) 0 .ld) R [] child∧Own F.P F.B true (KM n (fD r)) R H g'
    | .wq=>∃ g' w',stepG F.P true g w = .go g' w' (said (.acquire (aw F)))∧bZ F s w w'∧∀ js,(∀ k,k < F.N→js k=F.J)→F.mj R ((F.bo,F.cont js)::H) g'
    | T=>(T = .w3∧s.ws=0∧stepG F.P true g w = .go { g with status:=.blocked } w #[]) ∨
     ∃ g' w' es T' s',ef T s T' s'∧ov F T es∧stepG F.P true g w = .go g' w' es∧bZ F s' w w'∧Own F.P F.B true (KM n T') R H g'
inductive Ab
 | no
 | wk (k j:Nat) (T:Lp)
 | mn (T:Mp)
def cA:Ab→Cn
 | .wk _ _ T=>cW T
 | _=>.zero
def cP:Ab→Nat
 | .no=>0
 | .wk _ j T=>20 * (F.J - j)+eS T
 | .mn T=>stM F.J T
def hc(s:Sh):Ab→Nat
 | .no=>0
 | .wk _ _ T=>fv s.mu T
 | .mn T=>nO s.v T
def hr:Lp→Nat
 | .ld | .lc | .la | .ul _ | .uv _ | .ur _ | .ud | .wv | .wr | .wk=>0
 | _=>1
def hM:Mp→Nat
 | .ka _ | .go _ | .wa | .qv | .wq | .fin=>0
 | _=>1
def cnt(D:Nat→Ab)(n:Nat):Cn where
 ow:=cu n λ i=>(cA (D i)).ow
 hl:=cu n λ i=>(cA (D i)).hl
 pu:=cu n λ i=>(cA (D i)).pu
 pc:=cu n λ i=>(cA (D i)).pc
 al:=cu n λ i=>(cA (D i)).al
 z:=cu n λ i=>(cA (D i)).z
 a1:=cu n λ i=>(cA (D i)).a1
 ak:=cu n λ i=>(cA (D i)).ak
 ux:=cu n λ i=>(cA (D i)).ux
 wk:=cu n λ i=>(cA (D i)).wk
 lv:=cu n λ i=>(cA (D i)).lv
 dw:=cu n λ i=>(cA (D i)).dw
 d4:=cu n λ i=>(cA (D i)).d4
def b6(D:Nat→Ab)(i:Nat)(x:Ab):Nat→Ab:=λ j=>if j=i then x else D j
def gz(D:Nat→Ms)(i:Nat)(x:Ms):Nat→Ms:=λ j=>if j=i then x else D j
def MM(Q:Nat)(D:Nat→Ab)(s:Sh)(n:Nat):Nat:=(cu n (λ i=>cP F (D i))+3 * s.ms+3 * s.ws) * Q+cu n (λ i=>hc s (D i))
def pg(j:Nat):Lp→Prop
 | .ud | .u0 | .uc _ | .ux | .us | .ue=>j≤F.J
 | .wv | .wr | .wk | .d1 | .d2 | .d3 | .d4=>j=F.J
 | .quit=>False
 | _=>j < F.J
def nF(js:Nat→Nat):Lp→Prop
 | .ul j | .uv j | .ur j=>j=js
 | _=>True
def ep(s:Sh)(js:Nat→Nat)(hl:Nat):ai:=(F.bm,hU F.tm s)::(F.bw,hZ F.tw s)::(if hl=0 then [(F.bo,F.cont js)] else [])
def ix(hl:Nat):Option Nat:=if hl=0 then some F.bo else none
def q6(K:Goroutine→Prop)(z:Prop)(g:Goroutine):Prop:=∃ b,K b∧b.status = .running∧b.offers=none∧(g=b∨(g={ b with status:=.blocked }∧z))
def ib(f:Nat)(s:Sh)(i:Nat)(m:Ms)(x:Option Th)(mu:Bool)(d:Nat)(g:Goroutine):Ab→Prop
 | .no=>x=none∧0 < i∧∃ q,m=some (jh q)∧QuitsD F.P q d g
 | .wk k j T=>0 < i∧d=hr T∧mu=ft T∧∃ y n,x=some y∧f≤n ∧
   if ft T then ∃ q,m=some (jh q)∧n5 F.P (KW F n k j T y.R y.H) q g
   else (∃ b,m=some b∧n4 F.P F.B false (KW F n k j T) b y.R y.H g)∨(m=none∧(∃ c,T = .s1 c)∧q6 (KW F n k j T y.R y.H) (s.ms=0) g)
 | .mn T=>i=0∧d=hM T∧mu=false∧∃ y n,x=some y∧f≤n ∧
   ((∃ b,m=some b∧n4 F.P F.B true (KM F n T) b y.R y.H g)∨(m=none∧T = .w3∧q6 (KM F n T y.R y.H) (s.ws=0) g))
structure Bk (Q:Nat) (T0:Mp) (D:Nat→Ab) (js:Nat→Nat) (s:Sh) (n:Nat):Prop where
 d0:D 0 = .mn T0
 nf:T0 ≠ .fin
 pos:0 < n
 out:∀ i,n≤i→D i = .no
 main:∀ i T,D i = .mn T→i=0
 jB:cy F.N (cnt D n) s
 aig:hh F.N T0 (cnt D n) s
 gL:∀ i k j T,D i = .wk k j T→iJ F.N T∧pg F j T∧nF js T∧js k=j∧k+rem T0 < F.N
 kJ:∀ i i' k j j' T T',D i = .wk k j T→D i' = .wk k j' T'→i=i'
 done:∀ k,k+rem T0 < F.N→js k=F.J∨∃ i j T,D i = .wk k j T
 vy:∀ k,F.N≤k+rem T0→js k=0
 ru:31 * (n+rem T0) < Q
structure MI (Q:Nat) (T0:Mp) (D:Nat→Ab) (m:Nat→Ms) (js:Nat→Nat) (s:Sh) (th:Nat→Option Th) (mu:Nat→Bool) (dd:Nat→Nat) (gs:Array Goroutine) (w:World) (t:Trace):Prop where
 mem:dq F.B th (ep F s js (cnt D gs.size).hl) w
 tr:cl (some (am F)) (some (aw F)) th mu dd [F.bm,F.bw] (ix F (cnt D gs.size).hl) w.heap.size t
 lI:∀ i g,gs[i]? = some g→ib F (MM F Q D s gs.size) s i (m i) (th i) (mu i) (dd i) g (D i)
 out:∀ i,gs.size≤i→th i=none∧mu i=false∧dd i=0
 bk:Bk F Q T0 D js s gs.size
end Go.Lg
namespace Go.Lg
open Go.Conc Go.ConcN
theorem fg(D:Nat→Ab)(i:Nat)(x:Ab):b6 D i x i=x:=by simp [b6]
theorem dC{D:Nat→Ab}{i j:Nat}{x:Ab}(h:j≠i):b6 D i x j=D j:=by simp [b6,h]
theorem tp(D:Nat→Ms)(i:Nat)(x:Ms):gz D i x i=x:=by simp [gz]
theorem qX{D:Nat→Ms}{i j:Nat}{x:Ms}(h:j≠i):gz D i x j=D j:=by simp [gz,h]
theorem px{th:Nat→Option Th}{i:Nat}{x:Option Th}(h:th i=x):dS th i x=th:=by
 funext j; unfold dS; split
 ·rename_i e; subst e; exact h.symm
 ·rfl
theorem zY{f:Nat→Nat}{i:Nat}:∀ {n:Nat},i < n→f i≤cu n f
 | n+1,h=>by
  simp only [cu]
  rcases Nat.lt_or_ge i n with b | d
  ·have:=zY (f:=f) b; omega
  ·obtain rfl:i=n:=by omega
   omega
theorem wy{f:Nat→Nat}{b:Nat}(h:∀ i,f i≤b):∀ n,cu n f≤b * n
 | 0=>by simp [cu]
 | n+1=>by have:=wy h n; have:=h n; simp only [cu,Nat.mul_succ]; omega
theorem k0{D:Nat→Ab}{i n:Nat}(hi:i < n)(x:Ab):(cnt D n).mP (cA (D i)) (cA x) (cnt (b6 D i x) n):=by
 have key:∀ f:Cn→Nat,cu n (λ j=>f (cA (b6 D i x j)))+f (cA (D i))=cu n (λ j=>f (cA (D j)))+f (cA x):=λ f=>by
  have:=pr (f:=λ j=>f (cA (D j))) (g:=λ j=>f (cA (b6 D i x j))) hi (λ k b=>by simp only [dC b])
  simpa only [fg] using this
 exact ⟨key _,key _,key _,key _,key _,key _,key _,key _,key _,key _,key _,key _,key _⟩
theorem pJ{D:Nat→Ab}{i n:Nat}(hi:i < n):(cA (D i)).Le (cnt D n):=by
 have key:∀ f:Cn→Nat,f (cA (D i))≤cu n (λ j=>f (cA (D j))):=λ f=>zY (f:=λ j=>f (cA (D j))) hi
 exact ⟨key _,key _,key _,key _,key _,key _,key _,key _,key _,key _,key _,key _,key _⟩
theorem BW{D:Nat→Ab}{n:Nat}(z:0 < n)(x:Ab)(y:Ab)(o:cA x = .zero)(b:cA (D 0) = .zero):(cnt D n).mP .zero (cA y) (cnt (b6 (b6 D n y) 0 x) (n+1)):=by
 have key:∀ f:Cn→Nat,f .zero=0→cu (n+1) (λ j=>f (cA (b6 (b6 D n y) 0 x j)))+f .zero=cu n (λ j=>f (cA (D j)))+f (cA y):=λ f d=>by
  simp only [cu]
  rw [dC (show n≠0 by omega),fg,d]
  have:cu n (λ j=>f (cA (b6 (b6 D n y) 0 x j)))=cu n (λ j=>f (cA (D j))):=tn λ j p=>by
   by_cases h:j=0
   ·subst h; rw [fg,o,b]
   ·rw [dC h,dC (by omega)]
  omega
 exact ⟨key _ rfl,key _ rfl,key _ rfl,key _ rfl,key _ rfl,key _ rfl,key _ rfl,key _ rfl,key _ rfl,key _ rfl,key _ rfl,key _ rfl,key _ rfl⟩
section
variable {F:Fx} {D:Nat→Ab} {s s':Sh} {n i Q:Nat} {x:Ab}
theorem FF(s:Sh)(a:Ab):hc s a≤31:=by
 cases a
 ·exact Nat.zero_le _
 ·exact R9 _ _
 ·exact R8 _ _
theorem tv(hi:i < n)(y:31 * n < Q)
  (h:cP F x+3 * s'.ms+3 * s'.ws < cP F (D i)+3 * s.ms+3 * s.ws∨(cP F x+3 * s'.ms+3 * s'.ws=cP F (D i)+3 * s.ms+3 * s.ws∧s'.mu=s.mu∧s'.v=s.v∧hc s x < hc s (D i))) :
  MM F Q (b6 D i x) s' n < MM F Q D s n:=by
 have h1:=pr (f:=λ j=>cP F (D j)) (g:=λ j=>cP F (b6 D i x j)) hi (λ k b=>by simp only [dC b])
 simp only [fg] at h1
 unfold MM
 rcases h with h | ⟨h,hm,p,z⟩
 ·have h2:cu n (λ j=>hc s' (b6 D i x j))≤31 * n:=wy (λ j=>FF s' _) n
  generalize cu n (λ j=>cP F (b6 D i x j))=d at *
  generalize cu n (λ j=>cP F (D j))=a at *
  generalize cu n (λ j=>hc s' (b6 D i x j))=r' at *
  have h3:d+3 * s'.ms+3 * s'.ws+1≤a+3 * s.ms+3 * s.ws:=by omega
  have h4:=Nat.mul_le_mul_right Q h3
  rw [Nat.add_mul _ 1 Q,Nat.one_mul] at h4
  omega
 ·have er:∀ a,hc s' a=hc s a:=λ a=>by cases a <;> simp [hc,hm,p]
  have h2:=pr (f:=λ j=>hc s (D j)) (g:=λ j=>hc s (b6 D i x j)) hi (λ k b=>by simp only [dC b])
  simp only [fg] at h2
  have e:(λ j=>hc s' (b6 D i x j))=λ j=>hc s (b6 D i x j):=by funext j; exact er _
  rw [e]
  have o:cu n (λ j=>cP F (b6 D i x j))+3 * s'.ms+3 * s'.ws=cu n (λ j=>cP F (D j))+3 * s.ms+3 * s.ws:=by omega
  rw [o]
  omega
theorem G0{y:Ab}(p:0 < n)(z:31 * (n+1) < Q)(h:cP F x+cP F y < cP F (D 0)):MM F Q (b6 (b6 D n y) 0 x) s (n+1) < MM F Q D s n:=by
 have h1:=pr (f:=λ k=>cP F (D k)) (g:=λ k=>cP F (b6 D 0 x k)) p (λ k d=>by simp only [dC d])
 have h2:cu (n+1) (λ k=>cP F (b6 (b6 D n y) 0 x k))=cu n (λ k=>cP F (b6 D 0 x k))+cP F y:=by
  simp only [cu]
  rw [dC (show n≠0 by omega),fg]
  congr 1
  exact tn λ k d=>by
   by_cases b:k=0
   ·subst b; rw [fg,fg]
   ·rw [dC b,dC b,dC (by omega)]
 simp only [fg] at h1
 have h3:cu (n+1) (λ j=>hc s (b6 (b6 D n y) 0 x j))≤31 * (n+1):=wy (λ j=>FF s _) _
 unfold MM
 rw [h2]
 generalize cu n (λ j=>cP F (b6 D 0 x j))=o at *
 generalize cu n (λ j=>cP F (D j))=a at *
 generalize cu (n+1) (λ j=>hc s (b6 (b6 D n y) 0 x j))=r' at *
 have h4:o+cP F y+3 * s.ms+3 * s.ws+1≤a+3 * s.ms+3 * s.ws:=by omega
 have h5:=Nat.mul_le_mul_right Q h4
 rw [Nat.add_mul _ 1 Q,Nat.one_mul] at h5
 omega
theorem GZ(hi:i < n)(b:0 < Q)(h:0 < cP F (D i)):0 < MM F Q D s n:=by
 have:=zY (f:=λ j=>cP F (D j)) hi
 unfold MM
 have h2:0 < (cu n (λ j=>cP F (D j))+3 * s.ms+3 * s.ws) * Q:=Nat.mul_pos (by omega) b
 omega
end
section
variable {F:Fx} {B:Base} {th:Nat→Option Th} {s s':Sh} {js:Nat→Nat} {hl:Nat} {w w':World}
theorem mU(F:Fx)(s:Sh)(js:Nat→Nat)(hl:Nat):(F.bm,hU F.tm s)∈ep F s js hl:=by simp [ep]
theorem mV(F:Fx)(s:Sh)(js:Nat→Nat)(hl:Nat):(F.bw,hZ F.tw s)∈ep F s js hl:=by simp [ep]
theorem rC(F:Fx)(s:Sh)(js:Nat→Nat)(hl:Nat):∀ b,b∈[F.bm,F.bw]→∃ o,(b,o)∈ep F s js hl:=λ b hb=>by
 simp only [c8,List.not_mem_nil,or_false] at hb
 rcases hb with rfl | rfl
 ·exact ⟨_,mU F s js hl⟩
 ·exact ⟨_,mV F s js hl⟩
theorem rB(F:Fx)(s:Sh)(js:Nat→Nat)(hl:Nat):∀ b,ix F hl=some b→(∃ o,(b,o)∈ep F s js hl)∧b ∉ [F.bm,F.bw]:=λ b hb=>by
 unfold ix at hb
 split at hb
 ·cases hb
  rename_i h
  refine ⟨⟨F.cont js,by simp [ep,h]⟩,?_⟩
  have:=F.ho
  simp only [c8,List.not_mem_nil,or_false,not_or]
  exact ⟨λ e=>this.2.1 e.symm,λ e=>this.2.2 e.symm⟩
 ·cases hb
theorem pb{b:Nat}{o:Obj}(h:(b,o)∈ep F s js hl):(b=F.bm∧o=hU F.tm s)∨(b=F.bw∧o=hZ F.tw s)∨(b=F.bo∧o=F.cont js∧hl=0):=by
 unfold ep at h
 simp only [c8,Prod.mk.injEq] at h
 rcases h with h | h | h
 ·exact .inl h
 ·exact .inr (.inl h)
 ·split at h
  ·simp only [c8,Prod.mk.injEq,List.not_mem_nil,or_false] at h
   exact .inr (.inr ⟨h.1,h.2,‹_›⟩)
  ·cases h
theorem wS(h:dq B th (ep F s js hl) w):dA F s w:=⟨h.g6 _ _ (mU F s js hl),h.g6 _ _ (mV F s js hl)⟩
theorem dq.put(h:dq F.B th (ep F s js hl) w)(p:bZ F s' w w'):dq F.B th (ep F s' js hl) w':=by
 have ne:∀ b,(∃ j x,th j=some x∧((∃ o,x.R b=some o)∨∃ o,(b,o)∈x.H))→w'.heap[b]? = w.heap[b]? := by
  rintro b ⟨j,x,d,hb⟩
  have h1:=h.gq _ _ (mU F s js hl) j x d
  have h2:=h.gq _ _ (mV F s js hl) j x d
  refine p.same b (λ e=>?_) (λ e=>?_) <;> subst e
  ·rcases hb with ⟨o,ho⟩ | ⟨o,ho⟩
   ·exact nn h1.1 ho
   ·exact h1.2 o ho
  ·rcases hb with ⟨o,ho⟩ | ⟨o,ho⟩
   ·exact nn h2.1 ho
   ·exact h2.2 o ho
 refine ⟨λ j x d=>?_,h.apart,λ b o hb=>?_,λ b o hb j x d=>?_⟩
 ·have f:=h.fits j x d
  exact ⟨λ b o hb=>by rw [ne b ⟨j,x,d,.inl ⟨o,hb⟩⟩]; exact f.r b o hb,λ b o hb=>by rw [ne b ⟨j,x,d,.inr ⟨o,hb⟩⟩]; exact f.h b o hb,f.nd,f.dj,p.os f.os,p.tape.trans f.tape,p.out.trans f.out⟩
 ·rcases pb hb with ⟨rfl,rfl⟩ | ⟨rfl,rfl⟩ | ⟨rfl,rfl,y⟩
  ·exact p.sh.m
  ·exact p.sh.g
  ·rw [p.same _ (λ e=>F.ho.2.1 e.symm) (λ e=>F.ho.2.2 e.symm)]
   exact h.g6 _ _ (by simp [ep,y])
 ·rcases pb hb with ⟨rfl,rfl⟩ | ⟨rfl,rfl⟩ | ⟨rfl,rfl,y⟩
  ·exact h.gq _ _ (mU F s js hl) j x d
  ·exact h.gq _ _ (mV F s js hl) j x d
  ·exact h.gq F.bo (F.cont js) (by simp [ep,y]) j x d
theorem dq.take{i hl':Nat}{R:aA}{H:ai}(h:dq B th (ep F s js 0) w)(hi:th i=some ⟨R,H⟩)(L:hl'≠0):dq B (dS th i (some ⟨R,(F.bo,F.cont js)::H⟩)) (ep F s js hl') w:=by
 have I:(F.bo,F.cont js)∈ep F s js 0:=by simp [ep]
 have z:=h.fits i _ hi
 have E:=h.gq _ _ I
 have sub:∀ {b o},(b,o)∈ep F s js hl'→(b,o)∈ep F s js 0∧b≠F.bo:=λ {b o} hb=>by
  rcases pb hb with ⟨rfl,rfl⟩ | ⟨rfl,rfl⟩ | ⟨rfl,rfl,d⟩
  ·exact ⟨mU F s js 0,F.ho.2.1⟩
  ·exact ⟨mV F s js 0,F.ho.2.2⟩
  ·exact absurd d L
 refine ⟨λ j x d=>?_,λ j k x y G d C b o hb=>?_,λ b o hb=>h.g6 b o (sub hb).1,λ b o hb j x d=>?_⟩
 ·by_cases f:j=i
  ·subst f; rw [dp] at d; cases d
   refine ⟨z.r,λ b o hb=>?_,?_,λ b o hb=>?_,z.os,z.tape,z.out⟩
   ·rcases c8.1 hb with e | hb
    ·cases e; exact h.g6 _ _ I
    ·exact z.h b o hb
   ·rw [List.map_cons,List.nodup_cons]
    refine ⟨λ hm=>?_,z.nd⟩
    obtain ⟨p,K,he⟩:=List.mem_map.1 hm
    obtain ⟨b,o⟩:=p
    simp only at he
    subst he
    exact (E j _ hi).2 o K
   ·rcases c8.1 hb with e | hb
    ·cases e; exact (E j _ hi).1
    ·exact z.dj b o hb
  ·rw [cS f] at d; exact h.fits j x d
 ·by_cases f:j=i
  ·subst f; rw [dp] at d; cases d
   rw [cS (Ne.symm G)] at C
   rcases c8.1 hb with e | hb
   ·cases e; exact E k y C
   ·exact h.apart j k _ _ G hi C b o hb
  ·rw [cS f] at d
   by_cases J:k=i
   ·subst J; rw [dp] at C; cases C
    have:=h.apart j k _ _ G d hi b o hb
    refine ⟨this.1,λ o' A=>?_⟩
    rcases c8.1 A with e | A
    ·cases e; exact (E j x d).2 o hb
    ·exact this.2 o' A
   ·rw [cS J] at C; exact h.apart j k x y G d C b o hb
 ·by_cases f:j=i
  ·subst f; rw [dp] at d; cases d
   have:=h.gq b o (sub hb).1 j _ hi
   refine ⟨this.1,λ o' A=>?_⟩
   rcases c8.1 A with e | A
   ·cases e; exact (sub hb).2 rfl
   ·exact this.2 o' A
  ·rw [cS f] at d; exact h.gq b o (sub hb).1 j x d
theorem dq.L6{i:Nat}{R:aA}{H:ai}{eZ:Nat→Nat}(h:dq B th (ep F s js hl) w)(_:hl≠0)(hi:th i=some ⟨R,(F.bo,F.cont eZ)::H⟩):dq B (dS th i (some ⟨R,H⟩)) (ep F s eZ 0) w:=by
 have f:=h.fits i _ hi
 have G:=f.nd
 rw [List.map_cons,List.nodup_cons] at G
 have M:∀ o,(F.bo,o) ∉ H:=λ o ho=>G.1 (List.mem_map.2 ⟨_,ho,rfl⟩)
 have key:∀ j x,dS th i (some ⟨R,H⟩) j=some x→∃ y,th j=some y∧x.R=y.R∧(∀ p,p∈x.H→p∈y.H):=λ j x d=>by
  by_cases z:j=i
  ·subst z; rw [dp] at d; cases d
   exact ⟨_,hi,rfl,λ p I=>List.mem_cons_of_mem _ I⟩
  ·rw [cS z] at d; exact ⟨x,d,rfl,λ p I=>I⟩
 refine ⟨λ j x d=>?_,λ j k x y L d O b o hb=>?_,λ b o hb=>?_,λ b o hb j x d=>?_⟩
 ·by_cases z:j=i
  ·subst z; rw [dp] at d; cases d
   exact ⟨f.r,λ b o hb=>f.h b o (List.mem_cons_of_mem _ hb),G.2,λ b o hb=>f.dj b o (List.mem_cons_of_mem _ hb),f.os,f.tape,f.out⟩
  ·rw [cS z] at d; exact h.fits j x d
 ·obtain ⟨x',E,e1,C⟩:=key j x d
  obtain ⟨S,P,J,K⟩:=key k y O
  have:=h.apart j k x' S L E P b o (C _ hb)
  exact ⟨by rw [J]; exact this.1,λ o' A=>this.2 o' (K _ A)⟩
 ·rcases pb hb with ⟨rfl,rfl⟩ | ⟨rfl,rfl⟩ | ⟨rfl,rfl,_⟩
  ·exact h.g6 _ _ (mU F s js hl)
  ·exact h.g6 _ _ (mV F s js hl)
  ·exact f.h _ _ (by simp)
 ·obtain ⟨x',E,e1,C⟩:=key j x d
  rcases pb hb with ⟨rfl,rfl⟩ | ⟨rfl,rfl⟩ | ⟨rfl,rfl,_⟩
  ·have:=h.gq _ _ (mU F s js hl) j x' E
   exact ⟨by rw [e1]; exact this.1,λ o' A=>this.2 o' (C _ A)⟩
  ·have:=h.gq _ _ (mV F s js hl) j x' E
   exact ⟨by rw [e1]; exact this.1,λ o' A=>this.2 o' (C _ A)⟩
  ·by_cases z:j=i
   ·subst z; rw [dp] at d; cases d
    exact ⟨f.dj F.bo (F.cont eZ) (by simp),M⟩
   ·rw [cS z] at d
    have:=h.apart i j _ _ (Ne.symm z) hi d F.bo (F.cont eZ) (by simp)
    exact this
end
theorem vD{F:Fx}{j:Nat}(c:Lc):pg F j (hd c)↔j < F.J:=by unfold hd; split <;> exact Iff.rfl
theorem QP{F:Fx}{j:Nat}(c:Lc):pg F j (fb c)↔j < F.J:=by unfold fb; split <;> exact Iff.rfl
theorem Fi{F:Fx}{j:Nat}(m:Wd):pg F j (hu m)↔j≤F.J:=by unfold hu; split <;> exact Iff.rfl
section
variable {F:Fx} {Q:Nat} {T0 e5:Mp} {D:Nat→Ab} {js:Nat→Nat} {s s':Sh} {n i k j:Nat} {T T':Lp}
theorem QQ(h:pg F j T)(f:cz T s T' s')(d:mG F j T T')(hu:eu T=false)(b:T' ≠ .quit):pg F j T':=by
 cases f
 case ur=>cases hu
 case r0=>exact (vD _).2 h
 case r1=>exact (vD _).2 h
 case r3=>exact (vD _).2 h
 case mr=>exact (vD _).2 h
 case mE=>exact (QP _).2 h
 case lQ c _ _=>cases c.ws <;> exact h
 case s1 c _ _=>cases c.sv <;> exact h
 case mF=>exact (Fi _).2 h
 case ux=>exact (Fi _).2 h
 case wC=>exact d
 case wD=>exact d
 case rI=>exact absurd rfl b
 case d4=>exact absurd rfl b
 all_goals exact h
theorem vC{js:Nat→Nat}(c:Lc):nF js (hd c):=by unfold hd; split <;> trivial
theorem QO{js:Nat→Nat}(c:Lc):nF js (fb c):=by unfold fb; split <;> trivial
theorem Fh{js:Nat→Nat}(m:Wd):nF js (hu m):=by unfold hu; split <;> trivial
theorem Bk.s8(h:Bk F Q T0 D js s n):31 * n < Q:=by have:=h.ru; omega
theorem SU{J:Nat}{T:Mp}(h:T ≠ .fin):0 < stM J T:=by cases T <;> simp only [stM] <;> first | omega | exact absurd rfl h
theorem Bk.jS(h:Bk F Q T0 D js s n):0 < MM F Q D s n:=GZ h.pos (by have:=h.s8; omega) (by rw [h.d0]; exact SU h.nf)
theorem Bk.j0(h:Bk F Q T0 D js s n)(hd:D i = .wk k j T)(hi:i < n)(E:cz T s T' s'){x:Ab}{eZ:Nat→Nat}(ad:cA x=cW T')(ae:∀ T,x ≠ .mn T)(G:∀ b j' d,x = .wk b j' d→b=k∧d=T'∧eZ k=j'∧pg F j' d)
  (A:∀ b,b≠k→eZ b=js b) (ab:∀ i' b j' d,i'≠i→D i' = .wk b j' d→nF eZ d) (ac:nF eZ T') (V:eZ k=F.J∨∃ j',x = .wk k j' T'):Bk F Q T0 (b6 D i x) eZ s' n:=by
 have P:i≠0:=λ e=>by subst e; rw [h.d0] at hd; cases hd
 obtain ⟨ag,al,ak,ok,on⟩:=h.gL i k j T hd
 have hle:=pJ (D:=D) hi
 have y:=k0 (D:=D) hi x
 rw [hd] at hle y
 rw [ad] at y
 obtain ⟨U,S⟩:=h.jB.step ag hle E y
 have W:=h.aig.step hle E y
 refine ⟨by rw [dC (Ne.symm P)]; exact h.d0,h.nf,h.pos,λ i' Y=>by rw [dC (by omega)]; exact h.out i' Y,λ i' T f=>?_,U,W,λ i' b j' d f=>?_,λ i1 i2 b p af d I h1 h2=>?_,λ b C=>?_,λ b C=>?_,h.ru⟩
 ·by_cases e:i'=i
  ·subst e; rw [fg] at f; exact absurd f (ae T)
  ·rw [dC e] at f; exact h.main i' T f
 ·by_cases e:i'=i
  ·subst e; rw [fg] at f
   obtain ⟨rfl,rfl,h3,h4⟩:=G b j' d f
   exact ⟨S,h4,ac,h3,on⟩
  ·rw [dC e] at f
   obtain ⟨a1,K,ah,L,M⟩:=h.gL i' b j' d f
   have Z:b≠k:=λ z=>by subst z; exact e (h.kJ i' i b j' j d T f hd)
   exact ⟨a1,K,ab i' b j' d e f,by rw [A b Z]; exact L,M⟩
 ·have key:∀ i1 p d,b6 D i x i1 = .wk b p d→∃ j' T',D i1 = .wk b j' T':=λ i1 p d h1=>by
   by_cases e:i1=i
   ·subst e; rw [fg] at h1
    obtain ⟨rfl,_⟩:=G b p d h1
    exact ⟨_,_,hd⟩
   ·rw [dC e] at h1; exact ⟨_,_,h1⟩
  obtain ⟨_,_,e1⟩:=key i1 p d h1
  obtain ⟨_,_,O⟩:=key i2 af I h2
  exact h.kJ _ _ _ _ _ _ _ e1 O
 ·by_cases e:b=k
  ·subst e
   rcases V with o | ⟨j',o⟩
   ·exact .inl o
   ·exact .inr ⟨i,j',T',by rw [fg]; exact o⟩
  ·rcases h.done b C with o | ⟨i',j',d,o⟩
   ·exact .inl (by rw [A b e]; exact o)
   ·refine .inr ⟨i',j',d,?_⟩
    rw [dC (λ z=>by subst z; rw [hd] at o; cases o; exact e rfl)]; exact o
 ·have e:b≠k:=λ e=>by subst e; omega
  rw [A b e]; exact h.vy b C
theorem Bk.work(h:Bk F Q T0 D js s n)(hd:D i = .wk k j T)(hi:i < n)(b:cz T s T' s')(p:mG F j T T')(y:nF js T')(hu:eu T=false)(o:T' ≠ .quit) :
  Bk F Q T0 (b6 D i (.wk k j T')) js s' n∧MM F Q (b6 D i (.wk k j T')) s' n < MM F Q D s n:=by
 obtain ⟨C,A,E,ok,on⟩:=h.gL i k j T hd
 refine ⟨h.j0 hd hi b rfl (λ T=>by simp) (λ f j' d e=>?_) (λ _ _=>rfl) (λ i' f j' d _ e=>(h.gL i' f j' d e).2.2.1) y (.inr ⟨j,rfl⟩),tv hi h.s8 ?_⟩
 ·cases e; exact ⟨rfl,rfl,ok,QQ A b p hu o⟩
 ·rw [hd]
  have:=b.uJ C
  simp only [hu,fc,if_false] at this
  simp only [cP,hc]
  rcases this with z | ⟨z1,_,z2,z3,z4⟩
  ·left; omega
  ·right; exact ⟨by omega,z2,z3,z4⟩
theorem Bk.ur(h:Bk F Q T0 D js s n)(hd:D i = .wk k j (.ur js))(hi:i < n) :
  Bk F Q T0 (b6 D i (.wk k (j+1) .ud)) (ec js k (j+1)) s n∧MM F Q (b6 D i (.wk k (j+1) .ud)) s n < MM F Q D s n:=by
 obtain ⟨I,C,G,ok,on⟩:=h.gL i k j _ hd
 have E:j < F.J:=C
 refine ⟨h.j0 hd hi .ur rfl (λ T=>by simp) (λ y j' o e=>?_) (λ y A=>j1 A) (λ i' y j' o f e=>?_) trivial (.inr ⟨_,rfl⟩),tv hi h.s8 ?_⟩
 ·cases e; exact ⟨rfl,rfl,j2 _ _ _,E⟩
 ·
  have hb:=h.jB
  have h1:=hb.ow
  have h2:=hb.l1
  have a1:(cA (D i)).hl=1:=by rw [hd]; rfl
  cases o with
  | ul z =>
   have b:(cA (D i')).hl=1:=by rw [e]; rfl
   have:2≤(cnt D n).hl:=by
    have d:i' < n:=by
     apply Classical.byContradiction
     intro p
     rw [h.out i' (by omega)] at e; cases e
    have t1:=(k0 (D:=D) hi .no).hl
    have t2:=(pJ (D:=b6 D i .no) d).hl
    rw [dC f,b] at t2
    rw [a1] at t1
    simp only [cA,Cn.zero] at t1
    omega
   omega
  | uv z =>
   have b:(cA (D i')).hl=1:=by rw [e]; rfl
   have:2≤(cnt D n).hl:=by
    have d:i' < n:=by
     apply Classical.byContradiction
     intro p
     rw [h.out i' (by omega)] at e; cases e
    have t1:=(k0 (D:=D) hi .no).hl
    have t2:=(pJ (D:=b6 D i .no) d).hl
    rw [dC f,b] at t2
    rw [a1] at t1
    simp only [cA,Cn.zero] at t1
    omega
   omega
  | ur z =>
   have b:(cA (D i')).hl=1:=by rw [e]; rfl
   have:2≤(cnt D n).hl:=by
    have d:i' < n:=by
     apply Classical.byContradiction
     intro p
     rw [h.out i' (by omega)] at e; cases e
    have t1:=(k0 (D:=D) hi .no).hl
    have t2:=(pJ (D:=b6 D i .no) d).hl
    rw [dC f,b] at t2
    rw [a1] at t1
    simp only [cA,Cn.zero] at t1
    omega
   omega
  | _=>trivial
 ·rw [hd]
  left
  simp only [cP,eS]
  have:F.J - j=(F.J - (j+1))+1:=by omega
  omega
theorem Bk.quit(h:Bk F Q T0 D js s n)(hd:D i = .wk k j T)(hi:i < n)(f:cz T s .quit s')(d:j=F.J)(hu:eu T=false) :
  Bk F Q T0 (b6 D i .no) js s' n∧MM F Q (b6 D i .no) s' n < MM F Q D s n:=by
 obtain ⟨p,A,y,ok,on⟩:=h.gL i k j T hd
 refine ⟨h.j0 hd hi f rfl (λ T=>by simp) (λ o j' b e=>by cases e) (λ _ _=>rfl) (λ i' o j' b _ e=>(h.gL i' o j' b e).2.2.1) trivial (.inl (ok.trans d)),tv hi h.s8 ?_⟩
 rw [hd]
 have:=f.uJ p
 simp only [hu,fc,if_false] at this
 simp only [cP,hc]
 rcases this with z | ⟨z1,_,z2,z3,z4⟩
 ·left; omega
 ·right; have z5:eS Lp.quit=0:=rfl; subst d; exact ⟨by omega,z2,z3,z4⟩
theorem RN(b:ef T0 s e5 s')(h:e5 ≠ .fin):rem e5=rem T0:=by cases b <;> rfl
theorem Bk.Qd(h:Bk F Q T0 D js s n)(o:ef T0 s e5 s')(E:e5 ≠ .fin):Bk F Q e5 (b6 D 0 (.mn e5)) js s' n∧MM F Q (b6 D 0 (.mn e5)) s' n < MM F Q D s n:=by
 have p:=RN o E
 have G:=k0 (D:=D) h.pos (.mn e5)
 rw [h.d0] at G
 have A:cnt (b6 D 0 (.mn e5)) n=cnt D n:=by
  obtain ⟨I,O,P,S,U,V,W,Y,Z,J,K,L,M⟩:=G
  simp only [cA,Cn.zero,Nat.add_zero] at *
  generalize cnt (b6 D 0 (.mn e5)) n=c' at *
  generalize cnt D n=c at *
  cases c; cases c'; simp only [Cn.mk.injEq] at *
  exact ⟨I,O,P,S,U,V,W,Y,Z,J,K,L,M⟩
 have key:∀ i' b j' d,b6 D 0 (.mn e5) i' = .wk b j' d→D i' = .wk b j' d:=λ i' b j' d e=>by
  by_cases f:i'=0
  ·subst f; rw [fg] at e; cases e
  ·rwa [dC f] at e
 refine ⟨⟨fg _ _ _,E,h.pos,λ i' ab=>by rw [dC (by have:=h.pos; omega)]; exact h.out i' ab,λ i' T C=>?_,by rw [A]; exact h.jB.main o,by rw [A]; exact h.aig.main o,λ i' b j' d e=>by rw [p]; exact h.gL i' b j' d (key _ _ _ _ e),
  λ i1 i2 b ad ae d ac h1 h2=>h.kJ _ _ _ _ _ _ _ (key _ _ _ _ h1) (key _ _ _ _ h2),λ b y=>?_,λ b y=>h.vy b (by rw [← p]; exact y),by rw [p]; exact h.ru⟩,tv h.pos h.s8 ?_⟩
 ·by_cases f:i'=0
  ·exact f
  ·rw [dC f] at C; exact h.main i' T C
 ·rcases h.done b (by rw [← p]; exact y) with z | ⟨i',j',d,z⟩
  ·exact .inl z
  ·exact .inr ⟨i',j',d,by rw [dC (λ e=>by subst e; rw [h.d0] at z; cases z)]; exact z⟩
 ·rw [h.d0]; exact o.uJ
theorem vQ(r:Nat):rem (fD r)=r:=by cases r <;> rfl
theorem QI(r:Nat):fD r ≠ .fin:=by cases r <;> simp [fD]
theorem Bk.spawn{r:Nat}(h:Bk F Q (.go r) D js s n):Bk F Q (fD r) (b6 (b6 D n (.wk (F.N - (r+1)) 0 .ld)) 0 (.mn (fD r))) js s (n+1)∧MM F Q (b6 (b6 D n (.wk (F.N - (r+1)) 0 .ld)) 0 (.mn (fD r))) s (n+1) < MM F Q D s n:=by
 have A:=BW (D:=D) h.pos (.mn (fD r)) (.wk (F.N - (r+1)) 0 .ld) rfl (by rw [h.d0]; rfl)
 have M:=h.pos
 have hle:=h.aig.le
 simp only [rem] at hle
 have V:r+1≤F.N:=by omega
 have key:∀ i' b j' d,b6 (b6 D n (.wk (F.N - (r+1)) 0 .ld)) 0 (.mn (fD r)) i' = .wk b j' d→(i'=n∧b=F.N - (r+1)∧j'=0∧d = .ld)∨D i' = .wk b j' d:=λ i' b j' d e=>by
  by_cases f:i'=0
  ·subst f; rw [fg] at e; cases e
  ·rw [dC f] at e
   by_cases en:i'=n
   ·subst en; rw [fg] at e; cases e; exact .inl ⟨rfl,rfl,rfl,rfl⟩
   ·rw [dC en] at e; exact .inr e
 refine ⟨⟨fg _ _ _,QI r,by omega,λ i' U=>by rw [dC (by omega),dC (by omega)]; exact h.out i' (by omega),λ i' T o=>?_,h.jB.spawn h.aig A,h.aig.spawn A,λ i' b j' d e=>?_,λ i1 i2 b C E d y h1 h2=>?_,λ b p=>?_,λ b p=>?_,?_⟩,G0 M ?_ ?_⟩
 ·by_cases f:i'=0
  ·exact f
  ·rw [dC f] at o
   by_cases en:i'=n
   ·subst en; rw [fg] at o; cases o
   ·rw [dC en] at o; exact h.main i' T o
 ·rw [vQ]
  rcases key i' b j' d e with ⟨rfl,rfl,rfl,rfl⟩ | z
  ·exact ⟨trivial,F.hJ,trivial,h.vy _ (by simp only [rem]; omega),by omega⟩
  ·obtain ⟨a1,G,I,K,L⟩:=h.gL i' b j' d z
   simp only [rem] at L
   exact ⟨a1,G,I,K,by omega⟩
 ·rcases key i1 b C d h1 with ⟨O,e1,_,_⟩ | z1 <;> rcases key i2 b E y h2 with ⟨P,S,_,_⟩ | z2
  ·exact O.trans P.symm
  ·have:=(h.gL i2 _ E y z2).2.2.2.2; simp only [rem] at this; omega
  ·have:=(h.gL i1 _ C d z1).2.2.2.2; simp only [rem] at this; omega
  ·exact h.kJ _ _ _ _ _ _ _ z1 z2
 ·rw [vQ] at p
  by_cases e:b+(r+1) < F.N
  ·rcases h.done b e with z | ⟨i',j',d,z⟩
   ·exact .inl z
   ·refine .inr ⟨i',j',d,?_⟩
    rw [dC (λ e=>by rw [e,h.d0] at z; cases z),dC (λ e=>by rw [e,h.out n (cq _)] at z; cases z)]; exact z
  ·exact .inr ⟨n,0,.ld,by rw [dC (by omega),fg]; congr 1; omega⟩
 ·rw [vQ] at p; exact h.vy b (by simp only [rem]; omega)
 ·rw [vQ]; have:=h.ru; simp only [rem] at this; omega
 ·have:=h.ru; simp only [rem] at this; omega
 ·rw [h.d0]
  have:=SP F.J r
  simp only [cP]
  omega
end
theorem n4.pv{P:Program}{B:Base}{main:Bool}{K:aA→ai→Goroutine→Prop}{T:Tree}{R:aA}{H:ai}{g:Goroutine}(h:n4 P B main K T R H g)(b:∀ R H g,K R H g→g.status = .running):g.status = .running:=by
 induction T generalizing R H g with
 | node ι f d =>
  rcases h with h | ⟨h,_⟩ | ⟨R',H',i,_,h⟩
  ·exact b _ _ _ h
  ·exact h
  ·exact d i h
theorem oF{gs:Array Goroutine}{i:Nat}{g:Goroutine}(h:gs[i]? = some g):i < gs.size:=(Array.getElem?_eq_some_iff.1 h).1
theorem q6.woken{P:Program}{K:Goroutine→Prop}{z C:Prop}{a p x:Goroutine}{w:World}(h:q6 K z x)(A:(mayWake P a=true∧p.status ≠ .blocked∧p.status ≠ .waiting)∨(z→C)):q6 K C (woken P a p w x):=by
 obtain ⟨y,E,b,ho,G⟩:=h
 refine ⟨y,E,b,ho,?_⟩
 rcases G with rfl | ⟨rfl,I⟩
 ·left
  unfold Conc.woken
  split
  ·exact again_running _ (.inl b)
  ·rfl
 ·rcases A with ⟨h1,h2,h3⟩ | A
  ·left
   unfold Conc.woken
   rw [if_pos (by simp [h1,h2,h3])]
   obtain ⟨f,c,st,d,o⟩:=y
   simp only at b ho
   subst b ho
   rfl
  ·unfold Conc.woken
   split
   ·left
    obtain ⟨f,c,st,d,o⟩:=y
    simp only at b ho
    subst b ho
    rfl
   ·right; exact ⟨rfl,A I⟩
theorem n5.run{P:Program}{K:Goroutine→Prop}(b:∀ g,K g→g.status = .running):∀ {q:Nat} {g:Goroutine},n5 P K q g→g.status = .running
 | 0,_,h=>b _ h
 | _+1,_,h=>h.elim (b _) (·.1)
section
variable {F:Fx} {Q:Nat} {T0:Mp} {D:Nat→Ab} {m:Nat→Ms} {js:Nat→Nat} {s s':Sh} {th:Nat→Option Th} {mu:Nat→Bool} {dd:Nat→Nat} {gs:Array Goroutine} {w:World} {t:Trace} {sl:Option (Nat × Nat)} {i:Nat} {g:Goroutine}
theorem KW.run{n k j:Nat}{T:Lp}{R:aA}{H:ai}(h:KW F n k j T R H g)(b:0 < n)(ho:iJ F.N T):g.status = .running∧g.offers=none:=by
 cases n with
 | zero=>omega
 | succ n=>have:=h ho; exact ⟨this.1,this.2.1⟩
theorem KM.run{n:Nat}{T:Mp}{R:aA}{H:ai}(h:KM F n T R H g)(b:0 < n):g.status = .running∧g.offers=none:=by
 cases n with
 | zero=>omega
 | succ n=>exact ⟨h.1,h.2.1⟩
theorem ib.look{E:Nat}{C:Ms}{x:Option Th}{b:Bool}{d:Nat}{A:Ab}(h:ib F E s i C x b d g A)(M:0 < E)(K:∀ k j T,A = .wk k j T→iJ F.N T) :
  (g.status = .running)∨(g.status = .finished∧A = .no)∨(g.status = .blocked∧C=none∧((∃ k j c,A = .wk k j (.s1 c)∧s.ms=0)∨(A = .mn .w3∧s.ws=0))):=by
 cases A with
 | no =>
  obtain ⟨_,_,q,_,o⟩:=h
  rcases o.status with x | x
  ·exact .inl x
  ·exact .inr (.inl ⟨x,rfl⟩)
 | wk k j T =>
  obtain ⟨_,_,_,y,n,_,L,h⟩:=h
  have ho:=K k j T rfl
  split at h
  ·obtain ⟨q,_,o⟩:=h
   exact .inl (o.run λ g f=>(f.run (by omega) ho).1)
  ·rcases h with ⟨G,_,h⟩ | ⟨rfl,⟨c,rfl⟩,I,J,p,_,f⟩
   ·exact .inl (h.pv λ R H g f=>(KW.run f (by omega) ho).1)
   ·rcases f with rfl | ⟨rfl,z⟩
    ·exact .inl p
    ·exact .inr (.inr ⟨rfl,rfl,.inl ⟨k,j,c,rfl,z⟩⟩)
 | mn T =>
  obtain ⟨_,_,_,y,n,_,L,h⟩:=h
  rcases h with ⟨G,_,h⟩ | ⟨rfl,rfl,I,J,p,_,f⟩
  ·exact .inl (h.pv λ R H g f=>(KM.run f (by omega)).1)
  ·rcases f with rfl | ⟨rfl,z⟩
   ·exact .inl p
   ·exact .inr (.inr ⟨rfl,rfl,.inr ⟨rfl,z⟩⟩)
theorem ib.woken{G K:Nat}{J:Ms}{x:Option Th}{b:Bool}{d:Nat}{A:Ab}{a p:Goroutine}{w':World}(h:ib F G s i J x b d g A)(U:0 < G)(M:∀ k j T,A = .wk k j T→iJ F.N T)(hle:K≤G)
  (I:(mayWake F.P a=true∧p.status ≠ .blocked∧p.status ≠ .waiting)∨(s'.ms≤s.ms∧s'.ws≤s.ws)):ib F K s' i J x b d (Conc.woken F.P a p w' g) A:=by
 have run:g.status = .running→Conc.woken F.P a p w' g=g:=λ S=>by
  unfold Conc.woken
  split
  ·exact again_running _ (.inl S)
  ·rfl
 cases A with
 | no =>
  obtain ⟨h1,h2,q,h3,o⟩:=h
  exact ⟨h1,h2,q,h3,by rw [woken_quitsD o]; exact o⟩
 | wk k j T =>
  obtain ⟨h1,h2,h3,y,n,h4,O,h⟩:=h
  have ho:=M k j T rfl
  refine ⟨h1,h2,h3,y,n,h4,by omega,?_⟩
  split
  ·rename_i hm
   rw [if_pos hm] at h
   obtain ⟨q,h5,o⟩:=h
   exact ⟨q,h5,by rw [run (o.run λ g f=>(f.run (by omega) ho).1)]; exact o⟩
  ·rename_i hm
   rw [if_neg hm] at h
   rcases h with ⟨C,h5,h⟩ | ⟨h5,h6,E⟩
   ·exact .inl ⟨C,h5,by rw [run (h.pv λ R H g f=>(KW.run f (by omega) ho).1)]; exact h⟩
   ·exact .inr ⟨h5,h6,E.woken (I.imp id λ z L=>by omega)⟩
 | mn T =>
  obtain ⟨h1,h2,h3,y,n,h4,O,h⟩:=h
  refine ⟨h1,h2,h3,y,n,h4,by omega,?_⟩
  rcases h with ⟨C,h5,h⟩ | ⟨h5,h6,E⟩
  ·exact .inl ⟨C,h5,by rw [run (h.pv λ R H g f=>(KM.run f (by omega)).1)]; exact h⟩
  ·exact .inr ⟨h5,h6,E.woken (I.imp id λ z L=>by omega)⟩
theorem MI.at(h:MI F Q T0 D m js s th mu dd gs w t)(d:Nat):MI F Q T0 D m js s th mu dd gs (w.at d) t:=⟨h.mem.at d,h.tr,h.lI,h.out,h.bk⟩
theorem MI.gL(h:MI F Q T0 D m js s th mu dd gs w t)(i:Nat):∀ k j T,D i = .wk k j T→iJ F.N T:=λ k j T hd=>(h.bk.gL i k j T hd).1
theorem MI.j0(h:MI F Q T0 D m js s th mu dd gs w t)(hi:gs[i]? = some g){x:Ab}{m':Ms}{e5:Mp}{eZ:Nat→Nat}{fe:Nat→Option Th}{mu':Nat→Bool}{dd':Nat→Nat}{g':Goroutine}{w':World}{t':Trace}
  (I:(mayWake F.P g=true∧g'.status ≠ .blocked∧g'.status ≠ .waiting)∨(s'.ms≤s.ms∧s'.ws≤s.ws))
  (A:MM F Q (b6 D i x) s' gs.size≤MM F Q D s gs.size) (hm:dq F.B fe (ep F s' eZ (cnt (b6 D i x) gs.size).hl) w') (G:cl (some (am F)) (some (aw F)) fe mu' dd' [F.bm,F.bw] (ix F (cnt (b6 D i x) gs.size).hl) w'.heap.size t')
  (E:ib F (MM F Q (b6 D i x) s' gs.size) s' i m' (fe i) (mu' i) (dd' i) g' x) (ho:∀ j,j≠i→fe j=th j∧mu' j=mu j∧dd' j=dd j) (hb:Bk F Q e5 (b6 D i x) eZ s' gs.size) :
  MI F Q e5 (b6 D i x) (gz m i m') eZ s' fe mu' dd' ((gs.map (Conc.woken F.P g g' w')).setIfInBounds i g') w' t':=by
 have C:=oF hi
 have f:((gs.map (Conc.woken F.P g g' w')).setIfInBounds i g').size=gs.size:=by simp
 refine ⟨by rw [f]; exact hm,by rw [f]; exact G,λ j y b=>?_,λ j b=>?_,by rw [f]; exact hb⟩
 ·rw [f]
  by_cases d:j=i
  ·subst d
   rw [j4 (by simpa using C)] at b; cases b
   rw [fg,tp]; exact E
  ·rw [gB (Ne.symm d),Array.getElem?_map] at b
   obtain ⟨z,J,rfl⟩:=Option.map_eq_some_iff.1 b
   obtain ⟨e1,o,p⟩:=ho j d
   rw [dC d,qX d,e1,o,p]
   exact (h.lI j z J).woken h.bk.jS (h.gL j) A I
 ·rw [f] at b
  obtain ⟨e1,o,p⟩:=ho j (by omega)
  rw [e1,o,p]; exact h.out j b
theorem Tj{D:Nat→Ab}{i:Nat}{x:Ab}(h:D i=x):b6 D i x=D:=by
 funext j; unfold b6; split
 ·rename_i e; subst e; exact h.symm
 ·rfl
theorem MI.still(h:MI F Q T0 D m js s th mu dd gs w t)(hi:gs[i]? = some g){m':Ms}{fe:Nat→Option Th}{dd':Nat→Nat}{g':Goroutine}{w':World}{t':Trace}(hm:dq F.B fe (ep F s js (cnt D gs.size).hl) w')(f:cl (some (am F)) (some (aw F)) fe mu dd' [F.bm,F.bw] (ix F (cnt D gs.size).hl) w'.heap.size t')
  (d:ib F (MM F Q D s gs.size) s i m' (fe i) (mu i) (dd' i) g' (D i)) (ho:∀ j,j≠i→fe j=th j∧dd' j=dd j) :
  MI F Q T0 D (gz m i m') js s fe mu dd' ((gs.map (Conc.woken F.P g g' w')).setIfInBounds i g') w' t':=by
 have e:=Tj (D:=D) (i:=i) rfl
 have:=h.j0 (x:=D i) (m':=m') (e5:=T0) (eZ:=js) (s':=s) (fe:=fe) (mu':=mu) (dd':=dd') (g':=g') (w':=w') (t':=t') hi (.inr ⟨cq _,cq _⟩) (by rw [e]; exact cq _) (by rw [e]; exact hm) (by rw [e]; exact f) (by rw [e]; exact d) (λ j b=>⟨(ho j b).1,rfl,(ho j b).2⟩) (by rw [e]; exact h.bk)
 rwa [e] at this
end
theorem B4{t u:Trace}{g:Nat}:∀ {r:Nat},r≤u.size→(t++u).deaf g (t.size+r)=(u.toList.take r).foldl (deafStep g) (Deaf t g)
 | 0,_=>by simp only [Nat.add_zero,List.take_zero,List.foldl_nil]; exact deaf_old (cq _)
 | r+1,h=>by
  have d:=B4 (t:=t) (u:=u) (g:=g) (r:=r) (by omega)
  have b:r < u.size:=by omega
  have hu:(t++u)[t.size+r]? = some u[r]:=by
   rw [Array.getElem?_append_right (by omega),Nat.add_sub_cancel_left,h0 b]
  rw [← Nat.add_assoc,deaf_succ hu,d]
  have:u.toList.take (r+1)=u.toList.take r++[u[r]]:=by
   rw [List.take_add_one]
   simp [b]
  rw [this,List.foldl_append]
  rfl
theorem B5{g:Nat}:∀ {l:List MemOp} {d:Nat},(∀ op∈l,op.act ≠ .mark .enable)→d≤l.foldl (deafStep g) d
 | [],_,_=>cq _
 | y::l,d,h=>by
  have h1:d≤deafStep g d y:=by
   unfold deafStep
   split
   ·split <;> omega
   ·rename_i e; exact absurd e (h y (by simp))
   ·exact cq _
  exact Nat.le_trans h1 (B5 λ op b=>h op (List.mem_cons_of_mem _ b))
section
variable {F:Fx} {th:Nat→Option Th} {mu:Nat→Bool} {dd:Nat→Nat} {s:Sh} {js:Nat→Nat} {hl i:Nat} {w:World} {t:Trace} {fn:FuncId} {pos:String} {es:Array Event} {R:aA} {H:ai}
theorem D2(h:dq F.B th (ep F s js hl) w):F.bm < w.heap.size:=gg (h.g6 _ _ (mU F s js hl))
theorem uX(h:dq F.B th (ep F s js hl) w):F.bw < w.heap.size:=gg (h.g6 _ _ (mV F s js hl))
theorem Hu(_:dq F.B th (ep F s js hl) w)(he:h9 F es):∀ op∈MemOp.ofEvents i fn pos es,op.g=i∧(op.act = .mark .disable∨op.act = .mark .enable∨∃ a wr,op.act = .access ⟨.cell a,wr,true⟩∧(a.block=F.bm∨a.block=F.bw)):=by
 intro op f
 obtain ⟨e,d,rfl⟩:=nB f
 refine ⟨rfl,?_⟩
 rcases he with he | ⟨a,b,rfl⟩
 ·obtain ⟨a,wr,rfl,b⟩:=he e d
  exact .inr (.inr ⟨a,wr,by cases wr <;> rfl,b⟩)
 ·simp only [semEvents,List.mem_toArray,c8,List.not_mem_nil,or_false] at d
  rcases d with rfl | rfl | rfl | rfl
  ·exact .inl rfl
  ·exact .inr (.inr ⟨a,false,rfl,b⟩)
  ·exact .inr (.inr ⟨a,true,rfl,b⟩)
  ·exact .inr (.inl rfl)
theorem Ht(he:h9 F es)(d:Nat):deafBehind d es=d:=by
 rcases he with he | ⟨a,_,rfl⟩
 ·obtain ⟨l⟩:=es
  unfold deafBehind
  simp only [List.foldl_toArray']
  induction l with
  | nil=>rfl
  | cons e l o =>
   obtain ⟨a,wr,rfl,_⟩:=he e (by simp)
   exact o λ f b=>he f (by simp at b ⊢; exact .inr b)
 ·simp [deafBehind,semEvents]
theorem cl.xc(y:dq F.B th (ep F s js hl) w)(h:cl (some (am F)) (some (aw F)) th mu dd [F.bm,F.bw] (ix F hl) w.heap.size t)(hi:th i=some ⟨R,H⟩)(he:h9 F es)(K:mu i=false∨1≤dd i) :
  cl (some (am F)) (some (aw F)) th mu dd [F.bm,F.bw] (ix F hl) w.heap.size (t++MemOp.ofEvents i fn pos es):=by
 have f:=Hu (i:=i) (fn:=fn) (pos:=pos) y he
 have:=cl.app (u:=MemOp.ofEvents i fn pos es) (n':=w.heap.size) (R':=R) (H':=H) (d':=dd i) y rfl (rC F s js hl) (rB F s js hl) h hi (λ op d=>(f op d).1) (λ op d a p=>?_) (λ op d=>?_) (λ op d a=>?_) (by rw [Deaf_own,h.deaf i,Ht he]) ?_ (cq _) (λ _ _ x=>.inl x) (λ _ o x=>.inl ⟨o,x⟩)
 ·rwa [px hi,gA] at this
 ·rcases (f op d).2 with e | e | ⟨b,wr,e,hb⟩ <;> rw [e] at p
  ·cases p
  ·cases p
  ·simp only [MemAct.touch?,ey] at p
   subst p
   exact .inr ⟨b.block,rfl,by rcases hb with hb | hb <;> simp [hb],.inl rfl⟩
 ·rcases (f op d).2 with e | e | ⟨b,wr,e,hb⟩ <;> rw [e]
  ·trivial
  ·trivial
  ·show b.block < _
   rcases hb with hb | hb <;> rw [hb]
   ·exact D2 y
   ·exact uX y
 ·rcases (f op d).2 with e | e | ⟨b,wr,e,hb⟩ <;> rw [e] <;> intro x <;> cases x
 ·refine K.imp id λ hd k a U G A=>?_
  rcases A with A | ⟨g,C,P⟩
  ·obtain ⟨op,h1,h2⟩:=touch_of G
   rcases getElem?_append_cases h1 with ⟨z,_⟩ | ⟨_,h3⟩
   ·omega
   ·rcases (f op h3).2 with e | e | ⟨b,wr,e,hb⟩ <;> rw [e] at h2
    ·cases h2
    ·cases h2
    ·simp only [MemAct.touch?,ey] at h2
     subst h2; exact A rfl
  ·obtain ⟨op,h1,h2⟩:=touch_of G
   have z:=lt_size_of_getElem? h1
   rw [Array.size_append] at z
   have M:g=i:=by
    rcases getElem?_append_cases h1 with ⟨z,_⟩ | ⟨_,h3⟩
    ·omega
    ·rw [Trace.g?,h1] at C
     simp only [Option.map_some,ey] at C
     rw [← C]; exact (f op h3).1
   subst M
   obtain ⟨r,rfl⟩:∃ r,k=t.size+r:=⟨k - t.size,by omega⟩
   rw [B4 (by omega),h.deaf g] at P
   have V:dd g≤((MemOp.ofEvents g fn pos es).toList.take r).foldl (deafStep g) (dd g):=by
    refine B5 λ I E=>?_
    rcases he with he | ⟨b,S,rfl⟩
    ·have hm:I∈MemOp.ofEvents g fn pos es:=by simpa using List.mem_of_mem_take E
     obtain ⟨e,L,rfl⟩:=nB hm
     obtain ⟨b,wr,rfl,_⟩:=he e L
     cases wr <;> (intro x; cases x)
    ·have O:r≤3:=by simp [MemOp.ofEvents,semEvents] at z; omega
     have J:(MemOp.ofEvents g fn pos (semEvents b)).toList=[⟨g,fn,pos,.mark .disable⟩,⟨g,fn,pos,.access ⟨.cell b,false,true⟩⟩,⟨g,fn,pos,.access ⟨.cell b,true,true⟩⟩,⟨g,fn,pos,.mark .enable⟩]:=by simp [MemOp.ofEvents,semEvents,MemAct.ofEvent]
     rw [J] at E
     have h3:I∈[(⟨g,fn,pos,.mark .disable⟩:MemOp),⟨g,fn,pos,.access ⟨.cell b,false,true⟩⟩,⟨g,fn,pos,.access ⟨.cell b,true,true⟩⟩]:=by
      have:([(⟨g,fn,pos,.mark .disable⟩:MemOp),⟨g,fn,pos,.access ⟨.cell b,false,true⟩⟩,⟨g,fn,pos,.access ⟨.cell b,true,true⟩⟩,⟨g,fn,pos,.mark .enable⟩]).take r <+: ([(⟨g,fn,pos,.mark .disable⟩:MemOp),⟨g,fn,pos,.access ⟨.cell b,false,true⟩⟩,⟨g,fn,pos,.access ⟨.cell b,true,true⟩⟩,⟨g,fn,pos,.mark .enable⟩]).take 3:=List.take_prefix_take_left O
      exact this.subset E
     simp only [c8,List.not_mem_nil,or_false] at h3
     rcases h3 with rfl | rfl | rfl <;> (intro x; cases x)
   omega
theorem cl.word{m:Mark}{b d:Option Addr}{sh:List Nat}{fr:Option Nat}{n:Nat}(h:cl b d th mu dd sh fr n t)(hm:m = .disable∨m = .enable) :
  cl b d th mu (ec dd i (deafBehind (dd i) (said m))) sh fr n (t++MemOp.ofEvents i fn pos (said m)):=by
 refine h.leaves λ e he=>?_
 simp only [said,List.mem_toArray,c8,List.not_mem_nil,or_false] at he
 subst he
 rcases hm with rfl | rfl <;> rfl
end
theorem uj(c:Lc):hr (hd c)=1:=by unfold hd; split <;> rfl
theorem Iq(c:Lc):hr (fb c)=1:=by unfold fb; split <;> rfl
theorem B9(m:Wd):hr (hu m)=1:=by unfold hu; split <;> rfl
theorem vv(c:Lc):ft (hd c)=false:=by unfold hd; split <;> rfl
theorem Qw(c:Lc):ft (fb c)=false:=by unfold fb; split <;> rfl
theorem E4(m:Wd):ft (hu m)=false:=by unfold hu; split <;> rfl
inductive tu (F:Fx):Lp→Lp→Array Event→Prop
 | at {T T' es}:h9 F es→hr T'=hr T→ft T'=ft T→tu F T T' es
 | mY {T T'}:hr T=0→hr T'=1→ft T'=ft T→tu F T T' (said .disable)
 | en {T T'}:hr T=1→hr T'=0→ft T'=ft T→tu F T T' (said .enable)
theorem yB{c:Lc}{T:Lp}(h1:∀ c,T ≠ .sq c)(h2:∀ c,T ≠ .c2 c):hd c≠T:=by unfold hd; split <;> exact λ e=>by subst e; first | exact h1 _ rfl | exact h2 _ rfl
theorem zR{c:Lc}{T:Lp}(h1:∀ c,T ≠ .c1 c)(h2:∀ c,T ≠ .r1 c):fb c≠T:=by unfold fb; split <;> exact λ e=>by subst e; first | exact h1 _ rfl | exact h2 _ rfl
theorem yC{m:Wd}{T:Lp}(h1:T ≠ .ue)(h2:∀ c,T ≠ .uc c):hu m≠T:=by unfold hu; split <;> exact λ e=>by subst e; first | exact h1 rfl | exact h2 _ rfl
theorem cz.inv{s s':Sh}{T T':Lp}(h:cz T s T' s'):(∀ js,T' = .ul js→T = .la)∧(T' = .ud→eu T=true)∧(T' = .quit→T = .d1∨T = .d4):=by
 have k1:∀ c,(∀ js,hd c = .ul js→T = .la)∧(hd c = .ud→eu T=true)∧(hd c = .quit→T = .d1∨T = .d4):=λ c=>⟨λ js e=>absurd e (yB (by simp) (by simp)),λ e=>absurd e (yB (by simp) (by simp)),λ e=>absurd e (yB (by simp) (by simp))⟩
 have k2:∀ c,(∀ js,fb c = .ul js→T = .la)∧(fb c = .ud→eu T=true)∧(fb c = .quit→T = .d1∨T = .d4):=λ c=>⟨λ js e=>absurd e (zR (by simp) (by simp)),λ e=>absurd e (zR (by simp) (by simp)),λ e=>absurd e (zR (by simp) (by simp))⟩
 have k3:∀ c,(∀ js,hu c = .ul js→T = .la)∧(hu c = .ud→eu T=true)∧(hu c = .quit→T = .d1∨T = .d4):=λ c=>⟨λ js e=>absurd e (yC (by simp) (by simp)),λ e=>absurd e (yC (by simp) (by simp)),λ e=>absurd e (yC (by simp) (by simp))⟩
 cases h
 case r0=>exact k1 _
 case r1=>exact k1 _
 case r3=>exact k1 _
 case mr=>exact k1 _
 case mE=>exact k2 _
 case mF=>exact k3 _
 case ux=>exact k3 _
 case lQ c _ _=>cases c.ws <;> simp
 case s1 c _ _=>cases c.sv <;> simp
 all_goals simp [eu]
theorem sZ(i:Nat)(fn:FuncId)(pos:String)(m:Mark):MemOp.ofEvents i fn pos (said m)=#[⟨i,fn,pos,.mark m⟩]:=by simp [MemOp.ofEvents,said,MemAct.ofEvent]
section
variable {F:Fx} {Q:Nat} {T0:Mp} {D:Nat→Ab} {m:Nat→Ms} {js:Nat→Nat} {s s':Sh} {th:Nat→Option Th} {mu:Nat→Bool} {dd:Nat→Nat} {gs:Array Goroutine} {w w':World} {t:Trace} {sl:Option (Nat × Nat)} {i k j:Nat} {g g':Goroutine} {T T':Lp}
theorem cz.Ah(h:cz T s T' s'):(T = .us∨T = .d4)∨(s'.ms≤s.ms∧s'.ws≤s.ws):=by
 cases h
 case us=>exact .inl (.inl rfl)
 case d4=>exact .inl (.inr rfl)
 case s1 c m h=>exact .inr ⟨by simp only; omega,cq _⟩
 all_goals exact .inr ⟨cq _,cq _⟩
theorem ef.Ah{T T':Mp}(h:ef T s T' s'):s'.ms≤s.ms∧s'.ws≤s.ws:=by
 cases h
 case w3 m h=>exact ⟨cq _,by simp only; omega⟩
 all_goals exact ⟨cq _,cq _⟩
theorem Kz(d:cz T s T' s'){es:Array Event}(he:pQ F T es)(h1:T ≠ .la)(h2:eu T=false)(h3:T ≠ .wr)(b:T' ≠ .quit):tu F T T' es:=by
 cases d
 case ld=>rw [show es=said .disable from he]; exact .mY rfl rfl rfl
 case ud=>rw [show es=said .disable from he]; exact .mY rfl rfl rfl
 case le=>rw [show es=said .enable from he]; exact .en rfl rfl rfl
 case wC=>rw [show es=said .enable from he]; exact .en rfl rfl rfl
 case wD=>rw [show es=said .enable from he]; exact .en rfl rfl rfl
 case wk=>rw [show es=said .disable from he]; exact .mY rfl rfl rfl
 case la=>exact absurd rfl h1
 case ur=>cases h2
 case wr=>exact absurd rfl h3
 case rI=>exact absurd rfl b
 case d4=>exact absurd rfl b
 case r0=>exact .at he (uj _) (vv _)
 case r1=>exact .at he (uj _) (vv _)
 case r3=>exact .at he (uj _) (vv _)
 case mr=>exact .at he (uj _) (vv _)
 case mE=>exact .at he (Iq _) (Qw _)
 case lQ c _ _=>exact .at he (by cases c.ws <;> rfl) (by cases c.ws <;> rfl)
 case s1 c _ _=>exact .at he (by cases c.sv <;> rfl) (by cases c.sv <;> rfl)
 case mF=>exact .at he (B9 _) (E4 _)
 case ux=>exact .at he (B9 _) (E4 _)
 all_goals exact .at he rfl rfl
theorem QB{K:Nat→Lp→aA→ai→Goroutine→Prop}{R:aA}{H:ai}(d:cz T s T' s')(h1:T ≠ .la)(h2:eu T=false)(f:T' ≠ .quit)(h:lM F K k j T T' R H g') :
  if ft T' then ∃ q,n5 F.P (K j T' R H) q g' else Own F.P F.B false (K j T') R H g':=by
 cases b:T' with
 | quit=>exact absurd b f
 | ul js=>exact absurd (d.inv.1 js b) h1
 | ud=>rw [d.inv.2.1 b] at h2; cases h2
 | _=>subst b; exact h
theorem Ik(h:MI F Q T0 D m js s th mu dd gs w t)(hi:gs[i]? = some g)(hd:D i = .wk k j T):0 < i∧dd i=hr T∧mu i=ft T:=by
 have:=h.lI i g hi
 rw [hd] at this
 exact ⟨this.1,this.2.1,this.2.2.1⟩
theorem MI.work(h:MI F Q T0 D m js s th mu dd gs w t)(hi:gs[i]? = some g)(hd:D i = .wk k j T){y:Th}(I:th i=some y){n:Nat}(a4:MM F Q D s gs.size≤n)(aJ:KW F n k j T y.R y.H g) :
  ((∃ c,T = .s1 c)∧s.ms=0∧stepG F.P false g w = .go { g with status:=.blocked } w #[]) ∨
  ∃ ak w' ops ay m' eZ s' fe mu' dd',(∀ sl,runT F.P (crowd gs w sl) i=(.next (crowd ak w' sl),ops))∧ak.size=gs.size∧MI F Q T0 ay m' eZ s' fe mu' dd' ak w' (t++ops)∧MM F Q ay s' ak.size < MM F Q D s gs.size:=by
 have G:=oF hi
 obtain ⟨af,L,ae⟩:=Ik h hi hd
 have aQ:(i == 0)=false:=by simp; omega
 obtain ⟨a0,aY,aI,ok,on⟩:=h.bk.gL i k j T hd
 have hle:=pJ (D:=D) G
 rw [hd] at hle
 have a2:=h.bk.jS
 obtain ⟨n',rfl⟩:∃ n',n=n'+1:=⟨n - 1,by omega⟩
 obtain ⟨a6,a5,aT,av⟩:=aJ a0
 obtain ⟨R,H⟩:=y
 rcases av w s (h.mem.fits i _ I) (wS h.mem) (h.bk.jB.pj hle) (h.bk.aig.okW hle) with hb | ⟨g',w',es,T',s',d,aW,ab,av,O,an⟩
 ·exact .inl hb
 right
 have ao:∀ sl,runT F.P (crowd gs w sl) i=(.next (crowd ((gs.map (Conc.woken F.P g g' w')).setIfInBounds i g') w' sl),MemOp.ofEvents i g.frame.fn g.frame.place es):=λ sl=>runT_crowd_go hi (by rw [aQ]; exact av)
 have S:((gs.map (Conc.woken F.P g g' w')).setIfInBounds i g').size=gs.size:=by simp
 have az:=D2 h.mem
 have aN:=uX h.mem
 have wk:(g'.status = .running∨g'.status = .finished)→(mayWake F.P g=true∧g'.status ≠ .blocked∧g'.status ≠ .waiting)∨(s'.ms≤s.ms∧s'.ws≤s.ws):=λ aC=>by
  rcases d.Ah with ah | ah
  ·exact .inl ⟨aT ah,by rcases aC with e | e <;> rw [e] <;> simp,by rcases aC with e | e <;> rw [e] <;> simp⟩
  ·exact .inr ah
 have other:∀ (x1:Option Th) (x2:Bool) (x3:Nat),∀ j,j≠i→dS th i x1 j=th j∧hg mu i x2 j=mu j∧ec dd i x3 j=dd j:=λ x1 x2 x3 j au=>⟨cS au,Ac au,j1 au⟩
 have aq:hg mu i (mu i)=mu:=by funext j; unfold hg; split <;> simp [*]
 by_cases z:T' = .quit
 ·
  subst z
  obtain ⟨q,z⟩:=an
  have W:(T = .d1∨T = .d4):=d.inv.2.2 rfl
  have aR:j=F.J:=by rcases W with rfl | rfl <;> exact aY
  have aU:mu i=true:=by rw [ae]; rcases W with rfl | rfl <;> rfl
  have aO:dd i=1:=by rw [L]; rcases W with rfl | rfl <;> rfl
  have aM:h9 F es:=by rcases W with rfl | rfl <;> exact ab
  obtain ⟨p,f⟩:=h.bk.quit hd G d aR (by rcases W with rfl | rfl <;> rfl)
  have Z:(cnt (b6 D i .no) gs.size).hl=(cnt D gs.size).hl:=by
   have:=(k0 (D:=D) G .no).hl
   rw [hd] at this
   rcases W with rfl | rfl <;> simpa [cA,cW,Cn.busy,Cn.zero] using this
  have A:=(cl.xc (fn:=g.frame.fn) (pos:=g.frame.place) h.mem h.tr I aM (.inr (by omega))).die aU
  rw [← O.size] at A
  refine ⟨_,_,_,_,gz m i (some (jh q)),js,s',dS th i none,hg mu i (mu i),ec dd i (dd i),ao,S,h.j0 hi (wk z.status) (Nat.le_of_lt f) (by rw [Z]; exact dq.drop (h.mem.put O)) (by rw [Z,aq,gA]; exact A) ?_ (other _ _ _) p,by rw [S]; exact f⟩
  rw [dp,j2,aO]
  exact ⟨rfl,af,q,rfl,z⟩
 by_cases ad:T = .la
 ·
  subst ad
  cases d
  obtain ⟨C,E⟩:=an js ok
  obtain ⟨p,f⟩:=h.bk.work (T':=.ul js) hd G .la trivial rfl rfl (by simp)
  have aB:=p.jS
  have Y:MM F Q (b6 D i (.wk k j (.ul js))) s gs.size≤n':=by omega
  have al:(cnt D gs.size).hl=0:=by
   have:=h.bk.jB.ow; have:=h.bk.jB.l1
   have:=hle.ow
   simp only [cA,cW,Cn.busy,Cn.zero] at this
   omega
  have ac:(cnt (b6 D i (.wk k j (.ul js))) gs.size).hl=1:=by
   have:=(k0 (D:=D) G (.wk k j (.ul js))).hl
   rw [hd] at this
   simp only [cA,cW,Cn.busy,Cn.zero] at this
   omega
  have e1:es=said (.acquire (am F)):=ab
  subst e1
  have hm:=h.mem
  have ag:=h.tr
  rw [al] at hm ag
  have K:dd i=0:=by rw [L]; rfl
  have A:=cl.acquire (b:=F.bo) (o:=F.cont js) (y:=⟨i,g.frame.fn,g.frame.place,.mark (.acquire (am F))⟩) ag I rfl rfl K az
  rw [← O.size,← sZ] at A
  refine ⟨_,_,_,_,gz m i (some C),js,s,dS th i (some ⟨R,(F.bo,F.cont js)::H⟩),hg mu i (mu i),ec dd i 0,ao,S,h.j0 hi (wk (.inl (E.pv λ R H g V=>(KW.run V (by omega) trivial).1))) (Nat.le_of_lt f) (by rw [ac]; exact dq.take (hm.put O) I (by omega)) (by rw [ac,aq,show ec dd i 0=dd by rw [← K]; exact gA _ _]; exact A) ?_ (other _ _ _) p,by rw [S]; exact f⟩
  rw [dp,j2,wE,ae]
  exact ⟨af,rfl,rfl,_,n',rfl,Y,.inl ⟨C,rfl,E⟩⟩
 by_cases aD:eu T=true
 ·
  cases T with
  | ur aG =>
   have aS:aG=js:=aI
   subst aS
   cases d
   obtain ⟨a8,H',e1,U,C,E⟩:=an
   cases e1
   subst U
   obtain ⟨p,f⟩:=h.bk.ur hd G
   have aB:=p.jS
   have Y:MM F Q (b6 D i (.wk k (j+1) .ud)) s gs.size≤n':=by omega
   have ac:(cnt D gs.size).hl≠0:=by
    have:=hle.hl
    simp only [cA,cW,Cn.busy,Cn.zero] at this
    omega
   have al:(cnt (b6 D i (.wk k (j+1) .ud)) gs.size).hl=0:=by
    have:=(k0 (D:=D) G (.wk k (j+1) .ud)).hl
    rw [hd] at this
    simp only [cA,cW,Cn.busy,Cn.zero] at this
    have:=h.bk.jB.ow; have:=h.bk.jB.l1
    omega
   have e1:es=said (.releaseMerge (am F)):=ab
   subst e1
   have K:dd i=0:=by rw [L]; rfl
   have ag:=h.tr
   rw [show ix F (cnt D gs.size).hl=none by simp [ix,ac]] at ag
   have A:=cl.release (H':=H') (y:=⟨i,g.frame.fn,g.frame.place,.mark (.releaseMerge (am F))⟩) ag I (List.mem_cons_self) (λ x ah=>List.mem_cons_of_mem _ ah) rfl rfl K az
   rw [← O.size,← sZ] at A
   refine ⟨_,_,_,_,gz m i (some C),ec aG k (j+1),s,dS th i (some ⟨R,H'⟩),hg mu i (mu i),ec dd i 0,ao,S,h.j0 hi (wk (.inl (E.pv λ R H g V=>(KW.run V (by omega) trivial).1))) (Nat.le_of_lt f) (by rw [al]; exact dq.L6 (h.mem.put O) ac I) (by rw [al,aq,show ec dd i 0=dd by rw [← K]; exact gA _ _]; exact A) ?_ (other _ _ _) p,by rw [S]; exact f⟩
   rw [dp,j2,wE,ae]
   exact ⟨af,rfl,rfl,_,n',rfl,Y,.inl ⟨C,rfl,E⟩⟩
  | _=>cases aD
 have ap:eu T=false:=by simpa using aD
 have aX:nF js T':=by
  cases d
  case la=>exact absurd rfl ad
  case ul=>exact aI
  case r0=>exact vC _
  case r1=>exact vC _
  case r3=>exact vC _
  case mr=>exact vC _
  case mE=>exact QO _
  case lQ c _ _=>cases c.ws <;> trivial
  case s1 c _ _=>cases c.sv <;> trivial
  case mF=>exact Fh _
  case ux=>exact Fh _
  all_goals trivial
 obtain ⟨p,f⟩:=h.bk.work hd G d aW aX ap z
 have aB:=p.jS
 have Y:MM F Q (b6 D i (.wk k j T')) s' gs.size≤n':=by omega
 have M:=QB d ad ap z an
 have aH:iJ F.N T':=by
  have:=p.gL i k j T' (fg _ _ _)
  exact this.1
 have Z:(cnt (b6 D i (.wk k j T')) gs.size).hl=(cnt D gs.size).hl:=by
  have:=(k0 (D:=D) G (.wk k j T')).hl
  rw [hd] at this
  have e:(cW T').hl=(cW T).hl:=by
   cases d
   case la=>exact absurd rfl ad
   case ur=>cases ap
   case r0=>rw [jF]; rfl
   case r1=>rw [jF]; rfl
   case r3=>rw [jF]; rfl
   case mr=>rw [jF]; rfl
   case mE=>rw [xH]; rfl
   case lQ c _ _=>cases c.ws <;> rfl
   case s1 c _ _=>cases c.sv <;> rfl
   case s9 c _=>generalize (c.sv && _)=b; cases b <;> rfl
   case a1 b=>cases b <;> rfl
   case mF=>unfold hu; split <;> rfl
   case ux=>unfold hu; split <;> rfl
   all_goals rfl
  simp only [cA] at this
  omega
 have aP:g'.status = .running:=by
  cases hm:ft T' with
  | true =>
   simp only [hm,if_true] at M
   obtain ⟨q,z⟩:=M
   exact z.run λ g V=>(V.run (by omega) aH).1
  | false =>
   simp only [hm,fc,if_false] at M
   obtain ⟨C,E⟩:=M
   exact E.pv λ R H g V=>(KW.run V (by omega) aH).1
 obtain ⟨m',aV⟩:∃ m',ib F (MM F Q (b6 D i (.wk k j T')) s' gs.size) s' i m' (some ⟨R,H⟩) (ft T') (hr T') g' (.wk k j T'):=by
  cases hm:ft T' with
  | true =>
   simp only [hm,if_true] at M
   obtain ⟨q,z⟩:=M
   exact ⟨some (jh q),af,rfl,hm.symm,_,n',rfl,Y,by rw [if_pos hm]; exact ⟨q,rfl,z⟩⟩
  | false =>
   simp only [hm,fc,if_false] at M
   obtain ⟨C,E⟩:=M
   exact ⟨some C,af,rfl,hm.symm,_,n',rfl,Y,by rw [if_neg (by simp [hm])]; exact .inl ⟨C,rfl,E⟩⟩
 have A:cl (some (am F)) (some (aw F)) th (hg mu i (ft T')) (ec dd i (hr T')) [F.bm,F.bw] (ix F (cnt D gs.size).hl) w.heap.size (t++MemOp.ofEvents i g.frame.fn g.frame.place es):=by
  by_cases aE:T = .wr
  ·subst aE
   cases d
   have e1:es=said (.releaseMerge (aw F)):=ab
   subst e1
   have K:dd i=0:=by rw [L]; rfl
   have:=cl.TR (y:=⟨i,g.frame.fn,g.frame.place,.mark (.releaseMerge (aw F))⟩) (i:=i) h.tr rfl rfl K aN
   rw [show ec dd i (hr .wk)=dd by rw [show hr .wk=dd i from K.symm]; exact gA _ _,sZ]
   exact this
  ·have ax:ft T'=ft T→hg mu i (ft T')=mu:=λ e=>by rw [e,← ae]; exact aq
   cases Kz d ab ad ap aE z with
   | «at» aK e1 U =>
    rw [ax U,e1,← L,gA]
    refine cl.xc h.mem h.tr I aK ?_
    rw [ae,L]
    cases d <;> first | exact .inl rfl | exact .inr (cq _) | (cases e1)
   | mY e1 U ar =>
    have:=cl.word (i:=i) (fn:=g.frame.fn) (pos:=g.frame.place) h.tr (m:=.disable) (.inl rfl)
    rw [ax ar,U]
    rwa [show deafBehind (dd i) (said .disable)=1 by rw [L,e1]; rfl] at this
   | en e1 U ar =>
    have:=cl.word (i:=i) (fn:=g.frame.fn) (pos:=g.frame.place) h.tr (m:=.enable) (.inr rfl)
    rw [ax ar,U]
    rwa [show deafBehind (dd i) (said .enable)=0 by rw [L,e1]; rfl] at this
 rw [← O.size] at A
 refine ⟨_,_,_,_,gz m i m',js,s',dS th i (some ⟨R,H⟩),hg mu i (ft T'),ec dd i (hr T'),ao,S,h.j0 hi (wk (.inl aP)) (Nat.le_of_lt f) (by rw [Z,px I]; exact h.mem.put O) (by rw [Z,px I]; exact A) (by rw [dp,wE,j2]; exact aV) (other _ _ _) p,by rw [S]; exact f⟩
end
section
variable {F:Fx} {Q:Nat} {T0:Mp} {D:Nat→Ab} {m:Nat→Ms} {js:Nat→Nat} {s s':Sh} {th:Nat→Option Th} {mu:Nat→Bool} {dd:Nat→Nat} {gs:Array Goroutine} {w w':World} {t:Trace} {sl:Option (Nat × Nat)} {i k j:Nat} {g g':Goroutine} {R:aA} {H:ai} {hl:Nat} {fn:FuncId} {pos:String}
theorem cl.Sq{mk:Mark}(f:dq F.B th (ep F s js hl) w)(h:cl (some (am F)) (some (aw F)) th mu dd [F.bm,F.bw] (ix F hl) w.heap.size t)(hi:th 0=some ⟨R,H⟩)(hm:mk = .read (iQ F)∨mk = .write (iQ F))(p:mu 0=false) :
  cl (some (am F)) (some (aw F)) th mu dd [F.bm,F.bw] (ix F hl) w.heap.size (t++MemOp.ofEvents 0 fn pos (said mk)):=by
 rw [sZ]
 have hd:Deaf (t++#[⟨0,fn,pos,.mark mk⟩]) 0=dd 0:=by
  rw [Deaf_push]
  unfold deafStep
  rcases hm with rfl | rfl <;> exact h.deaf 0
 have:=cl.app (u:=#[⟨0,fn,pos,.mark mk⟩]) (n':=w.heap.size) (R':=R) (H':=H) (d':=dd 0) f rfl (rC F s js hl) (rB F s js hl) h hi (λ op b=>by rw [mm b]) (λ op b a d=>?_) (λ op b=>?_) (λ op b a=>?_) hd (.inl p) (cq _) (λ _ _ x=>.inl x) (λ _ o x=>.inl ⟨o,x⟩)
 ·rwa [px hi,gA] at this
 ·rw [mm b] at d
  refine .inr ⟨F.bw,?_,by simp,.inr ⟨?_,rfl⟩⟩ <;> rcases hm with rfl | rfl <;> (simp only [MemAct.touch?,ey] at d; subst d; rfl)
 ·rw [mm b]
  rcases hm with rfl | rfl <;> exact uX f
 ·rw [mm b]
  rcases hm with rfl | rfl <;> (intro x; cases x)
theorem ib.mono{o p:Nat}{f:Ms}{x:Option Th}{b:Bool}{d:Nat}{A:Ab}(h:ib F o s i f x b d g A)(hle:p≤o):ib F p s i f x b d g A:=by
 cases A with
 | no=>exact h
 | wk k j T =>
  obtain ⟨h1,h2,h3,y,n,h4,z,h⟩:=h
  exact ⟨h1,h2,h3,y,n,h4,by omega,h⟩
 | mn T =>
  obtain ⟨h1,h2,h3,y,n,h4,z,h⟩:=h
  exact ⟨h1,h2,h3,y,n,h4,by omega,h⟩
inductive q3 (F:Fx):Mp→Mp→Array Event→Prop
 | at {T T' es}:h9 F es→hM T'=hM T→q3 F T T' es
 | mY {T T'}:hM T=0→hM T'=1→q3 F T T' (said .disable)
 | en {T T'}:hM T=1→hM T'=0→q3 F T T' (said .enable)
 | sd {T T' mk}:hM T'=hM T→mk = .read (iQ F)∨mk = .write (iQ F)→q3 F T T' (said mk)
theorem KA{T T':Mp}(b:ef T s T' s'){es:Array Event}(he:ov F T es)(h1:T ≠ .wq):q3 F T T' es:=by
 cases b
 case ka=>rw [show es=said .disable from he]; exact .mY rfl rfl
 case wa=>rw [show es=said .disable from he]; exact .mY rfl rfl
 case ke=>rw [show es=said .enable from he]; exact .en rfl rfl
 case we=>rw [show es=said .enable from he]; exact .en rfl rfl
 case kd=>rw [show es=said (.read (iQ F)) from he]; exact .sd rfl (.inl rfl)
 case wW=>rw [show es=said (.write (iQ F)) from he]; exact .sd rfl (.inr rfl)
 case wq=>exact absurd rfl h1
 all_goals exact .at he rfl
theorem B2(h:MI F Q T0 D m js s th mu dd gs w t)(hi:gs[0]? = some g):dd 0=hM T0∧mu 0=false:=by
 have:=h.lI 0 g hi
 rw [h.bk.d0] at this
 exact ⟨this.2.1,this.2.2.1⟩
theorem KM.L7{n r:Nat}(h:KM F (n+1) (.go r) R H g):∀ w s,Fits F.B R H w→dA F s w→hx F.N (.go r) s→∃ g' child,stepG F.P true g w = .spawn g' child w #[]∧Own F.P F.B false (KW F n (F.N - (r+1)) 0 .ld) R [] child∧Own F.P F.B true (KM F n (fD r)) R H g':=h.2.2
theorem KM.TO{n:Nat}(h:KM F (n+1) .wq R H g):∀ w s,Fits F.B R H w→dA F s w→hx F.N .wq s→∃ g' w',stepG F.P true g w = .go g' w' (said (.acquire (aw F)))∧bZ F s w w'∧∀ js,(∀ k,k < F.N→js k=F.J)→F.mj R ((F.bo,F.cont js)::H) g':=h.2.2
theorem KM.other{n:Nat}{T:Mp}(h:KM F (n+1) T R H g)(h1:∀ r,T ≠ .go r)(h2:T ≠ .wq):∀ w s,Fits F.B R H w→dA F s w→hx F.N T s→(T = .w3∧s.ws=0∧stepG F.P true g w = .go { g with status:=.blocked } w #[]) ∨
  ∃ g' w' es T' s',ef T s T' s'∧ov F T es∧stepG F.P true g w = .go g' w' es∧bZ F s' w w'∧Own F.P F.B true (KM F n T') R H g':=by
 cases T <;> first | exact absurd rfl (h1 _) | exact absurd rfl h2 | exact h.2.2
theorem MI.main(h:MI F Q T0 D m js s th mu dd gs w t)(hi:gs[0]? = some g){y:Th}(f:th 0=some y){n:Nat}(az:MM F Q D s gs.size≤n)(W:KM F n T0 y.R y.H g)(h2:T0 ≠ .wq) :
  (T0 = .w3∧s.ws=0∧stepG F.P true g w = .go { g with status:=.blocked } w #[]) ∨
  ∃ e5 L w' ops U m' eZ s' fe mu' dd',(∀ sl,runT F.P (crowd gs w sl) 0=(.next (crowd L w' sl),ops))∧MI F Q e5 U m' eZ s' fe mu' dd' L w' (t++ops)∧MM F Q U s' L.size < MM F Q D s gs.size:=by
 have ad:=oF hi
 obtain ⟨C,I⟩:=B2 h hi
 have ay:=h.bk.jS
 obtain ⟨n',rfl⟩:∃ n',n=n'+1:=⟨n - 1,by omega⟩
 obtain ⟨R,H⟩:=y
 have ab:=h.mem.fits 0 _ f
 have ag:=wS h.mem
 have ae:=h.bk.aig.hx
 by_cases h1:∃ r,T0 = .go r
 ·
  right
  obtain ⟨r,rfl⟩:=h1
  obtain ⟨g',child,S,⟨V,ao⟩,⟨o,ar⟩⟩:=W.L7 w s ab ag ae
  obtain ⟨A,z⟩:=h.bk.spawn
  have av:=A.jS
  obtain ⟨ax,ah,ak⟩:=h.out gs.size (cq _)
  have d:((gs.setIfInBounds 0 g').push child).size=gs.size+1:=by simp
  have ac:(cnt (b6 (b6 D gs.size (.wk (F.N - (r+1)) 0 .ld)) 0 (.mn (fD r))) (gs.size+1)).hl=(cnt D gs.size).hl:=by
   have:=(BW (D:=D) h.bk.pos (.mn (fD r)) (.wk (F.N - (r+1)) 0 .ld) rfl (by rw [h.bk.d0]; rfl)).hl
   simpa [cA,cW,Cn.busy,Cn.zero] using this
  have O:∀ sl,runT F.P (crowd gs w sl) 0=(.next (crowd ((gs.setIfInBounds 0 g').push child) w sl),#[⟨0,g.frame.fn,g.frame.place,.go gs.size⟩,⟨gs.size,child.frame.fn,g.frame.place,.start⟩]):=λ sl=>by
   have:=runT_crowd_spawn (P:=F.P) (sl:=sl) hi (show stepG F.P (0 == 0) g w=_ from S)
   rw [this]
   simp [MemOp.ofEvents]
  have Z:dd 0=0:=by rw [C]; rfl
  have K:=h.tr.spawn (c:=gs.size) (x:=⟨0,g.frame.fn,g.frame.place,.go gs.size⟩) (y:=⟨gs.size,child.frame.fn,g.frame.place,.start⟩) f (aK.refl R) ax ⟨rfl,rfl⟩ ⟨rfl,rfl⟩ Z ak (by omega) ah
  have au:=h.mem.add (c:=gs.size) f (aK.refl R)
  refine ⟨fD r,_,w,_,_,gz (gz m gs.size (some V)) 0 (some o),js,s,_,mu,ec dd 0 (hM (fD r)),O,⟨by rw [d,ac]; exact au,?_,λ a x b=>?_,λ a b=>?_,by rw [d]; exact A⟩,by rw [d]; exact z⟩
  ·rw [d,ac]
   have:ec dd 0 (hM (fD r))=dd:=by
    rw [show hM (fD r)=dd 0 by rw [Z]; cases r <;> rfl]; exact gA _ _
   rw [this]; exact K
  ·rw [d]
   by_cases E:a=0
   ·subst E
    rw [Array.getElem?_push,if_neg (by simp; omega),j4 ad] at b
    cases b
    rw [fg,tp,j2,cS (by omega),f,I]
    exact ⟨rfl,rfl,rfl,_,n',rfl,by omega,.inl ⟨o,rfl,ar⟩⟩
   ·by_cases G:a=gs.size
    ·subst G
     rw [Array.getElem?_push,if_pos (by simp)] at b
     cases b
     rw [dC (by omega),fg,qX (by omega),tp,j1 (by omega),dp,ah,ak]
     exact ⟨by omega,rfl,rfl,_,n',rfl,by omega,by rw [if_neg (by simp [ft])]; exact .inl ⟨V,rfl,ao⟩⟩
    ·rw [Array.getElem?_push,if_neg (by simp; omega),gB (by omega)] at b
     rw [dC E,dC G,qX E,qX G,j1 E,cS G]
     exact (h.lI a x b).mono (Nat.le_of_lt z)
  ·rw [d] at b
   rw [cS (by omega),j1 (by omega)]
   exact h.out a (by omega)
 have al:∀ r,T0 ≠ .go r:=λ r e=>h1 ⟨r,e⟩
 rcases W.other al h2 w s ab ag ae with hb | ⟨g',w',es,T',s',J,ap,S,af,o,an⟩
 ·exact .inl hb
 right
 have aq:T' ≠ .fin:=λ e=>by subst e; cases J; exact h2 rfl
 have O:∀ sl,runT F.P (crowd gs w sl) 0=(.next (crowd ((gs.map (Conc.woken F.P g g' w')).setIfInBounds 0 g') w' sl),MemOp.ofEvents 0 g.frame.fn g.frame.place es):=λ sl=>runT_crowd_go hi (show stepG F.P (0 == 0) g w=_ from S)
 have d:((gs.map (Conc.woken F.P g g' w')).setIfInBounds 0 g').size=gs.size:=by simp
 obtain ⟨A,z⟩:=h.bk.Qd J aq
 have av:=A.jS
 have Y:(cnt (b6 D 0 (.mn T')) gs.size).hl=(cnt D gs.size).hl:=by
  have:=(k0 (D:=D) ad (.mn T')).hl
  rw [h.bk.d0] at this
  simpa [cA,Cn.zero] using this
 have K:cl (some (am F)) (some (aw F)) th mu (ec dd 0 (hM T')) [F.bm,F.bw] (ix F (cnt D gs.size).hl) w.heap.size (t++MemOp.ofEvents 0 g.frame.fn g.frame.place es):=by
  cases KA J ap h2 with
  | «at» b e1 =>
   rw [e1,← C,gA]
   exact cl.xc h.mem h.tr f b (.inl I)
  | mY e1 p =>
   have:=cl.word (i:=0) (fn:=g.frame.fn) (pos:=g.frame.place) h.tr (m:=.disable) (.inl rfl)
   rw [p]
   rwa [show deafBehind (dd 0) (said .disable)=1 by rw [C,e1]; rfl] at this
  | en e1 p =>
   have:=cl.word (i:=0) (fn:=g.frame.fn) (pos:=g.frame.place) h.tr (m:=.enable) (.inr rfl)
   rw [p]
   rwa [show deafBehind (dd 0) (said .enable)=0 by rw [C,e1]; rfl] at this
  | sd e1 p =>
   rw [e1,← C,gA]
   exact cl.Sq h.mem h.tr f p I
 rw [← af.size] at K
 refine ⟨T',_,_,_,_,gz m 0 (some o),js,s',dS th 0 (some ⟨R,H⟩),hg mu 0 (mu 0),ec dd 0 (hM T'),O,h.j0 hi (.inr J.Ah) (Nat.le_of_lt z) (by rw [Y,px f]; exact h.mem.put af) ?_ ?_ (λ j M=>⟨cS M,Ac M,j1 M⟩) A,by rw [d]; exact z⟩
 ·rw [Y,px f,show hg mu 0 (mu 0)=mu by funext j; unfold hg; split <;> simp [*]]; exact K
 ·rw [dp,wE,j2,I]
  exact ⟨rfl,rfl,rfl,_,n',rfl,by omega,.inl ⟨o,rfl,an⟩⟩
theorem MI.Ta(h:MI F Q .wq D m js s th mu dd gs w t)(hi:gs[0]? = some g){y:Th}(Y:th 0=some y){n:Nat}(ao:MM F Q D s gs.size≤n)(ac:KM F n .wq y.R y.H g) :
  ∃ E g' w' ops q dd' R' H',(∀ sl,runT F.P (crowd gs w sl) 0=(.next (crowd E w' sl),ops))∧E[0]? = some g'∧F.mj R' H' g'∧lK F.P F.B R' H' E w' (t++ops) q dd':=by
 have al:=oF hi
 obtain ⟨ae,an⟩:=B2 h hi
 have ax:=h.bk.jS
 obtain ⟨n',rfl⟩:∃ n',n=n'+1:=⟨n - 1,by omega⟩
 obtain ⟨R,H⟩:=y
 obtain ⟨g',w',aq,K,am⟩:=ac.TO w s (h.mem.fits 0 _ Y) (wS h.mem) h.bk.aig.hx
 have au:=h.bk.aig.wg
 obtain ⟨_,_,_,aB,az,ay⟩:=au
 have heq:=h.bk.aig.eq
 have aD:(cnt D gs.size).ff=0:=by omega
 have Z:∀ a k j T,D a ≠ .wk k j T:=λ a k j T e=>by
  have d:a < gs.size:=by
   apply Classical.byContradiction
   intro ao
   rw [h.bk.out a (by omega)] at e; cases e
  have hle:=pJ (D:=D) d
  rw [e] at hle
  have A:T ≠ .quit:=λ ab=>by
   have:=(h.bk.gL a k j T e).2.1
   subst ab; exact this
  have e1:=hle.lv
  have L:=hle.dw
  have M:=hle.d4
  simp only [cA] at e1 L M
  cases T <;> simp only [cW,Cn.busy,Cn.zero] at e1 L M <;> first | omega | skip
  case a1 b=>cases b <;> simp only [fc,if_false,if_true] at e1 <;> omega
  case quit=>exact A rfl
 have C:∀ a,a≠0→D a = .no:=λ a d=>by
  cases hd:D a with
  | no=>rfl
  | wk k j T=>exact absurd hd (Z a k j T)
  | mn T=>exact absurd (h.bk.main a T hd) d
 have ag:(cnt D gs.size).hl=0:=by
  have:∀ n,cu n (λ a=>(cA (D a)).hl)=0:=λ n=>by
   have e:cu n (λ a=>(cA (D a)).hl)=cu n (λ _=>0):=tn λ a _=>by
    by_cases d:a=0
    ·subst d; rw [h.bk.d0]; rfl
    ·rw [C a d]; rfl
   rw [e]
   have p:∀ n,cu n (λ _=>0)=0:=by intro n; induction n with | zero=>rfl | succ n av=>simp only [cu,av]
   exact p n
  exact this _
 have ar:th=only ⟨R,H⟩:=by
  funext a
  unfold only
  split
  ·rename_i e; subst e; exact Y
  ·rename_i e
   rcases Nat.lt_or_ge a gs.size with hl | af
   ·have:=h.lI a _ (h0 hl)
    rw [C a e] at this
    exact this.1
   ·exact (h.out a af).1
 have ah:∀ k,k < F.N→js k=F.J:=λ k ak=>by
  rcases h.bk.done k (by simpa [rem] using ak) with z | ⟨a,j,T,z⟩
  ·exact z
  ·exact absurd z (Z a k j T)
 have S:dd 0=0:=by rw [ae]; rfl
 have hm:=h.mem.put K
 have V:=h.tr
 rw [ag,ar] at hm V
 have ad:F.bo < w.heap.size:=by rw [← K.size]; exact gg (hm.g6 F.bo (F.cont js) (by simp [ep]))
 have W:=cl.TA (b:=F.bo) (o:=F.cont js) (y:=⟨0,g.frame.fn,g.frame.place,.mark (.acquire (aw F))⟩) V ad rfl rfl S an (uX h.mem)
 rw [← K.size,← sZ] at W
 have I:=dq.take (hl':=1) hm (i:=0) rfl (by omega)
 rw [vI] at I
 have ap:∀ sl,runT F.P (crowd gs w sl) 0=(.next (crowd ((gs.map (Conc.woken F.P g g' w')).setIfInBounds 0 g') w' sl),MemOp.ofEvents 0 g.frame.fn g.frame.place (said (.acquire (aw F)))):=λ sl=>runT_crowd_go hi (show stepG F.P (0 == 0) g w=_ from aq)
 have aC:((gs.map (Conc.woken F.P g g' w')).setIfInBounds 0 g').size=gs.size:=by simp
 refine ⟨_,g',w',_,λ a=>match m a with | some T=>Classical.epsilon λ q=>m a=some (jh q)∧∀ x,gs[a]? = some x→QuitsD F.P q (dd a) x | none=>0,dd,R,(F.bo,F.cont js)::H,ap,j4 (by simpa using al),am js ah,⟨⟨I.fits,I.apart,λ c o G=>(by cases G),λ c o G=>(by cases G)⟩,W,S,λ a d=>(h.out a (by simpa using d)).2.2,λ a x d f=>?_⟩⟩
 rw [gB (by omega),Array.getElem?_map] at f
 obtain ⟨z,p,rfl⟩:=Option.map_eq_some_iff.1 f
 have U:=h.lI a z p
 rw [C a (by omega)] at U
 obtain ⟨_,_,q,A,O⟩:=U
 rw [woken_quitsD O]
 have hex:∃ q,m a=some (jh q)∧∀ x,gs[a]? = some x→QuitsD F.P q (dd a) x:=⟨q,A,λ x f=>by rw [p] at f; cases f; exact O⟩
 have:=(Classical.epsilon_spec hex).2 z p
 simp only [A] at this ⊢
 exact this
def vW(m:Nat→Ms)(gs:Array Goroutine):Nat:=cu gs.size λ a=>if (m a).isNone∧(gs[a]?.map (·.status))=some .running then 1 else 0
def q4(a b:Nat × List Ms × Nat):Prop:=a.1 < b.1∨(a.1=b.1∧(One hI a.2.1 b.2.1∨(a.2.1=b.2.1∧a.2.2 < b.2.2)))
theorem q4.wf:WellFounded q4:=by
 have key:∀ p l r,Acc q4 (p,l,r):=by
  intro p
  induction p using Nat.strongRecOn with
  | ind p f =>
   intro l
   induction l using One.wf.induction with
   | _ l d =>
    intro r
    induction r using Nat.strongRecOn with
    | ind r o =>
     refine ⟨_,λ y b=>?_⟩
     obtain ⟨q,l',r'⟩:=y
     rcases b with h | ⟨h1,h2 | ⟨h2,h3⟩⟩
     ·exact f q h l' r'
     ·simp only at h1; subst h1; exact d l' h2 r'
     ·simp only at h1 h2; subst h1 h2; exact o r' h3
 exact ⟨λ ⟨p,l,r⟩=>key p l r⟩
def qH(F:Fx)(Q:Nat)(D:Nat→Ab)(m:Nat→Ms)(s:Sh)(gs:Array Goroutine):Nat × List Ms × Nat:=(MM F Q D s gs.size,(List.range gs.size).map m,vW m gs)
theorem zj{m:Nat→Ms}{n i:Nat}{a b:Ms}(hi:i < n)(hb:m i=b)(hl:hI a b):One hI ((List.range n).map (gz m i a)) ((List.range n).map m):=by
 have e:(List.range n).map (gz m i a)=((List.range n).map m).set i a:=by
  apply List.ext_getElem?
  intro j
  rw [List.getElem?_set]
  by_cases d:i=j
  ·subst d; simp [hi,tp]
  ·simp only [d,if_false,List.getElem?_map]
   cases o:(List.range n)[j]? with
   | none=>rfl
   | some k =>
    have f:k=j:=by
     obtain ⟨_,h2⟩:=eL.1 o
     simpa using h2.symm
    subst f
    simp [qX (Ne.symm d)]
 rw [e]
 exact One.set (by simp [hi,hb]) hl
end
theorem zZ{f:Nat→Nat}:∀ {n:Nat},0 < cu n f→∃ i,i < n∧0 < f i
 | n+1,h=>by
  simp only [cu] at h
  rcases Nat.eq_zero_or_pos (f n) with d | b
  ·obtain ⟨i,hi,h2⟩:=zZ (n:=n) (f:=f) (by omega)
   exact ⟨i,by omega,h2⟩
  ·exact ⟨n,by omega,b⟩
section
variable {F:Fx} {Post:Value→World→Prop} {Q:Nat} {T0:Mp} {D:Nat→Ab} {m:Nat→Ms} {js:Nat→Nat} {s s':Sh} {th:Nat→Option Th} {mu:Nat→Bool} {dd:Nat→Nat} {gs:Array Goroutine} {w w':World} {t:Trace} {sl:Option (Nat × Nat)} {i k j:Nat} {g g':Goroutine}
theorem MI.look(h:MI F Q T0 D m js s th mu dd gs w t)(hi:gs[i]? = some g):(g.status = .running)∨(g.status = .finished∧D i = .no)∨(g.status = .blocked∧m i=none∧((∃ k j c,D i = .wk k j (.s1 c)∧s.ms=0)∨(D i = .mn .w3∧s.ws=0))) :=
 (h.lI i g hi).look h.bk.jS (h.gL i)
theorem MI.awake(h:MI F Q T0 D m js s th mu dd gs w t):∀ x∈gs,awake x:=by
 intro x b
 obtain ⟨i,hi,rfl⟩:=Array.mem_iff_getElem.1 b
 rcases h.look (h0 hi) with e | ⟨e,_⟩ | ⟨e,_⟩
 ·exact awake_of (.inl e)
 ·exact awake_of (.inr (.inr e))
 ·exact awake_of (.inr (.inl e))
theorem MI.F3(h:MI F Q T0 D m js s th mu dd gs w t):∃ (i:Nat) (g:Goroutine),gs[i]? = some g∧g.status = .running:=by
 apply Classical.byContradiction
 intro p
 have y:∀ i,i < gs.size→∀ k j T,D i = .wk k j T→∃ c,T = .s1 c∧s.ms=0:=λ i hi k j T hd=>by
  rcases h.look (h0 hi) with e | ⟨_,e⟩ | ⟨_,_,⟨C,j',c,e,o⟩ | ⟨e,_⟩⟩
  ·exact absurd ⟨i,_,h0 hi,e⟩ p
  ·rw [hd] at e; cases e
  ·rw [hd] at e; cases e; exact ⟨c,rfl,o⟩
  ·rw [hd] at e; cases e
 have d:∀ f:Cn→Nat,f .zero=0→(∀ c,f (cW (.s1 c))=0)→cu gs.size (λ i=>f (cA (D i)))=0:=λ f I h1=>by
  apply Classical.byContradiction
  intro W
  obtain ⟨i,hi,b⟩:=zZ (n:=gs.size) (f:=λ i=>f (cA (D i))) (by omega)
  cases hd:D i with
  | no=>rw [hd] at b; simp only [cA] at b; omega
  | mn T=>rw [hd] at b; simp only [cA] at b; omega
  | wk k j T =>
   obtain ⟨c,rfl,_⟩:=y i hi k j T hd
   rw [hd] at b; simp only [cA,h1] at b; omega
 have A:T0 = .w3∧s.ws=0:=by
  have hi:=h0 h.bk.pos
  rcases h.look hi with e | ⟨_,e⟩ | ⟨_,_,⟨C,j',c,e,o⟩ | ⟨e,o⟩⟩
  ·exact absurd ⟨0,_,hi,e⟩ p
  ·rw [h.bk.d0] at e; cases e
  ·rw [h.bk.d0] at e; cases e
  ·rw [h.bk.d0] at e; cases e; exact ⟨rfl,o⟩
 obtain ⟨rfl,ad⟩:=A
 have O:(cnt D gs.size).dw=0:=d (·.dw) rfl λ _=>rfl
 have M:(cnt D gs.size).d4=0:=d (·.d4) rfl λ _=>rfl
 have V:(cnt D gs.size).ow=0:=d (·.ow) rfl λ _=>rfl
 have P:(cnt D gs.size).hl=0:=d (·.hl) rfl λ _=>rfl
 have Z:(cnt D gs.size).pu=0:=d (·.pu) rfl λ _=>rfl
 have Y:(cnt D gs.size).pc=0:=d (·.pc) rfl λ _=>rfl
 have L:(cnt D gs.size).al=0:=d (·.al) rfl λ _=>rfl
 have J:(cnt D gs.size).a1=0:=d (·.a1) rfl λ _=>rfl
 have K:(cnt D gs.size).ak=0:=d (·.ak) rfl λ _=>rfl
 have ab:(cnt D gs.size).ux=0:=d (·.ux) rfl λ _=>rfl
 have ac:(cnt D gs.size).wk=0:=d (·.wk) rfl λ _=>rfl
 have S:0 < (cnt D gs.size).lv:=by
  rcases h.bk.aig.wg with ⟨_,_,_,h4,⟨_,h6⟩ | ⟨h5,_⟩⟩ | ⟨_,_,_,_,h5⟩
  ·omega
  ·omega
  ·omega
 have heq:=h.bk.aig.eq
 unfold Cn.ff at heq
 have o:0 < (cnt D gs.size).z:=by omega
 obtain ⟨i,hi,b⟩:=zZ (n:=gs.size) (f:=λ i=>(cA (D i)).z) o
 have U:s.ms=0:=by
  cases hd:D i with
  | no=>rw [hd] at b; simp [cA,Cn.zero] at b
  | mn T=>rw [hd] at b; simp [cA,Cn.zero] at b
  | wk k j T=>exact (y i hi k j T hd).choose_spec.2
 have a1:=h.bk.jB.ow
 have E:=h.bk.jB.md
 have G:=h.bk.jB.i4
 omega
theorem Qh{gs:Array Goroutine}{g:Goroutine}{w:World}:gs.map (Conc.woken F.P g { g with status:=.blocked } w)=gs:=by
 have:Conc.woken F.P g { g with status:=.blocked } w=id:=by funext o; simp [Conc.woken]
 rw [this,Array.map_id]
theorem MI.ghost(h:MI F Q T0 D m js s th mu dd gs w t)(hi:gs[i]? = some g){m':Ms}{x:Th}{R:aA}{H:ai}(o:th i=some ⟨R,H⟩)(hu:dN F.B R H w x.R x.H w)(d:ib F (MM F Q D s gs.size) s i m' (some x) (mu i) (dd i) g (D i)) :
  MI F Q T0 D (gz m i m') js s (dS th i (some x)) mu dd gs w t:=by
 obtain ⟨hm,f⟩:=Dd h.mem (rC F s js _) (rB F s js _) h.tr o hu
 have p:=oF hi
 refine ⟨hm,f,λ a y b=>?_,λ a b=>?_,h.bk⟩
 ·by_cases e:a=i
  ·subst e
   rw [hi] at b; cases b
   rw [tp,dp]; exact d
  ·rw [qX e,cS e]; exact h.lI a y b
 ·rw [cS (by omega)]; exact h.out a b
theorem MI.Ri(aJ:F.mj=e4 F.P F.B Post):∀ (af:Nat × List Ms × Nat) (gs:Array Goroutine) (w:World) (sl:Option (Nat × Nat)) (t:Trace) (T0:Mp) (D:Nat→Ab) (m:Nat→Ms) (js:Nat→Nat) (s:Sh) (th:Nat→Option Th) (mu:Nat→Bool) (dd:Nat→Nat),
  MI F Q T0 D m js s th mu dd gs w t→qH F Q D m s gs=af→∀ i g,gs[i]? = some g→g.status = .running→∀ L,stepT F.P L=runT F.P (crowd gs w sl) i→fY F.P Post L t:=by
 intro af
 induction af using q4.wf.induction with
 | _ af ap =>
  intro gs w sl t T0 D m js s th mu dd h aS i g hi G L W
  subst aS
  have ad:=oF hi
  have next:∀ (p:Array Goroutine) (w':World) (aq:Option (Nat × Nat)) (t':Trace) (e5:Mp) (I:Nat→Ab) (m':Nat→Ms) (eZ:Nat→Nat) (s':Sh) (fe:Nat→Option Th) (mu':Nat→Bool) (dd':Nat→Nat),MI F Q e5 I m' eZ s' fe mu' dd' p w' t' →
    q4 (qH F Q I m' s' p) (qH F Q D m s gs)→fY F.P Post (crowd p w' aq) t':=by
   intro p w' aq t' e5 I m' eZ s' fe mu' dd' ah hl
   obtain ⟨a,aB,d,aT,V,aP,z⟩:=crowd_pick (P:=F.P) (gs:=p) (w:=w') (sl:=aq) ah.awake ah.F3
   exact ap _ hl p (w'.at d) aT t' e5 I m' eZ s' fe mu' dd' (ah.at d) rfl a aB V aP _ z
  have C:=h.lI i g hi
  have go:∀ (m':Ms) (x:Option Th) (d':Nat) (g':Goroutine) (w':World) (es:Array Event),stepG F.P (i == 0) g w = .go g' w' es→dq F.B (dS th i x) (ep F s js (cnt D gs.size).hl) w' →
    cl (some (am F)) (some (aw F)) (dS th i x) mu (ec dd i d') [F.bm,F.bw] (ix F (cnt D gs.size).hl) w'.heap.size (t++MemOp.ofEvents i g.frame.fn g.frame.place es) →
    ib F (MM F Q D s gs.size) s i m' x (mu i) d' g' (D i)→(hI m' (m i)∨(m'=m i∧m i=none∧g'={ g with status:=.blocked }))→fY F.P Post L t:=by
   intro m' x d' g' w' es z hm ae aQ aK
   have U:=runT_crowd_go (P:=F.P) (sl:=sl) hi z
   have J:=h.still hi (m':=m') (fe:=dS th i x) (dd':=ec dd i d') (g':=g') (w':=w') hm ae (by rw [dp,j2]; exact aQ) (λ a V=>⟨cS V,j1 V⟩)
   refine fY.step (W.trans U) (next _ _ _ _ _ _ _ _ _ _ _ _ J ?_)
   have au:((gs.map (Conc.woken F.P g g' w')).setIfInBounds i g').size=gs.size:=by simp
   unfold qH
   rw [au]
   rcases aK with hl | ⟨e1,ax,ay⟩
   ·exact .inr ⟨rfl,.inl (zj ad rfl hl)⟩
   ·subst ay
    have em:gz m i m'=m:=by funext a; unfold gz; split <;> simp [*]
    refine .inr ⟨rfl,.inr ⟨by rw [em],?_⟩⟩
    show vW _ _ < vW _ _
    rw [em]
    unfold vW
    rw [au,Qh]
    have:=pr (f:=λ a=>if (m a).isNone∧(gs[a]?.map (·.status))=some .running then 1 else 0) (g:=λ a=>if (m a).isNone∧(((gs.setIfInBounds i { g with status:=.blocked })[a]?).map (·.status))=some .running then 1 else 0) ad (λ a V=>by
     simp only [gB (Ne.symm V)])
    simp only [ax,hi,Option.isNone_none,Option.map_some,G,true_and,if_true,j4 ad] at this
    simp at this
    simp
    omega
  have O:∀ x,th i=x→dS th i x=th:=λ x aR=>px aR
  have nx:(∃ p w' ops I m' eZ s' fe mu' dd',(∀ sl,runT F.P (crowd gs w sl) i=(.next (crowd p w' sl),ops))∧p.size=gs.size∧MI F Q T0 I m' eZ s' fe mu' dd' p w' (t++ops)∧MM F Q I s' p.size < MM F Q D s gs.size)→fY F.P Post L t:=by
   rintro ⟨p,w',ops,I,m',eZ,s',fe,mu',dd',U,_,J,hl⟩
   exact fY.step (W.trans (U sl)) (next _ _ _ _ _ _ _ _ _ _ _ _ J (.inl hl))
  cases hd:D i with
  | no =>
   rw [hd] at C
   obtain ⟨A,Z,q,an,K⟩:=C
   have ac:(i == 0)=false:=by simp; omega
   cases q with
   | zero=>rw [K.1] at G; cases G
   | succ q =>
    rcases K with e | ⟨_,g',es,aG,z,K⟩
    ·rw [e.1] at G; cases G
    ·refine go (some (jh q)) none (deafBehind (dd i) es) g' w es (by rw [ac]; exact z w) ?_ ?_ ?_ (.inl (by rw [an]; exact E8 q))
     ·rw [O _ A]; exact h.mem
     ·rw [O _ A]; exact h.tr.leaves aG
     ·rw [hd]; exact ⟨rfl,Z,q,rfl,K⟩
  | wk k j T =>
   rw [hd] at C
   obtain ⟨Z,M,E,y,n,o,A,C⟩:=C
   have ac:(i == 0)=false:=by simp; omega
   have stop:KW F n k j T y.R y.H g→fY F.P Post L t:=by
    intro b
    rcases h.work hi hd o A b with ⟨⟨c,rfl⟩,ao,z⟩ | hN
    ·refine go none (some y) (dd i) _ w #[] (by rw [ac]; exact z) ?_ ?_ ?_ ?_
     ·rw [O _ o]; exact h.mem
     ·rw [O _ o,gA,ofEvents_none,Array.append_empty]; exact h.tr
     ·rw [hd]
      have ho:=h.gL i k j _ hd
      have aN:=h.bk.jS
      exact ⟨Z,M,E,y,n,rfl,A,by rw [if_neg (by simp [ft])]; exact .inr ⟨rfl,⟨c,rfl⟩,g,b,G,(KW.run b (by omega) ho).2,.inr ⟨rfl,ao⟩⟩⟩
     ·cases aI:m i with
      | none=>exact .inr ⟨rfl,rfl,rfl⟩
      | some T'=>exact .inl .none
    ·exact nx hN
   by_cases Y:ft T=true
   ·rw [if_pos Y] at C
    obtain ⟨q,an,K⟩:=C
    cases q with
    | zero=>exact stop K
    | succ q =>
     rcases K with b | ⟨_,g',z,K⟩
     ·exact stop b
     ·refine go (some (jh q)) (some y) (dd i) g' w #[] (by rw [ac]; exact z w) ?_ ?_ ?_ (.inl (by rw [an]; exact E8 q))
      ·rw [O _ o]; exact h.mem
      ·rw [O _ o,gA,ofEvents_none,Array.append_empty]; exact h.tr
      ·rw [hd]; exact ⟨Z,M,E,y,n,rfl,A,by rw [if_pos Y]; exact ⟨q,rfl,K⟩⟩
   ·rw [if_neg Y] at C
    have ar:mu i=false:=by rw [E]; simpa using Y
    rcases C with ⟨ag,ab,S⟩ | ⟨hm,⟨c,rfl⟩,az,b,aO,aM,ak⟩
    ·obtain ⟨ι,f⟩:=ag
     obtain ⟨R,H⟩:=y
     rcases S with b | ⟨_,z⟩ | ⟨R',H',a,al,S⟩
     ·exact stop b
     ·obtain ⟨g',w',es,R',H',a,h1,h2,h3,h4⟩:=z w (h.mem.fits i _ o)
      obtain ⟨hm,ae⟩:=s5 h.mem (rC F s js _) (rB F s js _) h.tr o (.inl ar) h2 (.inl ar) h3 g.frame.fn g.frame.place
      refine go (some (f a)) (some ⟨R',H'⟩) (dd i) g' w' es (by rw [ac]; exact h1) hm (by rw [gA]; exact ae) ?_ (.inl (by rw [ab]; exact .some (.mk f a)))
      rw [hd]; exact ⟨Z,M,E,_,n,rfl,A,by rw [if_neg Y]; exact .inl ⟨f a,rfl,h4⟩⟩
     ·have J:=h.ghost (x:=⟨R',H'⟩) (m':=some (f a)) hi o (al w (h.mem.fits i _ o)) (by rw [hd]; exact ⟨Z,M,E,_,n,rfl,A,by rw [if_neg Y]; exact .inl ⟨f a,rfl,S⟩⟩)
      exact ap (qH F Q D (gz m i (some (f a))) s gs) (.inr ⟨rfl,.inl (zj ad ab (.some (.mk f a)))⟩) gs w sl t _ _ _ _ _ _ _ _ J rfl i g hi G L W
    ·rcases ak with rfl | ⟨rfl,_⟩
     ·exact stop b
     ·cases G
  | mn T =>
   have aC:i=0:=h.bk.main i T hd
   subst aC
   have aE:T=T0:=by have:=h.bk.d0; rw [hd] at this; cases this; rfl
   subst aE
   rw [hd] at C
   obtain ⟨_,M,E,y,n,o,A,C⟩:=C
   have stop:KM F n T y.R y.H g→fY F.P Post L t:=by
    intro b
    by_cases av:T = .wq
    ·subst av
     obtain ⟨p,g',w',ops,q,dd',R',H',U,aH,hJ,aD⟩:=h.Ta hi o A b
     rw [aJ] at hJ
     exact fY.step (W.trans (U sl)) (hJ p w' sl _ q dd' aH aD)
    ·rcases h.main hi o A b av with ⟨rfl,ao,z⟩ | ⟨e5,p,w',ops,I,m',eZ,s',fe,mu',dd',U,J,hl⟩
     ·refine go none (some y) (dd 0) _ w #[] z ?_ ?_ ?_ ?_
      ·rw [O _ o]; exact h.mem
      ·rw [O _ o,gA,ofEvents_none,Array.append_empty]; exact h.tr
      ·rw [hd]
       have aN:=h.bk.jS
       exact ⟨rfl,M,E,y,n,rfl,A,.inr ⟨rfl,rfl,g,b,G,(KM.run b (by omega)).2,.inr ⟨rfl,ao⟩⟩⟩
      ·cases aI:m 0 with
       | none=>exact .inr ⟨rfl,rfl,rfl⟩
       | some T'=>exact .inl .none
     ·exact fY.step (W.trans (U sl)) (next _ _ _ _ _ _ _ _ _ _ _ _ J (.inl hl))
   rcases C with ⟨ag,ab,S⟩ | ⟨hm,rfl,az,b,aO,aM,ak⟩
   ·obtain ⟨ι,f⟩:=ag
    obtain ⟨R,H⟩:=y
    rcases S with b | ⟨_,z⟩ | ⟨R',H',a,al,S⟩
    ·exact stop b
    ·obtain ⟨g',w',es,R',H',a,h1,h2,h3,h4⟩:=z w (h.mem.fits 0 _ o)
     obtain ⟨hm,ae⟩:=s5 h.mem (rC F s js _) (rB F s js _) h.tr o (.inl E) h2 (.inl E) h3 g.frame.fn g.frame.place
     refine go (some (f a)) (some ⟨R',H'⟩) (dd 0) g' w' es h1 hm (by rw [gA]; exact ae) ?_ (.inl (by rw [ab]; exact .some (.mk f a)))
     rw [hd]; exact ⟨rfl,M,E,_,n,rfl,A,.inl ⟨f a,rfl,h4⟩⟩
    ·have J:=h.ghost (x:=⟨R',H'⟩) (m':=some (f a)) hi o (al w (h.mem.fits 0 _ o)) (by rw [hd]; exact ⟨rfl,M,E,_,n,rfl,A,.inl ⟨f a,rfl,S⟩⟩)
     exact ap (qH F Q D (gz m 0 (some (f a))) s gs) (.inr ⟨rfl,.inl (zj ad ab (.some (.mk f a)))⟩) gs w sl t _ _ _ _ _ _ _ _ J rfl 0 g hi G L W
   ·rcases ak with rfl | ⟨rfl,_⟩
    ·exact stop b
    ·cases G
theorem MI.runs(o:F.mj=e4 F.P F.B Post)(h:MI F Q T0 D m js s th mu dd gs w t):fY F.P Post (crowd gs w sl) t:=by
 obtain ⟨a,b,d,z,f,p,y⟩:=crowd_pick (P:=F.P) (gs:=gs) (w:=w) (sl:=sl) h.awake h.F3
 exact MI.Ri o _ gs (w.at d) z t T0 D m js s th mu dd (h.at d) rfl a b f p _ y
end
end Go.Lg
