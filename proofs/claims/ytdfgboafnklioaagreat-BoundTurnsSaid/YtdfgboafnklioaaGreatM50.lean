/- Contracts. Conditions: in each theorem. -/
import Derived.Test.YtdfgboafnklioaaGreatM30
import Derived.Test.YtdfgboafnklioaaGreatM44
set_option linter.all false
set_option maxRecDepth 100000
set_option maxHeartbeats 4000000
namespace Go.cO
open Go.Proofs
instance ab8 {n:Nat}[Mn n [94,193,199,212,201,209,217,96,97,215,218,98,95,191,100,99,101,181]]:cH n where
theorem DD {a b:Int}(ha:0<=a/\a<18446744073709551616)(hb:0<=b/\b<18446744073709551616):0<=nb a b/\nb a b<18446744073709551616:=by
 have h:a.toNat|||b.toNat<2^64:=Nat.or_lt_two_pow am am
 unfold nb;omega
instance Tu {w:Int}:VC EM (zF 211) [U w] (Me.ar w) (.dD [.agg [I (if b_ w then 0 else w/72057594037927936),I (if b_ w then 0 else w/65536%1099511627776),I (if b_ w then 0 else w%65536)],I (if b_ w then 5 else 0)]):=.of rfl rfl λhw=>by
 show Zx EM false (Tryz.a211 _) _ _ _ _;haveI:cH 200:=⟨⟩;have dt:=hw;unfold Me.ar at dt;refine z3 ?_ ?_ ?_<;>intros
 all_goals first
  |(exfalso;omega)
  |exact⟨DD ⟨Int.emod_nonneg _ dl,Int.emod_lt_of_pos _ dl⟩ ⟨Int.emod_nonneg _ dl,Int.emod_lt_of_pos _ dl⟩,am⟩
  |(have hb:b_ w:=by unfold b_;omega
    simp only[if_pos hb];exact⟨trivial,rfl⟩)
  |(have hb:¬b_ w:=by unfold b_;omega
    simp only[if_neg hb];exact⟨trivial,rfl⟩)
  |skip
theorem DE {p s:Int}(hp:0<=p/\p<=254)(hs:0<=s/\s<=1099511627775):nb (nb (p%18446744073709551616*2^56%18446744073709551616) (s%18446744073709551616*2^16%18446744073709551616)) ((0:Int)%18446744073709551616)=kJ p s:=by
 have e1:p%18446744073709551616*2^56%18446744073709551616=p*2^56:=by simp only[Int.reducePow];omega
 have e2:s%18446744073709551616*2^16%18446744073709551616=s*65536:=by simp only[Int.reducePow];omega
 have e3:∀a:Int,0<=a->nb a 0=a:=λa h=>by unfold nb;simp;omega
 have e5:(0:Int)%18446744073709551616=0:=dl;have e4:=rS (a:=p) (b:=s*65536) (i:=56) hp.1 am (by simp only[Int.reducePow];omega);rw[e1,e2,e5,e4,e3 _ (by simp only[Int.reducePow];omega)];unfold kJ;simp only[Int.reducePow];omega
instance Tv {p s:Int}:VC EM (zF 200) [.agg [I p,I s,I 0]] ((0<=p/\p<=254)/\0<=s/\s<=1099511627775) (.dD [U (kJ p s),I 0]):=.of rfl rfl λ⟨hp,hs⟩=>by have hw:=DD (a:=p%18446744073709551616*2^56%18446744073709551616) (b:=s%18446744073709551616*2^16%18446744073709551616) ⟨Int.emod_nonneg _ dl,Int.emod_lt_of_pos _ dl⟩ ⟨Int.emod_nonneg _ dl,Int.emod_lt_of_pos _ dl⟩;have hk:=DE hp hs;show Zx EM false (Tryz.a200 _) _ _ _ _;clear hk;refine z1 ?_;intros;refine⟨rfl,?_⟩;rw[DE hp hs];rfl
instance YN {t c:Int}:VC EM (zF 204) [I t,I c] (0<=t/\1<=c/\c<=64) (I (t%c)):=.of rfl rfl λh=>by show Zx EM false (Tryz.a204 _) _ _ _ _;exact zZ
theorem gW.row {t:Tw}{c key aq high:Int}{q:Nat}{b:Int}{σ:aI}{lo:List Own}(h:gW t c key aq high q b σ lo):∃(ln:Int) (l9:AV) (p:Int) (mV:AV) (e n:Int) (al co:AV) (ref:Int) (ly ins:AV) (lf:List Own),lo=.obj q (.row (t.rk c ln l9 p mV b e key aq high n al co ref ly ins))::lf:=by
 cases h<;>exact⟨_,_,_,_,_,_,_,_,_,_,_,_,rfl⟩
theorem jm.row {t:Tw}{r:Rs}{c:Int}{q:Nat}{b:Int}{σ:cN}{lo:List Own}(h:jm t r c q b σ lo):∃(look:AV) (ln key:Int) (L:AV) (flag e:Int) (lf:List Own),lo=.obj q (.row (r.cZ look ln key L flag b e))::lf:=by
 cases h<;>exact⟨_,_,_,_,_,_,_,rfl⟩
theorem AW {j:Jb}{i fr to c c2:Int}{y:Me}{z:aZ}(hf:fr≠4)(ht:to≠4):z.step j i fr to c y=z.step j i fr to c2 y:=by
 cases z with
 |l=>
  show(if _/\(fr≠4\/_) then _ else _,_)=(if _/\(fr≠4\/_) then _ else _,_);simp[hf]
 |s w=>
  show(_,y.eL _ _ (jw to (if to=4 then c else 0) _))=(_,y.eL _ _ (jw to (if to=4 then c2 else 0) _));rw[if_neg ht,if_neg ht]
 |d=>rfl
def Xc.cf (x:Xc)(tv:AV)(o:Od)(hg ln:Int)(a1 a2 a3 a4 a5 a6 a7 a8 a9 a10 a11 a12:AV)(i w b e:Int)(nn:Bool):List AV:=x.cs++[tv,I o.k,I o.c,I o.tk,I o.now,I hg,I ln,a1,a2,a3,a4,a5,a6,a7,a8,a9,a10,a11,a12,I i,U w,U b,I e,B nn]
inductive bU (x:Xc)(o:Od)(tv:AV)(hg:Int)(q:Nat)(b:Int):an->List Own->Prop
 |r1 {z:eE}{lm:List Own}{qm:Nat}{i w:Int}{a2 a3 a4 a5 a6 a7 a8 a9 a10 a11 a12:AV}(bR:o.k=1)(h:pU (x.cn+o.tk) o.every o.now qm z lm)(ho:z.over=false):bU x o tv hg q b (.r1 z) (.obj q (.row (x.cf tv o hg 11 (.ptr qm 0) a2 a3 a4 a5 a6 a7 a8 a9 a10 a11 a12 i w b 0 false))::lm)
 |r2 {z:cw}{lm:List Own}{qm:Nat}{i w:Int}{a1 a3 a4 a5 a6 a7 a8 a9 a10 a11 a12:AV}(bR:o.k=1)(h:mK x.j qm z lm)(ho:z.over=false):bU x o tv hg q b (.r2 z) (.obj q (.row (x.cf tv o hg 12 a1 (.ptr qm 0) a3 a4 a5 a6 a7 a8 a9 a10 a11 a12 i w b 0 false))::lm)
 |r3 {i:Int}{w:Int}{a1 a2 a3 a4 a5 a6 a7 a8 a9 a10 a11 a12:AV}(bR:o.k=1)(hi:0<=i/\i<x.j.f.size):bU x o tv hg q b (.r3 i) [.obj q (.row (x.cf tv o hg 13 a1 a2 a3 a4 a5 a6 a7 a8 a9 a10 a11 a12 i w b 0 false))]
 |r4 {z:bF}{i w:Int}{lm:List Own}{qm:Nat}{a1 a2 a3 a4 a6 a7 a8 a9 a10 a11 a12:AV}(bR:o.k=1)(hi:0<=i/\i<x.j.f.size)(h:sS x.j i w qm z lm)(ho:z.over=false):bU x o tv hg q b (.r4 i w z) (.obj q (.row (x.cf tv o hg 14 a1 a2 a3 a4 (.ptr qm 0) a6 a7 a8 a9 a10 a11 a12 i w b 0 false))::lm)
 |r5 {z:b7}{i w:Int}{lm:List Own}{qm:Nat}{a1 a2 a3 a4 a5 a6 a8 a9 a10 a11 a12:AV}(bR:o.k=1)(hi:0<=i/\i<x.j.f.size)(h:mM (x.ring (o.tk%x.aJ)) i qm z lm)(ho:z.over=false):bU x o tv hg q b (.r5 i w z) (.obj q (.row (x.cf tv o hg 15 a1 a2 a3 a4 a5 a6 (.ptr qm 0) a8 a9 a10 a11 a12 i w b 0 false))::lm)
 |r6 {z:cX}{i w e:Int}{lm:List Own}{qm:Nat}{w2:Int}{a1 a2 a4 a5 a6 a7 a8 a9 a10 a11 a12:AV}(bR:o.k=1)(he:e≠0)(h:mL x.j i qm z lm)(ho:z.over=false):bU x o tv hg q b (.r6 i w e z) (.obj q (.row (x.cf tv o hg 113 a1 a2 (.ptr qm 0) a4 a5 a6 a7 a8 a9 a10 a11 a12 i w2 b e false))::lm)
 |t1 {z:eM}{lm:List Own}{qm:Nat}{i w:Int}{a1 a2 a3 a4 a5 a6 a7 a9 a10 a11 a12:AV}(bR:o.k=2)(hh:hg=o.high)(h:jA (x.ring o.c) qm z lm)(ho:z.over=false):bU x o tv hg q b (.t1 z) (.obj q (.row (x.cf tv o hg 21 a1 a2 a3 a4 a5 a6 a7 (.ptr qm 0) a9 a10 a11 a12 i w b 0 false))::lm)
 |t2 {z:bF}{i hd:Int}{lm:List Own}{qm qf:Nat}{w fv fe:Int}{a1 a2 a3 a4 a5 a7 a9 a10 a11 a12:AV}(bR:o.k=2)(hh:hg=o.high)(Bi:Me.ar hd)(hi:0<=i/\i<x.j.f.size)(h:kP x.j i qm z lm)(ho:z.over=false):bU x o tv hg q b (.t2 i hd z) (.obj q (.row (x.cf tv o hg 22 a1 a2 a3 a4 a5 (.ptr qm 0) a7 (.ptr qf 0) a9 a10 a11 a12 i w b 0 false))::.obj qf (.row (Rn.cs (x.ring o.c)++[I 9,U hd,I fv,I fe]))::lm)
 |t3 {z:aZ}{i hd w:Int}{lm:List Own}{qm qf:Nat}{fv fe:Int}{a1 a2 a3 a5 a6 a7 a9 a10 a11 a12:AV}(bR:o.k=2)(hh:hg=o.high)(Bi:Me.ar hd)(hi:0<=i/\i<x.j.f.size)(dt:Me.ar w/\¬b_ w)(h:jg x.j i 2 3 0 qm z lm)(ho:z.over=false):bU x o tv hg q b (.t3 i hd w z) (.obj q (.row (x.cf tv o hg 23 a1 a2 a3 (.ptr qm 0) a5 a6 a7 (.ptr qf 0) a9 a10 a11 a12 i w b 0 false))::.obj qf (.row (Rn.cs (x.ring o.c)++[I 9,U hd,I fv,I fe]))::lm)
 |t4 {z:aI}{i hd w:Int}{bp:Int}{lm:List Own}{qm qf:Nat}{fv fe:Int}{a1 a2 a3 a4 a5 a6 a7 a9 a11 a12:AV}(bR:o.k=2)(hh:hg=o.high)(Bi:Me.ar hd)(hi:0<=i/\i<x.j.f.size)(dt:Me.ar w/\¬b_ w)(h:gW x.t o.c w i o.high qm bp z lm)(ho:z.over=false):bU x o tv hg q b (.t4 i hd w z) (.obj q (.row (x.cf tv o hg 24 a1 a2 a3 a4 a5 a6 a7 (.ptr qf 0) a9 (.ptr qm 0) a11 a12 i w b 0 false))::.obj qf (.row (Rn.cs (x.ring o.c)++[I 9,U hd,I fv,I fe]))::lm)
 |t5 {z:aZ}{i w e:Int}{lm:List Own}{qm:Nat}{w2:Int}{a1 a2 a3 a5 a6 a7 a8 a9 a10 a11 a12:AV}(bR:o.k=2)(he:e≠0)(h:jg x.j i 3 2 0 qm z lm)(ho:z.over=false):bU x o tv hg q b (.t5 i w e z) (.obj q (.row (x.cf tv o hg 124 a1 a2 a3 (.ptr qm 0) a5 a6 a7 a8 a9 a10 a11 a12 i w2 b e false))::lm)
 |t6 {z:jZ}{i hd w:Int}{lm:List Own}{qm:Nat}{a1 a2 a3 a4 a5 a6 a7 a8 a10 a11 a12:AV}(bR:o.k=2)(h:pT (x.ring o.c) hd qm z lm)(ho:z.over=false):bU x o tv hg q b (.t6 i hd w z) (.obj q (.row (x.cf tv o hg 25 a1 a2 a3 a4 a5 a6 a7 a8 (.ptr qm 0) a10 a11 a12 i w b 0 false))::lm)
 |oX {z:cN}{i w:Int}{bp:Int}{lm:List Own}{qm:Nat}{a1 a2 a3 a4 a5 a6 a7 a8 a9 a10 a11:AV}(h:jm x.t x.r o.c qm bp z lm)(ho:z.over=false):bU x o tv hg q b (.oX i w z) (.obj q (.row (x.cf tv o hg 26 a1 a2 a3 a4 a5 a6 a7 a8 a9 a10 a11 (.ptr qm 0) i w b 0 false))::lm)
 |p1 {i w:Int} {a1 a2 a3 a4 a5 a6 a7 a8 a9 a10 a11 a12:AV} (bR:o.k=3):bU x o tv hg q b (.p1) [.obj q (.row (x.cf tv o hg 31 a1 a2 a3 a4 a5 a6 a7 a8 a9 a10 a11 a12 i w b 0 false))]
 |p2 {z:dY}{bp:Int}{lm:List Own}{qm:Nat}{i w:Int}{a1 a2 a3 a4 a5 a6 a7 a8 a9 a10 a12:AV}(bR:1<=o.k/\o.k<=5)(h:kp x.t o.c false qm bp z lm)(ho:z.over=false):bU x o tv hg q b (.p2 z) (.obj q (.row (x.cf tv o hg 32 a1 a2 a3 a4 a5 a6 a7 a8 a9 a10 (.ptr qm 0) a12 i w b 0 false))::lm)
 |p3 {z:aZ}{i w:Int}{lm:List Own}{qm:Nat}{a1 a2 a3 a5 a6 a7 a8 a9 a10 a11 a12:AV}(hi:0<=i/\i<x.j.f.size)(h:jg x.j i 3 4 o.c qm z lm)(ho:z.over=false):bU x o tv hg q b (.p3 i w z) (.obj q (.row (x.cf tv o hg 33 a1 a2 a3 (.ptr qm 0) a5 a6 a7 a8 a9 a10 a11 a12 i w b 0 false))::lm)
 |p4 {i w:Int}{a1 a2 a3 a4 a5 a6 a7 a8 a9 a10 a11 a12:AV}(hi:0<=i/\i<x.j.f.size):bU x o tv hg q b (.p4 i w) [.obj q (.row (x.cf tv o hg 34 a1 a2 a3 a4 a5 a6 a7 a8 a9 a10 a11 a12 i w b 0 false))]
 |p5 {i w:Int}{a1 a2 a3 a4 a5 a6 a7 a8 a9 a10 a11 a12:AV}:bU x o tv hg q b (.p5 i w) [.obj q (.row (x.cf tv o hg 35 a1 a2 a3 a4 a5 a6 a7 a8 a9 a10 a11 a12 i w b 0 false))]
 |s1 {i w:Int} {a1 a2 a3 a4 a5 a6 a7 a8 a9 a10 a11 a12:AV} (bR:o.k=4) (hh:hg=o.high):bU x o tv hg q b (.s1) [.obj q (.row (x.cf tv o hg 41 a1 a2 a3 a4 a5 a6 a7 a8 a9 a10 a11 a12 i w b 0 false))]
 |s2 {i w:Int} {a1 a2 a3 a4 a5 a6 a7 a8 a9 a10 a11 a12:AV} (bR:o.k=4) (hh:hg=o.high):bU x o tv hg q b (.s2) [.obj q (.row (x.cf tv o hg 42 a1 a2 a3 a4 a5 a6 a7 a8 a9 a10 a11 a12 i w b 0 false))]
 |s3 {i w:Int} {a1 a2 a3 a4 a5 a6 a7 a8 a9 a10 a11 a12:AV} (bR:o.k=4) (hh:hg=o.high):bU x o tv hg q b (.s3) [.obj q (.row (x.cf tv o hg 43 a1 a2 a3 a4 a5 a6 a7 a8 a9 a10 a11 a12 i w b 0 false))]
 |s4 {z:bF}{i:Int}{lm:List Own}{qm:Nat}{w:Int}{a1 a2 a3 a4 a5 a7 a8 a9 a10 a11 a12:AV}(bR:o.k=4)(hh:hg=o.high)(hi:0<=i/\i<x.j.f.size)(h:kP x.j i qm z lm)(ho:z.over=false):bU x o tv hg q b (.s4 i z) (.obj q (.row (x.cf tv o hg 44 a1 a2 a3 a4 a5 (.ptr qm 0) a7 a8 a9 a10 a11 a12 i w b 0 false))::lm)
 |s5 {z:aZ}{i w:Int}{lm:List Own}{qm:Nat}{a1 a2 a3 a5 a6 a7 a8 a9 a10 a11 a12:AV}(bR:o.k=4)(hh:hg=o.high)(hi:0<=i/\i<x.j.f.size)(dt:Me.ar w/\¬b_ w)(h:jg x.j i 4 3 o.c qm z lm)(ho:z.over=false):bU x o tv hg q b (.s5 i w z) (.obj q (.row (x.cf tv o hg 45 a1 a2 a3 (.ptr qm 0) a5 a6 a7 a8 a9 a10 a11 a12 i w b 0 false))::lm)
 |s6 {i w:Int}{a1 a2 a3 a4 a5 a6 a7 a8 a9 a10 a11 a12:AV}(bR:o.k=4)(hh:hg=o.high)(hi:0<=i/\i<x.j.f.size)(dt:Me.ar w/\¬b_ w):bU x o tv hg q b (.s6 i w) [.obj q (.row (x.cf tv o hg 46 a1 a2 a3 a4 a5 a6 a7 a8 a9 a10 a11 a12 i w b 0 false))]
 |s7 {z:bF}{i w:Int}{lm:List Own}{qm:Nat}{a1 a2 a3 a4 a6 a7 a8 a9 a10 a11 a12:AV}(bR:o.k=4)(hh:hg=o.high)(hi:0<=i/\i<x.j.f.size)(dt:Me.ar w/\¬b_ w)(h:sS x.j i ((w+1)%18446744073709551616) qm z lm)(ho:z.over=false):bU x o tv hg q b (.s7 i w z) (.obj q (.row (x.cf tv o hg 47 a1 a2 a3 a4 (.ptr qm 0) a6 a7 a8 a9 a10 a11 a12 i w b 0 false))::lm)
 |s8 {z:aI}{i w:Int}{bp:Int}{lm:List Own}{qm:Nat}{a1 a2 a3 a4 a5 a6 a7 a8 a9 a11 a12:AV}(bR:o.k=4)(hh:hg=o.high)(hi:0<=i/\i<x.j.f.size)(dt:Me.ar w/\¬b_ w)(h:gW x.t o.c ((w+1)%18446744073709551616) i o.high qm bp z lm)(ho:z.over=false):bU x o tv hg q b (.s8 i w z) (.obj q (.row (x.cf tv o hg 48 a1 a2 a3 a4 a5 a6 a7 a8 a9 (.ptr qm 0) a11 a12 i w b 0 false))::lm)
 |s9 {i w:Int}{a1 a2 a3 a4 a5 a6 a7 a8 a9 a10 a11 a12:AV}(bR:o.k=4):bU x o tv hg q b (.s9 i w) [.obj q (.row (x.cf tv o hg 49 a1 a2 a3 a4 a5 a6 a7 a8 a9 a10 a11 a12 i w b 0 false))]
 |b1 {z:bF}{i w e:Int}{lm:List Own}{qm:Nat}{a1 a2 a3 a4 a6 a7 a8 a9 a10 a11 a12:AV}(bR:o.k=4)(hi:0<=i/\i<x.j.f.size)(he:e≠0)(h:sS x.j i w qm z lm)(ho:z.over=false):bU x o tv hg q b (.b1 i w e z) (.obj q (.row (x.cf tv o hg 148 a1 a2 a3 a4 (.ptr qm 0) a6 a7 a8 a9 a10 a11 a12 i w b e false))::lm)
 |b2 {z:aZ}{i w e:Int}{lm:List Own}{qm:Nat}{a1 a2 a3 a5 a6 a7 a8 a9 a10 a11 a12:AV}(bR:o.k=4)(he:e≠0)(h:jg x.j i 3 4 o.c qm z lm)(ho:z.over=false):bU x o tv hg q b (.b2 i w e z) (.obj q (.row (x.cf tv o hg 149 a1 a2 a3 (.ptr qm 0) a5 a6 a7 a8 a9 a10 a11 a12 i w b e false))::lm)
 |b3 {i w e:Int}{a1 a2 a3 a4 a5 a6 a7 a8 a9 a10 a11 a12:AV}(bR:o.k=4)(he:e≠0):bU x o tv hg q b (.b3 i w e) [.obj q (.row (x.cf tv o hg 150 a1 a2 a3 a4 a5 a6 a7 a8 a9 a10 a11 a12 i w b e false))]
 |b4 {i w e:Int}{a1 a2 a3 a4 a5 a6 a7 a8 a9 a10 a11 a12:AV}(bR:o.k=4)(he:e≠0):bU x o tv hg q b (.b4 i w e) [.obj q (.row (x.cf tv o hg 151 a1 a2 a3 a4 a5 a6 a7 a8 a9 a10 a11 a12 i w b e false))]
 |c1 {i w:Int} {a1 a2 a3 a4 a5 a6 a7 a8 a9 a10 a11 a12:AV} (bR:o.k=5):bU x o tv hg q b (.c1) [.obj q (.row (x.cf tv o hg 51 a1 a2 a3 a4 a5 a6 a7 a8 a9 a10 a11 a12 i w b 0 false))]
 |c2 {z:bF}{i:Int}{lm:List Own}{qm:Nat}{w:Int}{a1 a2 a3 a4 a5 a7 a8 a9 a10 a11 a12:AV}(bR:o.k=5)(hi:0<=i/\i<x.j.f.size)(h:kP x.j i qm z lm)(ho:z.over=false):bU x o tv hg q b (.c2 i z) (.obj q (.row (x.cf tv o hg 52 a1 a2 a3 a4 a5 (.ptr qm 0) a7 a8 a9 a10 a11 a12 i w b 0 false))::lm)
 |c3 {z:aZ}{i w:Int}{lm:List Own}{qm:Nat}{a1 a2 a3 a5 a6 a7 a8 a9 a10 a11 a12:AV}(bR:o.k=5)(hi:0<=i/\i<x.j.f.size)(h:jg x.j i 4 5 o.c qm z lm)(ho:z.over=false):bU x o tv hg q b (.c3 i w z) (.obj q (.row (x.cf tv o hg 53 a1 a2 a3 (.ptr qm 0) a5 a6 a7 a8 a9 a10 a11 a12 i w b 0 false))::lm)
 |c4 {i w:Int}{a1 a2 a3 a4 a5 a6 a7 a8 a9 a10 a11 a12:AV}(bR:o.k=5)(hi:0<=i/\i<x.j.f.size):bU x o tv hg q b (.c4 i w) [.obj q (.row (x.cf tv o hg 54 a1 a2 a3 a4 a5 a6 a7 a8 a9 a10 a11 a12 i w b 0 false))]
 |c5 {i w:Int}{a1 a2 a3 a4 a5 a6 a7 a8 a9 a10 a11 a12:AV}(bR:o.k=5)(hi:0<=i/\i<x.j.f.size):bU x o tv hg q b (.c5 i w) [.obj q (.row (x.cf tv o hg 55 a1 a2 a3 a4 a5 a6 a7 a8 a9 a10 a11 a12 i w b 0 false))]
 |c6 {z:cX}{i w:Int}{lm:List Own}{qm:Nat}{a1 a2 a4 a5 a6 a7 a8 a9 a10 a11 a12:AV}(bR:o.k=5)(h:mL x.j i qm z lm)(ho:z.over=false):bU x o tv hg q b (.c6 i w z) (.obj q (.row (x.cf tv o hg 56 a1 a2 (.ptr qm 0) a4 a5 a6 a7 a8 a9 a10 a11 a12 i w b 0 false))::lm)
 |d {i w e i' w':Int}{n:Bool}{a1 a2 a3 a4 a5 a6 a7 a8 a9 a10 a11 a12:AV}(hw:e=0->n=false->i'=i/\w'=w):bU x o tv hg q b (.d i w e n) [.obj q (.row (x.cf tv o hg 99 a1 a2 a3 a4 a5 a6 a7 a8 a9 a10 a11 a12 i' w' b e n))]
theorem Vx.ldT {M:cQ}{own:List Own}{ro:List aB}{Φ:gn}{K:List Kf}{v z:AV}{L:List (List AV)}{c:List AV}{es f:Nat}{i:Int}{k:AV->AC}(hv:aB.sl v es L∈ro)(hi:0<=i)(hc:L[i.toNat]?=some c)(hz:c[f]?=some z)(h:Zx M false (k z) K own ro Φ):Vx M (.op (.da es v (I i)) λp=>.op (.lG f p) λp=>.op (.load 1 false p) k) K own ro Φ:=λB W S H=>by
 have e:I i=I (i.toNat:Int):=by rw[Int.toNat_of_nonneg hi]
 rw[e];obtain⟨id,off,h1,h2,h3⟩:=rP (M:=M) (H.rh _ hv) hc;refine ae h1 ?_;refine cV ?_;obtain⟨d,g1,g2⟩:=rO (j:=f) h2 hz;exact ae (ju g1 g2) (h.ok B W S H)
theorem e_ {o1 own:List Own}(e:o1=own:=by conv=>lhs;simp only[Xc.cf,Xc.cs,Tw.cs,Lb.cs,Ar.cs,Ep.cs,Rn.cs,lA,lB,lC]):o1=own:=e
abbrev DQ (x:Xc)(o:Od)(tv:AV)(hg:Int)(q:Nat)(b:Int)(m:Nat)(vm:AV)(y:Me)(s:an):Prop:=∀{B0 S:AH}{W:List Nat}{R l:List Own}{ro:List aB},x.ok->o.ok x->y.gd->bU x o tv hg q b s l->Cx B0 W S (l++(ai m vm y++R)) ro->aG EM (zF 21) [.ptr q 0,.ptr m 0] S λu S'=>∃ab,eW (bU x o tv hg q (an.cM x o s)) an.over (an.step x o s y) (ai m vm) R u ab/\Cx B0 W S' ab ro
section
open an
section
variable{B0 S:AH}{W:List Nat}{R l:List Own}{ro:List aB}{m q:Nat}{vm tv:AV}{y:Me}{x:Xc}{o:Od}{b hg:Int}
theorem NV {z:eE}:DQ x o tv hg q b m vm y (.r1 z):=by
 intro B0 S W R l ro hx hk hy h H;obtain⟨dT,cY,eO,fi,ff,fj,bz,dC,fk,fA,eR,fg,ng,mH⟩:=aO hx hk;cases h with
 |@r1 z lm qm i w a2 a3 a4 a5 a6 a7 a8 a9 a10 a11 a12 bR h ho=>
 refine y1 H e_ ?_;intros;refine Vx.fV (A:=[_]) (λB W S H=>EG ⟨by have:=bz bR;omega,by have:=bz bR;omega⟩ hy h H) λa' x' l' e1 hl=>?_;have e2:an.step x o (.r1 z) y=(oY x o a',x'):=by show(oY x o _,_)=_;rw[e1]
 cases ho:a'.over
 .refine z1 ?_;have e3:an.step x o (.r1 z) y=(an.r1 a',x'):=e2.trans (Prod.ext (by cases a'<;>first|rfl|cases ho) rfl);exact aa e3 (.r1 bR hl ho) rfl HQ
 .cases hl with
  |@d w2 er=>
   refine z2 ?_ ?_<;>intros
   .have e3:oY x o (.d er)=.d 0 0 er false:=if_neg am;exact aa (e2.trans (Prod.ext e3 rfl)) (.d (λh=>absurd h am)) rfl HQ
   .have e3:oY x o (.d er)=.r2 (.p .a):=if_pos am;exact aa (e2.trans (Prod.ext e3 rfl)) (.r2 (lm:=_::[_]) bR (.p .a rfl) rfl) rfl HQ
  |_=>cases ho
theorem NW {z:cw}:DQ x o tv hg q b m vm y (.r2 z):=by
 intro B0 S W R l ro hx hk hy h H;obtain⟨dT,cY,eO,fi,ff,fj,bz,dC,fk,fA,eR,fg,ng,mH⟩:=aO hx hk;cases h with
 |@r2 z lm qm i w a1 a3 a4 a5 a6 a7 a8 a9 a10 a11 a12 bR h ho=>
 refine y1 H e_ ?_;intros;refine Vx.fV (A:=[_]) (λB W S H=>EH cY hy h H) λa' x' l' e1 hl=>?_;have e2:an.step x o (.r2 z) y=(oZ x o a',x'):=by show(oZ x o _,_)=_;rw[e1]
 cases ho:a'.over
 .refine z1 ?_;have e3:an.step x o (.r2 z) y=(an.r2 a',x'):=e2.trans (Prod.ext (by cases a'<;>first|rfl|cases ho) rfl);exact aa e3 (.r2 bR hl ho) rfl HQ
 .cases hl with
  |@d i2 w2 pp uO=>
   refine z1 ?_;all_goals exact aa (e2.trans (Prod.ext (show oZ x o (.d i2 0)=.r3 i2 from rfl) rfl)) (.r3 bR uO) rfl HQ
  |@n i2 w2 pp=>
   refine z1 ?_;all_goals exact aa (e2.trans (Prod.ext (show oZ x o (.d 0 7)=.d 0 0 7 false from rfl) rfl)) (.d (λh=>absurd h dl)) rfl HQ
  |_=>cases ho
theorem NX {i:Int}(hx:x.ok)(hk:o.ok x)(hy:y.gd)(ht:∃(L:List (List AV)) (c:List AV),aB.sl tv 4 L∈ro/\L[o.tk.toNat]?=some c/\c[1]?=some (I o.prio))(h:bU x o tv hg q b (.r3 i) l)(H:Cx B0 W S (l++(ai m vm y++R)) ro):
  aG EM (zF 21) [.ptr q 0,.ptr m 0] S λu S'=>∃ab,eW (bU x o tv hg q (an.cM x o (.r3 i))) an.over (an.step x o (.r3 i) y) (ai m vm) R u ab/\Cx B0 W S' ab ro:=by
 obtain⟨dT,cY,eO,fi,ff,fj,bz,dC,fk,fA,eR,fg,ng,mH⟩:=aO hx hk;cases h with
 |@r3 i w a1 a2 a3 a4 a5 a6 a7 a8 a9 a10 a11 a12 bR hi=>
 refine y3 H e_ ?_ ?_ ?_<;>intros
 all_goals
  have e2:an.step x o (.r3 i) y=(if(y.add x.seq 1).new<1\/1099511627775<(y.add x.seq 1).new then .r6 i 0 12 .l else .r4 i (kJ o.prio (y.add x.seq 1).new) .a,y.add x.seq 1):=by show(if _ then an.r6 i 0 12 (cX.new x.j i) else .r4 i _ (bF.new x.j i),_)=_;rw[cX.dy hi,bF.dy hi]
 .exact aa (e2.trans (Prod.ext (if_pos am) rfl)) (.r6 (lm:=[_,_]) bR dl (.l hi) rfl) rfl HQ
 .exact aa (e2.trans (Prod.ext (if_pos am) rfl)) (.r6 (lm:=[_,_]) bR dl (.l hi) rfl) rfl HQ
 .obtain⟨L,c,h1,h2,h3⟩:=ht;have hp:=bz bR;refine Vx.ldT h1 hp.1.1 h2 h3 ?_;refine z1 ?_;intros;exact aa (e2.trans (Prod.ext (if_neg am) rfl)) (.r4 (lm:=[_]) bR hi (.a hi) rfl) rfl HQ
theorem NY {z:bF}{i w:Int}:DQ x o tv hg q b m vm y (.r4 i w z):=by
 intro B0 S W R l ro hx hk hy h H;obtain⟨dT,cY,eO,fi,ff,fj,bz,dC,fk,fA,eR,fg,ng,mH⟩:=aO hx hk;cases h with
 |@r4 z i w lm qm a1 a2 a3 a4 a6 a7 a8 a9 a10 a11 a12 bR hi h ho=>
 refine y1 H e_ ?_;intros;refine Vx.fV (A:=[_]) (λB W S H=>vE cY hy h H) λa' x' l' e1 hl=>?_;have e2:an.step x o (.r4 i w z) y=(if a'.over then an.r5 i w .a else .r4 i w a',x'):=by show(if _ then _ else _,_)=_;rw[e1]
 cases ho:a'.over
 .refine z1 ?_;have e3:an.step x o (.r4 i w z) y=(an.r4 i w a',x'):=e2.trans (Prod.ext (if_neg (by rw[ho];simp)) rfl);exact aa e3 (.r4 bR hi hl ho) rfl HQ
 .refine z2 ?_ ?_<;>intros
  .exact⟨am,⟨Int.emod_nonneg _ am,Int.emod_lt_of_pos _ am⟩,am⟩
  next p l' hS=>exact aa (e2.trans (Prod.ext (if_pos ho) rfl)) (.r5 bR hi (show mM (x.ring (o.tk%x.aJ)) i p .a l' from hS) rfl) rfl HQ
theorem NZ {z:b7}{i w:Int}:DQ x o tv hg q b m vm y (.r5 i w z):=by
 intro B0 S W R l ro hx hk hy h H;obtain⟨dT,cY,eO,fi,ff,fj,bz,dC,fk,fA,eR,fg,ng,mH⟩:=aO hx hk;cases h with
 |@r5 z i w lm qm a1 a2 a3 a4 a5 a6 a8 a9 a10 a11 a12 bR hi h ho=>
 refine y1 H e_ ?_;intros;refine Vx.fV (A:=[_]) (λB W S H=>EJ (Cd hx (by have:=bz bR;exact Int.emod_nonneg _ am) (by have:=Int.emod_lt_of_pos o.tk (show 0<x.aJ by omega);omega)) hy h H) λa' x' l' e1 hl=>?_;have e2:an.step x o (.r5 i w z) y=(o0 x o i w a',x'):=by show(o0 x o i w _,_)=_;rw[e1]
 cases ho:a'.over
 .refine z1 ?_;have e3:an.step x o (.r5 i w z) y=(an.r5 i w a',x'):=e2.trans (Prod.ext (by cases a'<;>first|rfl|cases ho) rfl);exact aa e3 (.r5 bR hi hl ho) rfl HQ
 .cases hl with
  |s _ h3=>rw[h3] at ho;cases ho
  |@d er pp=>
   refine z2 ?_ ?_<;>intros
   .have e3:o0 x o i w (.d er)=.r6 i w er .l:=by show(if er=0 then _ else an.r6 i w er (cX.new x.j i))=_;rw[if_neg am,cX.dy hi]
    exact aa (e2.trans (Prod.ext e3 rfl)) (.r6 (lm:=[_,_]) bR am (.l hi) rfl) rfl HQ
   .have e3:o0 x o i w (.d er)=.d i w 0 false:=if_pos am;exact aa (e2.trans (Prod.ext e3 rfl)) (.d (λ_ _=>⟨rfl,rfl⟩)) rfl HQ
theorem N1 {z:cX}{i w e:Int}:DQ x o tv hg q b m vm y (.r6 i w e z):=by
 intro B0 S W R l ro hx hk hy h H;obtain⟨dT,cY,eO,fi,ff,fj,bz,dC,fk,fA,eR,fg,ng,mH⟩:=aO hx hk;cases h with
 |@r6 z i w e lm qm w2 a1 a2 a4 a5 a6 a7 a8 a9 a10 a11 a12 bR he h ho=>
 refine y1 H e_ ?_;intros;refine Vx.fV (A:=[_]) (λB W S H=>xr cY hy h H) λa' x' l' e1 hl=>?_;have e2:an.step x o (.r6 i w e z) y=(if a'.over then an.d i w e false else .r6 i w e a',x'):=by show(if _ then _ else _,_)=_;rw[e1]
 cases ho:a'.over
 .refine z1 ?_;have e3:an.step x o (.r6 i w e z) y=(an.r6 i w e a',x'):=e2.trans (Prod.ext (if_neg (by rw[ho];simp)) rfl);exact aa e3 (.r6 bR he hl ho) rfl HQ
 .refine z1 ?_;all_goals first|(exfalso;omega)|exact aa (e2.trans (Prod.ext (if_pos ho) rfl)) (.d (λh=>absurd h he)) rfl HQ
end
end
end Go.cO
