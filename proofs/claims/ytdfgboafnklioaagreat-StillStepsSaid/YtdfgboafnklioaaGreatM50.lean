/- Contracts. Conditions: in each theorem. -/
import Derived.Test.YtdfgboafnklioaaGreatM30
import Derived.Test.YtdfgboafnklioaaGreatM44
set_option linter.all false
set_option maxRecDepth 100000
set_option maxHeartbeats 4000000
namespace Go.cI
open Go.Proofs
instance aca {n:Nat}[Mn n [94,193,199,212,201,209,217,96,97,215,218,98,95,191,100,99,101,181]]:cA n where
theorem DK {a b:Int}(ha:0<=a/\a<18446744073709551616)(hb:0<=b/\b<18446744073709551616):0<=mT a b/\mT a b<18446744073709551616:=by
 have h:a.toNat|||b.toNat<2^64:=Nat.or_lt_two_pow am am
 unfold mT;omega
instance Tj {w:Int}:VC EM (zF 211) [U w] (Me.au w) (.dh [.agg [I (if bY w then 0 else w/72057594037927936),I (if bY w then 0 else w/65536%1099511627776),I (if bY w then 0 else w%65536)],I (if bY w then 5 else 0)]):=.of rfl rfl λhw=>by
 show Zx EM false (Tryz.a211 _) _ _ _ _;haveI:cA 200:=⟨⟩;have c_:=hw;unfold Me.au at c_;refine z3 ?_ ?_ ?_<;>intros
 all_goals first
  |(exfalso;omega)
  |exact⟨DK ⟨Int.emod_nonneg _ dl,Int.emod_lt_of_pos _ dl⟩ ⟨Int.emod_nonneg _ dl,Int.emod_lt_of_pos _ dl⟩,am⟩
  |(have hb:bY w:=by unfold bY;omega
    simp only[if_pos hb];exact⟨trivial,rfl⟩)
  |(have hb:¬bY w:=by unfold bY;omega
    simp only[if_neg hb];exact⟨trivial,rfl⟩)
  |skip
theorem DL {p s:Int}(hp:0<=p/\p<=254)(hs:0<=s/\s<=1099511627775):mT (mT (p%18446744073709551616*2^56%18446744073709551616) (s%18446744073709551616*2^16%18446744073709551616)) ((0:Int)%18446744073709551616)=ka p s:=by
 have e1:p%18446744073709551616*2^56%18446744073709551616=p*2^56:=by simp only[Int.reducePow];omega
 have e2:s%18446744073709551616*2^16%18446744073709551616=s*65536:=by simp only[Int.reducePow];omega
 have e3:∀a:Int,0<=a->mT a 0=a:=λa h=>by unfold mT;simp;omega
 have e5:(0:Int)%18446744073709551616=0:=dl;have e4:=rQ (a:=p) (b:=s*65536) (i:=56) hp.1 am (by simp only[Int.reducePow];omega);rw[e1,e2,e5,e4,e3 _ (by simp only[Int.reducePow];omega)];unfold ka;simp only[Int.reducePow];omega
instance Tl {p s:Int}:VC EM (zF 200) [.agg [I p,I s,I 0]] ((0<=p/\p<=254)/\0<=s/\s<=1099511627775) (.dh [U (ka p s),I 0]):=.of rfl rfl λ⟨hp,hs⟩=>by have hw:=DK (a:=p%18446744073709551616*2^56%18446744073709551616) (b:=s%18446744073709551616*2^16%18446744073709551616) ⟨Int.emod_nonneg _ dl,Int.emod_lt_of_pos _ dl⟩ ⟨Int.emod_nonneg _ dl,Int.emod_lt_of_pos _ dl⟩;have hk:=DL hp hs;show Zx EM false (Tryz.a200 _) _ _ _ _;clear hk;refine z1 ?_;intros;refine⟨rfl,?_⟩;rw[DL hp hs];rfl
instance Y0 {t c:Int}:VC EM (zF 204) [I t,I c] (0<=t/\1<=c/\c<=64) (I (t%c)):=.of rfl rfl λh=>by show Zx EM false (Tryz.a204 _) _ _ _ _;exact zZ
theorem gw.row {t:Tw}{c key aq high:Int}{q:Nat}{b:Int}{σ:aW}{lo:List Own}(h:gw t c key aq high q b σ lo):∃(ln:Int) (lF:AV) (p:Int) (mI:AV) (e n:Int) (al co:AV) (ref:Int) (ly ins:AV) (lf:List Own),lo=.obj q (.row (t.qX c ln lF p mI b e key aq high n al co ref ly ins))::lf:=by
 cases h<;>exact⟨_,_,_,_,_,_,_,_,_,_,_,_,rfl⟩
theorem iQ.row {t:Tw}{r:Rs}{c:Int}{q:Nat}{b:Int}{σ:cH}{lo:List Own}(h:iQ t r c q b σ lo):∃(look:AV) (ln key:Int) (L:AV) (flag e:Int) (lf:List Own),lo=.obj q (.row (r.cS look ln key L flag b e))::lf:=by
 cases h<;>exact⟨_,_,_,_,_,_,_,rfl⟩
theorem Bd {j:Jb}{i fr to c c2:Int}{y:Me}{z:bh}(hf:fr≠4)(ht:to≠4):z.step j i fr to c y=z.step j i fr to c2 y:=by
 cases z with
 |l=>
  show(if _/\(fr≠4\/_) then _ else _,_)=(if _/\(fr≠4\/_) then _ else _,_);simp[hf]
 |s w=>
  show(_,y.ez _ _ (jw to (if to=4 then c else 0) _))=(_,y.ez _ _ (jw to (if to=4 then c2 else 0) _));rw[if_neg ht,if_neg ht]
 |d=>rfl
def Xc.b7 (x:Xc)(tv:AV)(o:Od)(hg ln:Int)(a1 a2 a3 a4 a5 a6 a7 a8 a9 a10 a11 a12:AV)(i w b e:Int)(nn:Bool):List AV:=x.cs++[tv,I o.k,I o.c,I o.tk,I o.now,I hg,I ln,a1,a2,a3,a4,a5,a6,a7,a8,a9,a10,a11,a12,I i,U w,U b,I e,B nn]
inductive bH (x:Xc)(o:Od)(tv:AV)(hg:Int)(q:Nat)(b:Int):az->List Own->Prop
 |r1 {z:gG}{lm:List Own}{qm:Nat}{i w:Int}{a2 a3 a4 a5 a6 a7 a8 a9 a10 a11 a12:AV}(bK:o.k=1)(h:px (x.b5+o.tk) o.every o.now qm z lm)(ho:z.over=false):bH x o tv hg q b (.r1 z) (.obj q (.row (x.b7 tv o hg 11 (.ptr qm 0) a2 a3 a4 a5 a6 a7 a8 a9 a10 a11 a12 i w b 0 false))::lm)
 |r2 {z:dz}{lm:List Own}{qm:Nat}{i w:Int}{a1 a3 a4 a5 a6 a7 a8 a9 a10 a11 a12:AV}(bK:o.k=1)(h:mq x.j qm z lm)(ho:z.over=false):bH x o tv hg q b (.r2 z) (.obj q (.row (x.b7 tv o hg 12 a1 (.ptr qm 0) a3 a4 a5 a6 a7 a8 a9 a10 a11 a12 i w b 0 false))::lm)
 |r3 {i:Int}{w:Int}{a1 a2 a3 a4 a5 a6 a7 a8 a9 a10 a11 a12:AV}(bK:o.k=1)(hi:0<=i/\i<x.j.f.size):bH x o tv hg q b (.r3 i) [.obj q (.row (x.b7 tv o hg 13 a1 a2 a3 a4 a5 a6 a7 a8 a9 a10 a11 a12 i w b 0 false))]
 |r4 {z:bC}{i w:Int}{lm:List Own}{qm:Nat}{a1 a2 a3 a4 a6 a7 a8 a9 a10 a11 a12:AV}(bK:o.k=1)(hi:0<=i/\i<x.j.f.size)(h:sQ x.j i w qm z lm)(ho:z.over=false):bH x o tv hg q b (.r4 i w z) (.obj q (.row (x.b7 tv o hg 14 a1 a2 a3 a4 (.ptr qm 0) a6 a7 a8 a9 a10 a11 a12 i w b 0 false))::lm)
 |r5 {z:dy}{i w:Int}{lm:List Own}{qm:Nat}{a1 a2 a3 a4 a5 a6 a8 a9 a10 a11 a12:AV}(bK:o.k=1)(hi:0<=i/\i<x.j.f.size)(h:my (x.ring (o.tk%x.aI)) i qm z lm)(ho:z.over=false):bH x o tv hg q b (.r5 i w z) (.obj q (.row (x.b7 tv o hg 15 a1 a2 a3 a4 a5 a6 (.ptr qm 0) a8 a9 a10 a11 a12 i w b 0 false))::lm)
 |r6 {z:cQ}{i w e:Int}{lm:List Own}{qm:Nat}{w2:Int}{a1 a2 a4 a5 a6 a7 a8 a9 a10 a11 a12:AV}(bK:o.k=1)(he:e≠0)(h:mw x.j i qm z lm)(ho:z.over=false):bH x o tv hg q b (.r6 i w e z) (.obj q (.row (x.b7 tv o hg 113 a1 a2 (.ptr qm 0) a4 a5 a6 a7 a8 a9 a10 a11 a12 i w2 b e false))::lm)
 |t1 {z:eA}{lm:List Own}{qm:Nat}{i w:Int}{a1 a2 a3 a4 a5 a6 a7 a9 a10 a11 a12:AV}(bK:o.k=2)(hh:hg=o.high)(h:i5 (x.ring o.c) qm z lm)(ho:z.over=false):bH x o tv hg q b (.t1 z) (.obj q (.row (x.b7 tv o hg 21 a1 a2 a3 a4 a5 a6 a7 (.ptr qm 0) a9 a10 a11 a12 i w b 0 false))::lm)
 |t2 {z:bC}{i hd:Int}{lm:List Own}{qm qf:Nat}{w fv fe:Int}{a1 a2 a3 a4 a5 a7 a9 a10 a11 a12:AV}(bK:o.k=2)(hh:hg=o.high)(Bz:Me.au hd)(hi:0<=i/\i<x.j.f.size)(h:ki x.j i qm z lm)(ho:z.over=false):bH x o tv hg q b (.t2 i hd z) (.obj q (.row (x.b7 tv o hg 22 a1 a2 a3 a4 a5 (.ptr qm 0) a7 (.ptr qf 0) a9 a10 a11 a12 i w b 0 false))::.obj qf (.row (Rn.cs (x.ring o.c)++[I 9,U hd,I fv,I fe]))::lm)
 |t3 {z:bh}{i hd w:Int}{lm:List Own}{qm qf:Nat}{fv fe:Int}{a1 a2 a3 a5 a6 a7 a9 a10 a11 a12:AV}(bK:o.k=2)(hh:hg=o.high)(Bz:Me.au hd)(hi:0<=i/\i<x.j.f.size)(c_:Me.au w/\¬bY w)(h:iN x.j i 2 3 0 qm z lm)(ho:z.over=false):bH x o tv hg q b (.t3 i hd w z) (.obj q (.row (x.b7 tv o hg 23 a1 a2 a3 (.ptr qm 0) a5 a6 a7 (.ptr qf 0) a9 a10 a11 a12 i w b 0 false))::.obj qf (.row (Rn.cs (x.ring o.c)++[I 9,U hd,I fv,I fe]))::lm)
 |t4 {z:aW}{i hd w:Int}{bp:Int}{lm:List Own}{qm qf:Nat}{fv fe:Int}{a1 a2 a3 a4 a5 a6 a7 a9 a11 a12:AV}(bK:o.k=2)(hh:hg=o.high)(Bz:Me.au hd)(hi:0<=i/\i<x.j.f.size)(c_:Me.au w/\¬bY w)(h:gw x.t o.c w i o.high qm bp z lm)(ho:z.over=false):bH x o tv hg q b (.t4 i hd w z) (.obj q (.row (x.b7 tv o hg 24 a1 a2 a3 a4 a5 a6 a7 (.ptr qf 0) a9 (.ptr qm 0) a11 a12 i w b 0 false))::.obj qf (.row (Rn.cs (x.ring o.c)++[I 9,U hd,I fv,I fe]))::lm)
 |t5 {z:bh}{i w e:Int}{lm:List Own}{qm:Nat}{w2:Int}{a1 a2 a3 a5 a6 a7 a8 a9 a10 a11 a12:AV}(bK:o.k=2)(he:e≠0)(h:iN x.j i 3 2 0 qm z lm)(ho:z.over=false):bH x o tv hg q b (.t5 i w e z) (.obj q (.row (x.b7 tv o hg 124 a1 a2 a3 (.ptr qm 0) a5 a6 a7 a8 a9 a10 a11 a12 i w2 b e false))::lm)
 |t6 {z:jx}{i hd w:Int}{lm:List Own}{qm:Nat}{a1 a2 a3 a4 a5 a6 a7 a8 a10 a11 a12:AV}(bK:o.k=2)(h:pw (x.ring o.c) hd qm z lm)(ho:z.over=false):bH x o tv hg q b (.t6 i hd w z) (.obj q (.row (x.b7 tv o hg 25 a1 a2 a3 a4 a5 a6 a7 a8 (.ptr qm 0) a10 a11 a12 i w b 0 false))::lm)
 |pg {z:cH}{i w:Int}{bp:Int}{lm:List Own}{qm:Nat}{a1 a2 a3 a4 a5 a6 a7 a8 a9 a10 a11:AV}(h:iQ x.t x.r o.c qm bp z lm)(ho:z.over=false):bH x o tv hg q b (.pg i w z) (.obj q (.row (x.b7 tv o hg 26 a1 a2 a3 a4 a5 a6 a7 a8 a9 a10 a11 (.ptr qm 0) i w b 0 false))::lm)
 |p1 {i w:Int} {a1 a2 a3 a4 a5 a6 a7 a8 a9 a10 a11 a12:AV} (bK:o.k=3):bH x o tv hg q b (.p1) [.obj q (.row (x.b7 tv o hg 31 a1 a2 a3 a4 a5 a6 a7 a8 a9 a10 a11 a12 i w b 0 false))]
 |p2 {z:dQ}{bp:Int}{lm:List Own}{qm:Nat}{i w:Int}{a1 a2 a3 a4 a5 a6 a7 a8 a9 a10 a12:AV}(bK:1<=o.k/\o.k<=5)(h:jN x.t o.c false qm bp z lm)(ho:z.over=false):bH x o tv hg q b (.p2 z) (.obj q (.row (x.b7 tv o hg 32 a1 a2 a3 a4 a5 a6 a7 a8 a9 a10 (.ptr qm 0) a12 i w b 0 false))::lm)
 |p3 {z:bh}{i w:Int}{lm:List Own}{qm:Nat}{a1 a2 a3 a5 a6 a7 a8 a9 a10 a11 a12:AV}(hi:0<=i/\i<x.j.f.size)(h:iN x.j i 3 4 o.c qm z lm)(ho:z.over=false):bH x o tv hg q b (.p3 i w z) (.obj q (.row (x.b7 tv o hg 33 a1 a2 a3 (.ptr qm 0) a5 a6 a7 a8 a9 a10 a11 a12 i w b 0 false))::lm)
 |p4 {i w:Int}{a1 a2 a3 a4 a5 a6 a7 a8 a9 a10 a11 a12:AV}(hi:0<=i/\i<x.j.f.size):bH x o tv hg q b (.p4 i w) [.obj q (.row (x.b7 tv o hg 34 a1 a2 a3 a4 a5 a6 a7 a8 a9 a10 a11 a12 i w b 0 false))]
 |p5 {i w:Int}{a1 a2 a3 a4 a5 a6 a7 a8 a9 a10 a11 a12:AV}:bH x o tv hg q b (.p5 i w) [.obj q (.row (x.b7 tv o hg 35 a1 a2 a3 a4 a5 a6 a7 a8 a9 a10 a11 a12 i w b 0 false))]
 |s1 {i w:Int} {a1 a2 a3 a4 a5 a6 a7 a8 a9 a10 a11 a12:AV} (bK:o.k=4) (hh:hg=o.high):bH x o tv hg q b (.s1) [.obj q (.row (x.b7 tv o hg 41 a1 a2 a3 a4 a5 a6 a7 a8 a9 a10 a11 a12 i w b 0 false))]
 |s2 {i w:Int} {a1 a2 a3 a4 a5 a6 a7 a8 a9 a10 a11 a12:AV} (bK:o.k=4) (hh:hg=o.high):bH x o tv hg q b (.s2) [.obj q (.row (x.b7 tv o hg 42 a1 a2 a3 a4 a5 a6 a7 a8 a9 a10 a11 a12 i w b 0 false))]
 |s3 {i w:Int} {a1 a2 a3 a4 a5 a6 a7 a8 a9 a10 a11 a12:AV} (bK:o.k=4) (hh:hg=o.high):bH x o tv hg q b (.s3) [.obj q (.row (x.b7 tv o hg 43 a1 a2 a3 a4 a5 a6 a7 a8 a9 a10 a11 a12 i w b 0 false))]
 |s4 {z:bC}{i:Int}{lm:List Own}{qm:Nat}{w:Int}{a1 a2 a3 a4 a5 a7 a8 a9 a10 a11 a12:AV}(bK:o.k=4)(hh:hg=o.high)(hi:0<=i/\i<x.j.f.size)(h:ki x.j i qm z lm)(ho:z.over=false):bH x o tv hg q b (.s4 i z) (.obj q (.row (x.b7 tv o hg 44 a1 a2 a3 a4 a5 (.ptr qm 0) a7 a8 a9 a10 a11 a12 i w b 0 false))::lm)
 |s5 {z:bh}{i w:Int}{lm:List Own}{qm:Nat}{a1 a2 a3 a5 a6 a7 a8 a9 a10 a11 a12:AV}(bK:o.k=4)(hh:hg=o.high)(hi:0<=i/\i<x.j.f.size)(c_:Me.au w/\¬bY w)(h:iN x.j i 4 3 o.c qm z lm)(ho:z.over=false):bH x o tv hg q b (.s5 i w z) (.obj q (.row (x.b7 tv o hg 45 a1 a2 a3 (.ptr qm 0) a5 a6 a7 a8 a9 a10 a11 a12 i w b 0 false))::lm)
 |s6 {i w:Int}{a1 a2 a3 a4 a5 a6 a7 a8 a9 a10 a11 a12:AV}(bK:o.k=4)(hh:hg=o.high)(hi:0<=i/\i<x.j.f.size)(c_:Me.au w/\¬bY w):bH x o tv hg q b (.s6 i w) [.obj q (.row (x.b7 tv o hg 46 a1 a2 a3 a4 a5 a6 a7 a8 a9 a10 a11 a12 i w b 0 false))]
 |s7 {z:bC}{i w:Int}{lm:List Own}{qm:Nat}{a1 a2 a3 a4 a6 a7 a8 a9 a10 a11 a12:AV}(bK:o.k=4)(hh:hg=o.high)(hi:0<=i/\i<x.j.f.size)(c_:Me.au w/\¬bY w)(h:sQ x.j i ((w+1)%18446744073709551616) qm z lm)(ho:z.over=false):bH x o tv hg q b (.s7 i w z) (.obj q (.row (x.b7 tv o hg 47 a1 a2 a3 a4 (.ptr qm 0) a6 a7 a8 a9 a10 a11 a12 i w b 0 false))::lm)
 |s8 {z:aW}{i w:Int}{bp:Int}{lm:List Own}{qm:Nat}{a1 a2 a3 a4 a5 a6 a7 a8 a9 a11 a12:AV}(bK:o.k=4)(hh:hg=o.high)(hi:0<=i/\i<x.j.f.size)(c_:Me.au w/\¬bY w)(h:gw x.t o.c ((w+1)%18446744073709551616) i o.high qm bp z lm)(ho:z.over=false):bH x o tv hg q b (.s8 i w z) (.obj q (.row (x.b7 tv o hg 48 a1 a2 a3 a4 a5 a6 a7 a8 a9 (.ptr qm 0) a11 a12 i w b 0 false))::lm)
 |s9 {i w:Int}{a1 a2 a3 a4 a5 a6 a7 a8 a9 a10 a11 a12:AV}(bK:o.k=4):bH x o tv hg q b (.s9 i w) [.obj q (.row (x.b7 tv o hg 49 a1 a2 a3 a4 a5 a6 a7 a8 a9 a10 a11 a12 i w b 0 false))]
 |b1 {z:bC}{i w e:Int}{lm:List Own}{qm:Nat}{a1 a2 a3 a4 a6 a7 a8 a9 a10 a11 a12:AV}(bK:o.k=4)(hi:0<=i/\i<x.j.f.size)(he:e≠0)(h:sQ x.j i w qm z lm)(ho:z.over=false):bH x o tv hg q b (.b1 i w e z) (.obj q (.row (x.b7 tv o hg 148 a1 a2 a3 a4 (.ptr qm 0) a6 a7 a8 a9 a10 a11 a12 i w b e false))::lm)
 |b2 {z:bh}{i w e:Int}{lm:List Own}{qm:Nat}{a1 a2 a3 a5 a6 a7 a8 a9 a10 a11 a12:AV}(bK:o.k=4)(he:e≠0)(h:iN x.j i 3 4 o.c qm z lm)(ho:z.over=false):bH x o tv hg q b (.b2 i w e z) (.obj q (.row (x.b7 tv o hg 149 a1 a2 a3 (.ptr qm 0) a5 a6 a7 a8 a9 a10 a11 a12 i w b e false))::lm)
 |b3 {i w e:Int}{a1 a2 a3 a4 a5 a6 a7 a8 a9 a10 a11 a12:AV}(bK:o.k=4)(he:e≠0):bH x o tv hg q b (.b3 i w e) [.obj q (.row (x.b7 tv o hg 150 a1 a2 a3 a4 a5 a6 a7 a8 a9 a10 a11 a12 i w b e false))]
 |b4 {i w e:Int}{a1 a2 a3 a4 a5 a6 a7 a8 a9 a10 a11 a12:AV}(bK:o.k=4)(he:e≠0):bH x o tv hg q b (.b4 i w e) [.obj q (.row (x.b7 tv o hg 151 a1 a2 a3 a4 a5 a6 a7 a8 a9 a10 a11 a12 i w b e false))]
 |c1 {i w:Int} {a1 a2 a3 a4 a5 a6 a7 a8 a9 a10 a11 a12:AV} (bK:o.k=5):bH x o tv hg q b (.c1) [.obj q (.row (x.b7 tv o hg 51 a1 a2 a3 a4 a5 a6 a7 a8 a9 a10 a11 a12 i w b 0 false))]
 |c2 {z:bC}{i:Int}{lm:List Own}{qm:Nat}{w:Int}{a1 a2 a3 a4 a5 a7 a8 a9 a10 a11 a12:AV}(bK:o.k=5)(hi:0<=i/\i<x.j.f.size)(h:ki x.j i qm z lm)(ho:z.over=false):bH x o tv hg q b (.c2 i z) (.obj q (.row (x.b7 tv o hg 52 a1 a2 a3 a4 a5 (.ptr qm 0) a7 a8 a9 a10 a11 a12 i w b 0 false))::lm)
 |c3 {z:bh}{i w:Int}{lm:List Own}{qm:Nat}{a1 a2 a3 a5 a6 a7 a8 a9 a10 a11 a12:AV}(bK:o.k=5)(hi:0<=i/\i<x.j.f.size)(h:iN x.j i 4 5 o.c qm z lm)(ho:z.over=false):bH x o tv hg q b (.c3 i w z) (.obj q (.row (x.b7 tv o hg 53 a1 a2 a3 (.ptr qm 0) a5 a6 a7 a8 a9 a10 a11 a12 i w b 0 false))::lm)
 |c4 {i w:Int}{a1 a2 a3 a4 a5 a6 a7 a8 a9 a10 a11 a12:AV}(bK:o.k=5)(hi:0<=i/\i<x.j.f.size):bH x o tv hg q b (.c4 i w) [.obj q (.row (x.b7 tv o hg 54 a1 a2 a3 a4 a5 a6 a7 a8 a9 a10 a11 a12 i w b 0 false))]
 |c5 {i w:Int}{a1 a2 a3 a4 a5 a6 a7 a8 a9 a10 a11 a12:AV}(bK:o.k=5)(hi:0<=i/\i<x.j.f.size):bH x o tv hg q b (.c5 i w) [.obj q (.row (x.b7 tv o hg 55 a1 a2 a3 a4 a5 a6 a7 a8 a9 a10 a11 a12 i w b 0 false))]
 |c6 {z:cQ}{i w:Int}{lm:List Own}{qm:Nat}{a1 a2 a4 a5 a6 a7 a8 a9 a10 a11 a12:AV}(bK:o.k=5)(h:mw x.j i qm z lm)(ho:z.over=false):bH x o tv hg q b (.c6 i w z) (.obj q (.row (x.b7 tv o hg 56 a1 a2 (.ptr qm 0) a4 a5 a6 a7 a8 a9 a10 a11 a12 i w b 0 false))::lm)
 |d {i w e i' w':Int}{n:Bool}{a1 a2 a3 a4 a5 a6 a7 a8 a9 a10 a11 a12:AV}(hw:e=0->n=false->i'=i/\w'=w):bH x o tv hg q b (.d i w e n) [.obj q (.row (x.b7 tv o hg 99 a1 a2 a3 a4 a5 a6 a7 a8 a9 a10 a11 a12 i' w' b e n))]
theorem Vx.ldT {M:dS}{own:List Own}{ro:List aF}{Φ:ma}{K:List Kf}{v z:AV}{L:List (List AV)}{c:List AV}{es f:Nat}{i:Int}{k:AV->AC}(hv:aF.sl v es L∈ro)(hi:0<=i)(hc:L[i.toNat]?=some c)(hz:c[f]?=some z)(h:Zx M false (k z) K own ro Φ):Vx M (.op (.dp es v (I i)) λp=>.op (.jO f p) λp=>.op (.load 1 false p) k) K own ro Φ:=λB W S H=>by
 have e:I i=I (i.toNat:Int):=by rw[Int.toNat_of_nonneg hi]
 rw[e];obtain⟨id,off,h1,h2,h3⟩:=rK (M:=M) (H.rh _ hv) hc;refine ah h1 ?_;refine cD ?_;obtain⟨d,g1,g2⟩:=rJ (j:=f) h2 hz;exact ah (iX g1 g2) (h.ok B W S H)
theorem eN {o1 own:List Own}(e:o1=own:=by conv=>lhs;simp only[Xc.b7,Xc.cs,Tw.cs,Lb.cs,Ar.cs,Ep.cs,Rn.cs,lA,lB,lC]):o1=own:=e
abbrev DQ (x:Xc)(o:Od)(tv:AV)(hg:Int)(q:Nat)(b:Int)(m:Nat)(vm:AV)(y:Me)(s:az):Prop:=∀{B0 S:AH}{W:List Nat}{R l:List Own}{ro:List aF},x.ok->o.ok x->y.gd->bH x o tv hg q b s l->Cx B0 W S (l++(ai m vm y++R)) ro->aG EM (zF 21) [.ptr q 0,.ptr m 0] S λu S'=>∃ab,eH (bH x o tv hg q (az.cG x o s)) az.over (az.step x o s y) (ai m vm) R u ab/\Cx B0 W S' ab ro
section
open az
section
variable{B0 S:AH}{W:List Nat}{R l:List Own}{ro:List aF}{m q:Nat}{vm tv:AV}{y:Me}{x:Xc}{o:Od}{b hg:Int}
theorem N4 {z:gG}:DQ x o tv hg q b m vm y (.r1 z):=by
 intro B0 S W R l ro hx hk hy h H;obtain⟨dK,cR,eD,eU,eQ,eV,bt,dk,eR,eL,eo,eS,mU,ml⟩:=aS hx hk;cases h with
 |@r1 z lm qm i w a2 a3 a4 a5 a6 a7 a8 a9 a10 a11 a12 bK h ho=>
 refine y1 H eN ?_;intros;refine Vx.fy (A:=[_]) (λB W S H=>ET ⟨by have:=bt bK;omega,by have:=bt bK;omega⟩ hy h H) λa' x' l' e1 hl=>?_;have e2:az.step x o (.r1 z) y=(qE x o a',x'):=by show(qE x o _,_)=_;rw[e1]
 cases ho:a'.over
 .refine z1 ?_;have e3:az.step x o (.r1 z) y=(az.r1 a',x'):=e2.trans (Prod.ext (by cases a'<;>first|rfl|cases ho) rfl);exact aa e3 (.r1 bK hl ho) rfl HQ
 .cases hl with
  |@d w2 er=>
   refine z2 ?_ ?_<;>intros
   .have e3:qE x o (.d er)=.d 0 0 er false:=if_neg am;exact aa (e2.trans (Prod.ext e3 rfl)) (.d (λh=>absurd h am)) rfl HQ
   .have e3:qE x o (.d er)=.r2 (.p .a):=if_pos am;exact aa (e2.trans (Prod.ext e3 rfl)) (.r2 (lm:=_::[_]) bK (.p .a rfl) rfl) rfl HQ
  |_=>cases ho
theorem N5 {z:dz}:DQ x o tv hg q b m vm y (.r2 z):=by
 intro B0 S W R l ro hx hk hy h H;obtain⟨dK,cR,eD,eU,eQ,eV,bt,dk,eR,eL,eo,eS,mU,ml⟩:=aS hx hk;cases h with
 |@r2 z lm qm i w a1 a3 a4 a5 a6 a7 a8 a9 a10 a11 a12 bK h ho=>
 refine y1 H eN ?_;intros;refine Vx.fy (A:=[_]) (λB W S H=>EU cR hy h H) λa' x' l' e1 hl=>?_;have e2:az.step x o (.r2 z) y=(qF x o a',x'):=by show(qF x o _,_)=_;rw[e1]
 cases ho:a'.over
 .refine z1 ?_;have e3:az.step x o (.r2 z) y=(az.r2 a',x'):=e2.trans (Prod.ext (by cases a'<;>first|rfl|cases ho) rfl);exact aa e3 (.r2 bK hl ho) rfl HQ
 .cases hl with
  |@d i2 w2 pp wK=>
   refine z1 ?_;all_goals exact aa (e2.trans (Prod.ext (show qF x o (.d i2 0)=.r3 i2 from rfl) rfl)) (.r3 bK wK) rfl HQ
  |@n i2 w2 pp=>
   refine z1 ?_;all_goals exact aa (e2.trans (Prod.ext (show qF x o (.d 0 7)=.d 0 0 7 false from rfl) rfl)) (.d (λh=>absurd h dl)) rfl HQ
  |_=>cases ho
theorem N6 {i:Int}(hx:x.ok)(hk:o.ok x)(hy:y.gd)(ht:∃(L:List (List AV)) (c:List AV),aF.sl tv 4 L∈ro/\L[o.tk.toNat]?=some c/\c[1]?=some (I o.prio))(h:bH x o tv hg q b (.r3 i) l)(H:Cx B0 W S (l++(ai m vm y++R)) ro):
  aG EM (zF 21) [.ptr q 0,.ptr m 0] S λu S'=>∃ab,eH (bH x o tv hg q (az.cG x o (.r3 i))) az.over (az.step x o (.r3 i) y) (ai m vm) R u ab/\Cx B0 W S' ab ro:=by
 obtain⟨dK,cR,eD,eU,eQ,eV,bt,dk,eR,eL,eo,eS,mU,ml⟩:=aS hx hk;cases h with
 |@r3 i w a1 a2 a3 a4 a5 a6 a7 a8 a9 a10 a11 a12 bK hi=>
 refine y3 H eN ?_ ?_ ?_<;>intros
 all_goals
  have e2:az.step x o (.r3 i) y=(if(y.add x.seq 1).new<1\/1099511627775<(y.add x.seq 1).new then .r6 i 0 12 .l else .r4 i (ka o.prio (y.add x.seq 1).new) .a,y.add x.seq 1):=by show(if _ then az.r6 i 0 12 (cQ.new x.j i) else .r4 i _ (bC.new x.j i),_)=_;rw[cQ.df hi,bC.df hi]
 .exact aa (e2.trans (Prod.ext (if_pos am) rfl)) (.r6 (lm:=[_,_]) bK dl (.l hi) rfl) rfl HQ
 .exact aa (e2.trans (Prod.ext (if_pos am) rfl)) (.r6 (lm:=[_,_]) bK dl (.l hi) rfl) rfl HQ
 .obtain⟨L,c,h1,h2,h3⟩:=ht;have hp:=bt bK;refine Vx.ldT h1 hp.1.1 h2 h3 ?_;refine z1 ?_;intros;exact aa (e2.trans (Prod.ext (if_neg am) rfl)) (.r4 (lm:=[_]) bK hi (.a hi) rfl) rfl HQ
theorem N7 {z:bC}{i w:Int}:DQ x o tv hg q b m vm y (.r4 i w z):=by
 intro B0 S W R l ro hx hk hy h H;obtain⟨dK,cR,eD,eU,eQ,eV,bt,dk,eR,eL,eo,eS,mU,ml⟩:=aS hx hk;cases h with
 |@r4 z i w lm qm a1 a2 a3 a4 a6 a7 a8 a9 a10 a11 a12 bK hi h ho=>
 refine y1 H eN ?_;intros;refine Vx.fy (A:=[_]) (λB W S H=>vJ cR hy h H) λa' x' l' e1 hl=>?_;have e2:az.step x o (.r4 i w z) y=(if a'.over then az.r5 i w .a else .r4 i w a',x'):=by show(if _ then _ else _,_)=_;rw[e1]
 cases ho:a'.over
 .refine z1 ?_;have e3:az.step x o (.r4 i w z) y=(az.r4 i w a',x'):=e2.trans (Prod.ext (if_neg (by rw[ho];simp)) rfl);exact aa e3 (.r4 bK hi hl ho) rfl HQ
 .refine z2 ?_ ?_<;>intros
  .exact⟨am,⟨Int.emod_nonneg _ am,Int.emod_lt_of_pos _ am⟩,am⟩
  next p l' hS=>exact aa (e2.trans (Prod.ext (if_pos ho) rfl)) (.r5 bK hi (show my (x.ring (o.tk%x.aI)) i p .a l' from hS) rfl) rfl HQ
theorem N8 {z:dy}{i w:Int}:DQ x o tv hg q b m vm y (.r5 i w z):=by
 intro B0 S W R l ro hx hk hy h H;obtain⟨dK,cR,eD,eU,eQ,eV,bt,dk,eR,eL,eo,eS,mU,ml⟩:=aS hx hk;cases h with
 |@r5 z i w lm qm a1 a2 a3 a4 a5 a6 a8 a9 a10 a11 a12 bK hi h ho=>
 refine y1 H eN ?_;intros;refine Vx.fy (A:=[_]) (λB W S H=>EW (Cq hx (by have:=bt bK;exact Int.emod_nonneg _ am) (by have:=Int.emod_lt_of_pos o.tk (show 0<x.aI by omega);omega)) hy h H) λa' x' l' e1 hl=>?_;have e2:az.step x o (.r5 i w z) y=(qG x o i w a',x'):=by show(qG x o i w _,_)=_;rw[e1]
 cases ho:a'.over
 .refine z1 ?_;have e3:az.step x o (.r5 i w z) y=(az.r5 i w a',x'):=e2.trans (Prod.ext (by cases a'<;>first|rfl|cases ho) rfl);exact aa e3 (.r5 bK hi hl ho) rfl HQ
 .cases hl with
  |s _ h3=>rw[h3] at ho;cases ho
  |@d er pp=>
   refine z2 ?_ ?_<;>intros
   .have e3:qG x o i w (.d er)=.r6 i w er .l:=by show(if er=0 then _ else az.r6 i w er (cQ.new x.j i))=_;rw[if_neg am,cQ.df hi]
    exact aa (e2.trans (Prod.ext e3 rfl)) (.r6 (lm:=[_,_]) bK am (.l hi) rfl) rfl HQ
   .have e3:qG x o i w (.d er)=.d i w 0 false:=if_pos am;exact aa (e2.trans (Prod.ext e3 rfl)) (.d (λ_ _=>⟨rfl,rfl⟩)) rfl HQ
theorem N9 {z:cQ}{i w e:Int}:DQ x o tv hg q b m vm y (.r6 i w e z):=by
 intro B0 S W R l ro hx hk hy h H;obtain⟨dK,cR,eD,eU,eQ,eV,bt,dk,eR,eL,eo,eS,mU,ml⟩:=aS hx hk;cases h with
 |@r6 z i w e lm qm w2 a1 a2 a4 a5 a6 a7 a8 a9 a10 a11 a12 bK he h ho=>
 refine y1 H eN ?_;intros;refine Vx.fy (A:=[_]) (λB W S H=>xJ cR hy h H) λa' x' l' e1 hl=>?_;have e2:az.step x o (.r6 i w e z) y=(if a'.over then az.d i w e false else .r6 i w e a',x'):=by show(if _ then _ else _,_)=_;rw[e1]
 cases ho:a'.over
 .refine z1 ?_;have e3:az.step x o (.r6 i w e z) y=(az.r6 i w e a',x'):=e2.trans (Prod.ext (if_neg (by rw[ho];simp)) rfl);exact aa e3 (.r6 bK he hl ho) rfl HQ
 .refine z1 ?_;all_goals first|(exfalso;omega)|exact aa (e2.trans (Prod.ext (if_pos ho) rfl)) (.d (λh=>absurd h he)) rfl HQ
end
end
end Go.cI
