/- Contracts of functions, over the abstract machine. Conditions: stated in each theorem. -/
import Derived.Test.YtdfgboafnklioaaGreatM30
import Derived.Test.YtdfgboafnklioaaGreatM44
set_option linter.all false
set_option maxRecDepth 100000
set_option maxHeartbeats 4000000
namespace Go.cY
open Go.Proofs
section
instance Z8 {n:Nat}[Mn n [94,193,199,212,201,209,217,96,97,215,218,98,95,191,100,99,101,181]]:cF n where
theorem Cl {a b:Int}(ha:0≤a∧a<18446744073709551616)(hb:0≤b∧b<18446744073709551616):0≤mj a b∧mj a b<18446744073709551616:=by
 have h:a.toNat|||b.toNat<2^64:=Nat.or_lt_two_pow (by omega) (by omega)
 unfold mj
 omega
instance Qx {w:Int}:VC EM (zF 211) [U w] (Me.ar w) (.cP [.agg [I (if bU w then 0 else w/72057594037927936),I (if bU w then 0 else w/65536%1099511627776),I (if bU w then 0 else w%65536)],I (if bU w then 5 else 0)]):=.of rfl rfl fun hw=>by
 show Zx EM false (Tryz.a211 _) _ _ _ _
 haveI:cF 200:=⟨⟩
 have cV:=hw
 unfold Me.ar at cV
 (repeat' first|constructor|exact ZQ|intro _)
 all_goals apply zL
 all_goals first
  |(exfalso;omega)
  |exact⟨Cl ⟨Int.emod_nonneg _ (by decide),Int.emod_lt_of_pos _ (by decide)⟩ ⟨Int.emod_nonneg _ (by decide),Int.emod_lt_of_pos _ (by decide)⟩,by omega⟩
  |(have hb:bU w:=by unfold bU;omega
    simp only[if_pos hb]
    exact⟨trivial,rfl⟩)
  |(have hb:¬bU w:=by unfold bU;omega
    simp only[if_neg hb]
    exact⟨trivial,rfl⟩)
  |skip
theorem Cm {p s:Int}(hp:0≤p∧p≤254)(hs:0≤s∧s≤1099511627775):mj (mj (p%18446744073709551616*2^56%18446744073709551616) (s%18446744073709551616*2^16%18446744073709551616)) ((0:Int)%18446744073709551616)=jM p s:=by
 have e1:p%18446744073709551616*2^56%18446744073709551616=p*2^56:=by simp only[Int.reducePow];omega
 have e2:s%18446744073709551616*2^16%18446744073709551616=s*65536:=by simp only[Int.reducePow];omega
 have e3:∀a:Int,0≤a→mj a 0=a:=fun a h=>by unfold mj;simp;omega
 have e5:(0:Int)%18446744073709551616=0:=by decide
 have e4:=qG (a:=p) (b:=s*65536) (i:=56) hp.1 (by omega) (by simp only[Int.reducePow];omega)
 rw[e1,e2,e5,e4,e3 _ (by simp only[Int.reducePow];omega)]
 unfold jM
 simp only[Int.reducePow]
 omega
instance Qy {p s:Int}:VC EM (zF 200) [.agg [I p,I s,I 0]] ((0≤p∧p≤254)∧0≤s∧s≤1099511627775) (.cP [U (jM p s),I 0]):=.of rfl rfl fun⟨hp,hs⟩=>by
 have hw:=Cl (a:=p%18446744073709551616*2^56%18446744073709551616) (b:=s%18446744073709551616*2^16%18446744073709551616) ⟨Int.emod_nonneg _ (by decide),Int.emod_lt_of_pos _ (by decide)⟩ ⟨Int.emod_nonneg _ (by decide),Int.emod_lt_of_pos _ (by decide)⟩
 have hk:=Cm hp hs
 show Zx EM false (Tryz.a200 _) _ _ _ _
 clear hk
 (repeat' first|constructor|exact ZQ|intro _)
 all_goals apply zL
 refine⟨rfl,?_⟩
 rw[Cm hp hs]
 rfl
instance VT {t c:Int}:VC EM (zF 204) [I t,I c] (0≤t∧1≤c∧c≤64) (I (t%c)):=.of rfl rfl fun h=>by
 show Zx EM false (Tryz.a204 _) _ _ _ _
 (repeat' first|constructor|exact ZQ|intro _)
 all_goals apply zL
theorem gz.row {t}{c key aq high:Int}{q:Nat}{b:Int}{σ lo}(h:gz t c key aq high q b σ lo):∃(ln:Int) (kR:AV) (p:Int) (ma:AV) (e n:Int) (al co:AV) (ref:Int) (ly ins:AV) (lf:List Own),lo=.obj q (.row (t.p_ c ln kR p ma b e key aq high n al co ref ly ins))::lf:=by
 cases h<;>exact⟨_,_,_,_,_,_,_,_,_,_,_,_,rfl⟩
theorem iG.row {t r}{c:Int}{q:Nat}{b:Int}{σ lo}(h:iG t r c q b σ lo):∃(look:AV) (ln key:Int) (L:AV) (flag e:Int) (lf:List Own),lo=.obj q (.row (r.cH look ln key L flag b e))::lf:=by
 cases h<;>exact⟨_,_,_,_,_,_,_,rfl⟩
theorem zu {j:Jb}{i fr to c c2:Int}{y:Me}{z:bE}(hf:fr≠4)(ht:to≠4):z.step j i fr to c y=z.step j i fr to c2 y:=by
 cases z with
 |l=>
  show(if _∧(fr≠4∨_) then _ else _,_)=(if _∧(fr≠4∨_) then _ else _,_)
  simp[hf]
 |s w=>
  show(_,y.eh _ _ (jw to (if to=4 then c else 0) _))=(_,y.eh _ _ (jw to (if to=4 then c2 else 0) _))
  rw[if_neg ht,if_neg ht]
 |d=>rfl
def Xc.bX (x:Xc)(tv:AV)(o:Od)(hg ln:Int)(a1 a2 a3 a4 a5 a6 a7 a8 a9 a10 a11 a12:AV)(i w b e:Int)(nn:Bool):List AV:=x.cs++[tv,I o.k,I o.c,I o.tk,I o.now,I hg,I ln,a1,a2,a3,a4,a5,a6,a7,a8,a9,a10,a11,a12,I i,U w,U b,I e,B nn]
inductive bM (x:Xc)(o:Od)(tv:AV)(hg:Int)(q:Nat)(b:Int):av→List Own→Prop
 |r1 {z lm}{qm:Nat}{i w:Int}{a2 a3 a4 a5 a6 a7 a8 a9 a10 a11 a12}(bK:o.k=1)(h:oS (x.b9+o.tk) o.every o.now qm z lm)(ho:z.over=false):bM x o tv hg q b (.r1 z) (.obj q (.row (x.bX tv o hg 11 (.ptr qm 0) a2 a3 a4 a5 a6 a7 a8 a9 a10 a11 a12 i w b 0 false))::lm)
 |r2 {z lm}{qm:Nat}{i w:Int}{a1 a3 a4 a5 a6 a7 a8 a9 a10 a11 a12}(bK:o.k=1)(h:lT x.j qm z lm)(ho:z.over=false):bM x o tv hg q b (.r2 z) (.obj q (.row (x.bX tv o hg 12 a1 (.ptr qm 0) a3 a4 a5 a6 a7 a8 a9 a10 a11 a12 i w b 0 false))::lm)
 |r3 {i:Int}{w:Int}{a1 a2 a3 a4 a5 a6 a7 a8 a9 a10 a11 a12}(bK:o.k=1)(hi:0≤i∧i<x.j.f.size):bM x o tv hg q b (.r3 i) [.obj q (.row (x.bX tv o hg 13 a1 a2 a3 a4 a5 a6 a7 a8 a9 a10 a11 a12 i w b 0 false))]
 |r4 {z}{i w:Int}{lm}{qm:Nat}{a1 a2 a3 a4 a6 a7 a8 a9 a10 a11 a12}(bK:o.k=1)(hi:0≤i∧i<x.j.f.size)(h:rH x.j i w qm z lm)(ho:z.over=false):bM x o tv hg q b (.r4 i w z) (.obj q (.row (x.bX tv o hg 14 a1 a2 a3 a4 (.ptr qm 0) a6 a7 a8 a9 a10 a11 a12 i w b 0 false))::lm)
 |r5 {z}{i w:Int}{lm}{qm:Nat}{a1 a2 a3 a4 a5 a6 a8 a9 a10 a11 a12}(bK:o.k=1)(hi:0≤i∧i<x.j.f.size)(h:lV (x.ring (o.tk%x.aH)) i qm z lm)(ho:z.over=false):bM x o tv hg q b (.r5 i w z) (.obj q (.row (x.bX tv o hg 15 a1 a2 a3 a4 a5 a6 (.ptr qm 0) a8 a9 a10 a11 a12 i w b 0 false))::lm)
 |r6 {z}{i w e:Int}{lm}{qm:Nat}{w2:Int}{a1 a2 a4 a5 a6 a7 a8 a9 a10 a11 a12}(bK:o.k=1)(he:e≠0)(h:lU x.j i qm z lm)(ho:z.over=false):bM x o tv hg q b (.r6 i w e z) (.obj q (.row (x.bX tv o hg 113 a1 a2 (.ptr qm 0) a4 a5 a6 a7 a8 a9 a10 a11 a12 i w2 b e false))::lm)
 |t1 {z lm}{qm:Nat}{i w:Int}{a1 a2 a3 a4 a5 a6 a7 a9 a10 a11 a12}(bK:o.k=2)(hh:hg=o.high)(h:iN (x.ring o.c) qm z lm)(ho:z.over=false):bM x o tv hg q b (.t1 z) (.obj q (.row (x.bX tv o hg 21 a1 a2 a3 a4 a5 a6 a7 (.ptr qm 0) a9 a10 a11 a12 i w b 0 false))::lm)
 |t2 {z}{i hd:Int}{lm}{qm qf:Nat}{w fv fe:Int}{a1 a2 a3 a4 a5 a7 a9 a10 a11 a12}(bK:o.k=2)(hh:hg=o.high)(zP:Me.ar hd)(hi:0≤i∧i<x.j.f.size)(h:jS x.j i qm z lm)(ho:z.over=false):bM x o tv hg q b (.t2 i hd z) (.obj q (.row (x.bX tv o hg 22 a1 a2 a3 a4 a5 (.ptr qm 0) a7 (.ptr qf 0) a9 a10 a11 a12 i w b 0 false))::.obj qf (.row (Rn.cs (x.ring o.c)++[I 9,U hd,I fv,I fe]))::lm)
 |t3 {z}{i hd w:Int}{lm}{qm qf:Nat}{fv fe:Int}{a1 a2 a3 a5 a6 a7 a9 a10 a11 a12}(bK:o.k=2)(hh:hg=o.high)(zP:Me.ar hd)(hi:0≤i∧i<x.j.f.size)(cV:Me.ar w∧¬bU w)(h:iE x.j i 2 3 0 qm z lm)(ho:z.over=false):bM x o tv hg q b (.t3 i hd w z) (.obj q (.row (x.bX tv o hg 23 a1 a2 a3 (.ptr qm 0) a5 a6 a7 (.ptr qf 0) a9 a10 a11 a12 i w b 0 false))::.obj qf (.row (Rn.cs (x.ring o.c)++[I 9,U hd,I fv,I fe]))::lm)
 |t4 {z}{i hd w:Int}{bp:Int}{lm}{qm qf:Nat}{fv fe:Int}{a1 a2 a3 a4 a5 a6 a7 a9 a11 a12}(bK:o.k=2)(hh:hg=o.high)(zP:Me.ar hd)(hi:0≤i∧i<x.j.f.size)(cV:Me.ar w∧¬bU w)(h:gz x.t o.c w i o.high qm bp z lm)(ho:z.over=false):bM x o tv hg q b (.t4 i hd w z) (.obj q (.row (x.bX tv o hg 24 a1 a2 a3 a4 a5 a6 a7 (.ptr qf 0) a9 (.ptr qm 0) a11 a12 i w b 0 false))::.obj qf (.row (Rn.cs (x.ring o.c)++[I 9,U hd,I fv,I fe]))::lm)
 |t5 {z}{i w e:Int}{lm}{qm:Nat}{w2:Int}{a1 a2 a3 a5 a6 a7 a8 a9 a10 a11 a12}(bK:o.k=2)(he:e≠0)(h:iE x.j i 3 2 0 qm z lm)(ho:z.over=false):bM x o tv hg q b (.t5 i w e z) (.obj q (.row (x.bX tv o hg 124 a1 a2 a3 (.ptr qm 0) a5 a6 a7 a8 a9 a10 a11 a12 i w2 b e false))::lm)
 |t6 {z}{i hd w:Int}{lm}{qm:Nat}{a1 a2 a3 a4 a5 a6 a7 a8 a10 a11 a12}(bK:o.k=2)(h:oR (x.ring o.c) hd qm z lm)(ho:z.over=false):bM x o tv hg q b (.t6 i hd w z) (.obj q (.row (x.bX tv o hg 25 a1 a2 a3 a4 a5 a6 a7 a8 (.ptr qm 0) a10 a11 a12 i w b 0 false))::lm)
 |oN {z}{i w:Int}{bp:Int}{lm}{qm:Nat}{a1 a2 a3 a4 a5 a6 a7 a8 a9 a10 a11}(h:iG x.t x.r o.c qm bp z lm)(ho:z.over=false):bM x o tv hg q b (.oN i w z) (.obj q (.row (x.bX tv o hg 26 a1 a2 a3 a4 a5 a6 a7 a8 a9 a10 a11 (.ptr qm 0) i w b 0 false))::lm)
 |p1 {i w:Int} {a1 a2 a3 a4 a5 a6 a7 a8 a9 a10 a11 a12} (bK:o.k=3):bM x o tv hg q b (.p1) [.obj q (.row (x.bX tv o hg 31 a1 a2 a3 a4 a5 a6 a7 a8 a9 a10 a11 a12 i w b 0 false))]
 |p2 {z}{bp:Int}{lm}{qm:Nat}{i w:Int}{a1 a2 a3 a4 a5 a6 a7 a8 a9 a10 a12}(bK:1≤o.k∧o.k≤5)(h:jv x.t o.c false qm bp z lm)(ho:z.over=false):bM x o tv hg q b (.p2 z) (.obj q (.row (x.bX tv o hg 32 a1 a2 a3 a4 a5 a6 a7 a8 a9 a10 (.ptr qm 0) a12 i w b 0 false))::lm)
 |p3 {z}{i w:Int}{lm}{qm:Nat}{a1 a2 a3 a5 a6 a7 a8 a9 a10 a11 a12}(hi:0≤i∧i<x.j.f.size)(h:iE x.j i 3 4 o.c qm z lm)(ho:z.over=false):bM x o tv hg q b (.p3 i w z) (.obj q (.row (x.bX tv o hg 33 a1 a2 a3 (.ptr qm 0) a5 a6 a7 a8 a9 a10 a11 a12 i w b 0 false))::lm)
 |p4 {i w:Int}{a1 a2 a3 a4 a5 a6 a7 a8 a9 a10 a11 a12}(hi:0≤i∧i<x.j.f.size):bM x o tv hg q b (.p4 i w) [.obj q (.row (x.bX tv o hg 34 a1 a2 a3 a4 a5 a6 a7 a8 a9 a10 a11 a12 i w b 0 false))]
 |p5 {i w:Int}{a1 a2 a3 a4 a5 a6 a7 a8 a9 a10 a11 a12}:bM x o tv hg q b (.p5 i w) [.obj q (.row (x.bX tv o hg 35 a1 a2 a3 a4 a5 a6 a7 a8 a9 a10 a11 a12 i w b 0 false))]
 |s1 {i w:Int} {a1 a2 a3 a4 a5 a6 a7 a8 a9 a10 a11 a12} (bK:o.k=4) (hh:hg=o.high):bM x o tv hg q b (.s1) [.obj q (.row (x.bX tv o hg 41 a1 a2 a3 a4 a5 a6 a7 a8 a9 a10 a11 a12 i w b 0 false))]
 |s2 {i w:Int} {a1 a2 a3 a4 a5 a6 a7 a8 a9 a10 a11 a12} (bK:o.k=4) (hh:hg=o.high):bM x o tv hg q b (.s2) [.obj q (.row (x.bX tv o hg 42 a1 a2 a3 a4 a5 a6 a7 a8 a9 a10 a11 a12 i w b 0 false))]
 |s3 {i w:Int} {a1 a2 a3 a4 a5 a6 a7 a8 a9 a10 a11 a12} (bK:o.k=4) (hh:hg=o.high):bM x o tv hg q b (.s3) [.obj q (.row (x.bX tv o hg 43 a1 a2 a3 a4 a5 a6 a7 a8 a9 a10 a11 a12 i w b 0 false))]
 |s4 {z}{i:Int}{lm}{qm:Nat}{w:Int}{a1 a2 a3 a4 a5 a7 a8 a9 a10 a11 a12}(bK:o.k=4)(hh:hg=o.high)(hi:0≤i∧i<x.j.f.size)(h:jS x.j i qm z lm)(ho:z.over=false):bM x o tv hg q b (.s4 i z) (.obj q (.row (x.bX tv o hg 44 a1 a2 a3 a4 a5 (.ptr qm 0) a7 a8 a9 a10 a11 a12 i w b 0 false))::lm)
 |s5 {z}{i w:Int}{lm}{qm:Nat}{a1 a2 a3 a5 a6 a7 a8 a9 a10 a11 a12}(bK:o.k=4)(hh:hg=o.high)(hi:0≤i∧i<x.j.f.size)(cV:Me.ar w∧¬bU w)(h:iE x.j i 4 3 o.c qm z lm)(ho:z.over=false):bM x o tv hg q b (.s5 i w z) (.obj q (.row (x.bX tv o hg 45 a1 a2 a3 (.ptr qm 0) a5 a6 a7 a8 a9 a10 a11 a12 i w b 0 false))::lm)
 |s6 {i w:Int}{a1 a2 a3 a4 a5 a6 a7 a8 a9 a10 a11 a12}(bK:o.k=4)(hh:hg=o.high)(hi:0≤i∧i<x.j.f.size)(cV:Me.ar w∧¬bU w):bM x o tv hg q b (.s6 i w) [.obj q (.row (x.bX tv o hg 46 a1 a2 a3 a4 a5 a6 a7 a8 a9 a10 a11 a12 i w b 0 false))]
 |s7 {z}{i w:Int}{lm}{qm:Nat}{a1 a2 a3 a4 a6 a7 a8 a9 a10 a11 a12}(bK:o.k=4)(hh:hg=o.high)(hi:0≤i∧i<x.j.f.size)(cV:Me.ar w∧¬bU w)(h:rH x.j i ((w+1)%18446744073709551616) qm z lm)(ho:z.over=false):bM x o tv hg q b (.s7 i w z) (.obj q (.row (x.bX tv o hg 47 a1 a2 a3 a4 (.ptr qm 0) a6 a7 a8 a9 a10 a11 a12 i w b 0 false))::lm)
 |s8 {z}{i w:Int}{bp:Int}{lm}{qm:Nat}{a1 a2 a3 a4 a5 a6 a7 a8 a9 a11 a12}(bK:o.k=4)(hh:hg=o.high)(hi:0≤i∧i<x.j.f.size)(cV:Me.ar w∧¬bU w)(h:gz x.t o.c ((w+1)%18446744073709551616) i o.high qm bp z lm)(ho:z.over=false):bM x o tv hg q b (.s8 i w z) (.obj q (.row (x.bX tv o hg 48 a1 a2 a3 a4 a5 a6 a7 a8 a9 (.ptr qm 0) a11 a12 i w b 0 false))::lm)
 |s9 {i w:Int}{a1 a2 a3 a4 a5 a6 a7 a8 a9 a10 a11 a12}(bK:o.k=4):bM x o tv hg q b (.s9 i w) [.obj q (.row (x.bX tv o hg 49 a1 a2 a3 a4 a5 a6 a7 a8 a9 a10 a11 a12 i w b 0 false))]
 |b1 {z}{i w e:Int}{lm}{qm:Nat}{a1 a2 a3 a4 a6 a7 a8 a9 a10 a11 a12}(bK:o.k=4)(hi:0≤i∧i<x.j.f.size)(he:e≠0)(h:rH x.j i w qm z lm)(ho:z.over=false):bM x o tv hg q b (.b1 i w e z) (.obj q (.row (x.bX tv o hg 148 a1 a2 a3 a4 (.ptr qm 0) a6 a7 a8 a9 a10 a11 a12 i w b e false))::lm)
 |b2 {z}{i w e:Int}{lm}{qm:Nat}{a1 a2 a3 a5 a6 a7 a8 a9 a10 a11 a12}(bK:o.k=4)(he:e≠0)(h:iE x.j i 3 4 o.c qm z lm)(ho:z.over=false):bM x o tv hg q b (.b2 i w e z) (.obj q (.row (x.bX tv o hg 149 a1 a2 a3 (.ptr qm 0) a5 a6 a7 a8 a9 a10 a11 a12 i w b e false))::lm)
 |b3 {i w e:Int}{a1 a2 a3 a4 a5 a6 a7 a8 a9 a10 a11 a12}(bK:o.k=4)(he:e≠0):bM x o tv hg q b (.b3 i w e) [.obj q (.row (x.bX tv o hg 150 a1 a2 a3 a4 a5 a6 a7 a8 a9 a10 a11 a12 i w b e false))]
 |b4 {i w e:Int}{a1 a2 a3 a4 a5 a6 a7 a8 a9 a10 a11 a12}(bK:o.k=4)(he:e≠0):bM x o tv hg q b (.b4 i w e) [.obj q (.row (x.bX tv o hg 151 a1 a2 a3 a4 a5 a6 a7 a8 a9 a10 a11 a12 i w b e false))]
 |c1 {i w:Int} {a1 a2 a3 a4 a5 a6 a7 a8 a9 a10 a11 a12} (bK:o.k=5):bM x o tv hg q b (.c1) [.obj q (.row (x.bX tv o hg 51 a1 a2 a3 a4 a5 a6 a7 a8 a9 a10 a11 a12 i w b 0 false))]
 |c2 {z}{i:Int}{lm}{qm:Nat}{w:Int}{a1 a2 a3 a4 a5 a7 a8 a9 a10 a11 a12}(bK:o.k=5)(hi:0≤i∧i<x.j.f.size)(h:jS x.j i qm z lm)(ho:z.over=false):bM x o tv hg q b (.c2 i z) (.obj q (.row (x.bX tv o hg 52 a1 a2 a3 a4 a5 (.ptr qm 0) a7 a8 a9 a10 a11 a12 i w b 0 false))::lm)
 |c3 {z}{i w:Int}{lm}{qm:Nat}{a1 a2 a3 a5 a6 a7 a8 a9 a10 a11 a12}(bK:o.k=5)(hi:0≤i∧i<x.j.f.size)(h:iE x.j i 4 5 o.c qm z lm)(ho:z.over=false):bM x o tv hg q b (.c3 i w z) (.obj q (.row (x.bX tv o hg 53 a1 a2 a3 (.ptr qm 0) a5 a6 a7 a8 a9 a10 a11 a12 i w b 0 false))::lm)
 |c4 {i w:Int}{a1 a2 a3 a4 a5 a6 a7 a8 a9 a10 a11 a12}(bK:o.k=5)(hi:0≤i∧i<x.j.f.size):bM x o tv hg q b (.c4 i w) [.obj q (.row (x.bX tv o hg 54 a1 a2 a3 a4 a5 a6 a7 a8 a9 a10 a11 a12 i w b 0 false))]
 |c5 {i w:Int}{a1 a2 a3 a4 a5 a6 a7 a8 a9 a10 a11 a12}(bK:o.k=5)(hi:0≤i∧i<x.j.f.size):bM x o tv hg q b (.c5 i w) [.obj q (.row (x.bX tv o hg 55 a1 a2 a3 a4 a5 a6 a7 a8 a9 a10 a11 a12 i w b 0 false))]
 |c6 {z}{i w:Int}{lm}{qm:Nat}{a1 a2 a4 a5 a6 a7 a8 a9 a10 a11 a12}(bK:o.k=5)(h:lU x.j i qm z lm)(ho:z.over=false):bM x o tv hg q b (.c6 i w z) (.obj q (.row (x.bX tv o hg 56 a1 a2 (.ptr qm 0) a4 a5 a6 a7 a8 a9 a10 a11 a12 i w b 0 false))::lm)
 |d {i w e i' w':Int}{n:Bool}{a1 a2 a3 a4 a5 a6 a7 a8 a9 a10 a11 a12}(hw:e=0→n=false→i'=i∧w'=w):bM x o tv hg q b (.d i w e n) [.obj q (.row (x.bX tv o hg 99 a1 a2 a3 a4 a5 a6 a7 a8 a9 a10 a11 a12 i' w' b e n))]
theorem Vx.XH {M own ro Φ K v z L c}{es f:Nat}{i:Int}{k}(hv:aQ.sl v es L∈ro)(hi:0≤i)(hc:L[i.toNat]?=some c)(hz:c[f]?=some z)(h:Zx M false (k z) K own ro Φ):Vx M (.op (.fu es v (I i)) fun p=>.op (.nN f p) fun p=>.op (.load 1 false p) k) K own ro Φ:=fun B W S H=>by
 have e:I i=I (i.toNat:Int):=by rw[Int.toNat_of_nonneg hi]
 rw[e]
 obtain⟨id,off,h1,h2,h3⟩:=qF (M:=M) (H.rh _ hv) hc
 refine ae h1 ?_
 refine dh ?_
 obtain⟨d,g1,g2⟩:=tG (j:=f) h2 hz
 exact ae (jI g1 g2) (h.ok B W S H)
theorem eH {o1 own:List Own}(e:o1=own:=by conv=>lhs;simp only[Xc.bX,Xc.cs,Tw.cs,Lb.cs,Ar.cs,Ep.cs,Rn.cs,lA,lB,lC]):o1=own:=e
abbrev DQ (x:Xc)(o:Od)(tv:AV)(hg:Int)(q:Nat)(b:Int)(m:Nat)(vm:AV)(y:Me)(s:av):Prop:=∀{B0 S:AH}{W:List Nat}{R l:List Own}{ro:List aQ},x.ok→o.ok x→y.gd→bM x o tv hg q b s l→Cx B0 W S (l++(aj m vm y++R)) ro→aO EM (zF 21) [.ptr q 0,.ptr m 0] S fun u S'=>∃ab,eD (bM x o tv hg q (av.cz x o s)) av.over (av.step x o s y) (aj m vm) R u ab∧Cx B0 W S' ab ro
end
section
open av
section
variable{B0 S:AH}{W:List Nat}{R l:List Own}{ro:List aQ}{m q:Nat}{vm tv:AV}{y:Me}{x:Xc}{o:Od}{b hg:Int}
theorem LD {z}:DQ x o tv hg q b m vm y (.r1 z):=by
 intro B0 S W R l ro hx hk hy h H
 obtain⟨dD,cG,eu,eO,eL,eP,bq,da,eQ,eY,dX,eM,ml,lQ⟩:=aK hx hk
 cases h with
 |@r1 z lm qm i w a2 a3 a4 a5 a6 a7 a8 a9 a10 a11 a12 bK h ho=>
 refine Vx.fm H eH (b:=Tryz.a21) ?_;(repeat' first|constructor|exact ZQ|intro _);all_goals apply zL
 refine Vx.fz (A:=[_]) (fun B W S H=>Dj ⟨by have:=bq bK;omega,by have:=bq bK;omega⟩ hy h H) fun a' x' l' e1 hl=>?_
 have e2:av.step x o (.r1 z) y=(pL x o a',x'):=by
  show(pL x o _,_)=_
  rw[e1]
 cases ho:a'.over
 ·(repeat' first|constructor|exact ZQ|intro _)
  all_goals apply zL
  have e3:av.step x o (.r1 z) y=(av.r1 a',x'):=e2.trans (Prod.ext (by cases a'<;>first|rfl|cases ho) rfl)
  exact aa e3 (.r1 bK hl ho) rfl HQ
 ·cases hl with
  |@d w2 er=>
   (repeat' first|constructor|exact ZQ|intro _)
   all_goals apply zL
   ·have e3:pL x o (.d er)=.d 0 0 er false:=if_neg (by omega)
    exact aa (e2.trans (Prod.ext e3 rfl)) (.d (fun h=>absurd h (by omega))) rfl HQ
   ·have e3:pL x o (.d er)=.r2 (.p .a):=if_pos (by omega)
    exact aa (e2.trans (Prod.ext e3 rfl)) (.r2 (lm:=_::[_]) bK (.p .a rfl) rfl) rfl HQ
  |_=>cases ho
theorem LF {z}:DQ x o tv hg q b m vm y (.r2 z):=by
 intro B0 S W R l ro hx hk hy h H
 obtain⟨dD,cG,eu,eO,eL,eP,bq,da,eQ,eY,dX,eM,ml,lQ⟩:=aK hx hk
 cases h with
 |@r2 z lm qm i w a1 a3 a4 a5 a6 a7 a8 a9 a10 a11 a12 bK h ho=>
 refine Vx.fm H eH (b:=Tryz.a21) ?_;(repeat' first|constructor|exact ZQ|intro _);all_goals apply zL
 refine Vx.fz (A:=[_]) (fun B W S H=>Dk cG hy h H) fun a' x' l' e1 hl=>?_
 have e2:av.step x o (.r2 z) y=(pM x o a',x'):=by
  show(pM x o _,_)=_
  rw[e1]
 cases ho:a'.over
 ·(repeat' first|constructor|exact ZQ|intro _)
  all_goals apply zL
  have e3:av.step x o (.r2 z) y=(av.r2 a',x'):=e2.trans (Prod.ext (by cases a'<;>first|rfl|cases ho) rfl)
  exact aa e3 (.r2 bK hl ho) rfl HQ
 ·cases hl with
  |@d i2 w2 pp uX=>
   (repeat' first|constructor|exact ZQ|intro _)
   all_goals apply zL
   all_goals exact aa (e2.trans (Prod.ext (show pM x o (.d i2 0)=.r3 i2 from rfl) rfl)) (.r3 bK uX) rfl HQ
  |@n i2 w2 pp=>
   (repeat' first|constructor|exact ZQ|intro _)
   all_goals apply zL
   all_goals exact aa (e2.trans (Prod.ext (show pM x o (.d 0 7)=.d 0 0 7 false from rfl) rfl)) (.d (fun h=>absurd h (by decide))) rfl HQ
  |_=>cases ho
theorem LG {i:Int}(hx:x.ok)(hk:o.ok x)(hy:y.gd)(ht:∃(L:List (List AV)) (c:List AV),aQ.sl tv 4 L∈ro∧L[o.tk.toNat]?=some c∧c[1]?=some (I o.prio))(h:bM x o tv hg q b (.r3 i) l)(H:Cx B0 W S (l++(aj m vm y++R)) ro):
  aO EM (zF 21) [.ptr q 0,.ptr m 0] S fun u S'=>∃ab,eD (bM x o tv hg q (av.cz x o (.r3 i))) av.over (av.step x o (.r3 i) y) (aj m vm) R u ab∧Cx B0 W S' ab ro:=by
 obtain⟨dD,cG,eu,eO,eL,eP,bq,da,eQ,eY,dX,eM,ml,lQ⟩:=aK hx hk
 cases h with
 |@r3 i w a1 a2 a3 a4 a5 a6 a7 a8 a9 a10 a11 a12 bK hi=>
 refine Vx.fm H eH (b:=Tryz.a21) ?_;(repeat' first|constructor|exact ZQ|intro _);all_goals apply zL
 all_goals
  have e2:av.step x o (.r3 i) y=(if(y.add x.seq 1).new<1∨1099511627775<(y.add x.seq 1).new then .r6 i 0 12 .l else .r4 i (jM o.prio (y.add x.seq 1).new) .a,y.add x.seq 1):=by
   show(if _ then av.r6 i 0 12 (dm.new x.j i) else .r4 i _ (bO.new x.j i),_)=_
   rw[dm.db hi,bO.db hi]
 ·exact aa (e2.trans (Prod.ext (if_pos (by omega)) rfl)) (.r6 (lm:=[_,_]) bK (by decide) (.l hi) rfl) rfl HQ
 ·exact aa (e2.trans (Prod.ext (if_pos (by omega)) rfl)) (.r6 (lm:=[_,_]) bK (by decide) (.l hi) rfl) rfl HQ
 ·obtain⟨L,c,h1,h2,h3⟩:=ht
  have hp:=bq bK
  refine Vx.XH h1 hp.1.1 h2 h3 ?_
  (repeat' first|constructor|exact ZQ|intro _)
  all_goals apply zL
  exact aa (e2.trans (Prod.ext (if_neg (by omega)) rfl)) (.r4 (lm:=[_]) bK hi (.a hi) rfl) rfl HQ
theorem LH {z}{i w:Int}:DQ x o tv hg q b m vm y (.r4 i w z):=by
 intro B0 S W R l ro hx hk hy h H
 obtain⟨dD,cG,eu,eO,eL,eP,bq,da,eQ,eY,dX,eM,ml,lQ⟩:=aK hx hk
 cases h with
 |@r4 z i w lm qm a1 a2 a3 a4 a6 a7 a8 a9 a10 a11 a12 bK hi h ho=>
 refine Vx.fm H eH (b:=Tryz.a21) ?_;(repeat' first|constructor|exact ZQ|intro _);all_goals apply zL
 refine Vx.fz (A:=[_]) (fun B W S H=>uc cG hy h H) fun a' x' l' e1 hl=>?_
 have e2:av.step x o (.r4 i w z) y=(if a'.over then av.r5 i w .a else .r4 i w a',x'):=by
  show(if _ then _ else _,_)=_
  rw[e1]
 cases ho:a'.over
 ·(repeat' first|constructor|exact ZQ|intro _)
  all_goals apply zL
  have e3:av.step x o (.r4 i w z) y=(av.r4 i w a',x'):=e2.trans (Prod.ext (if_neg (by rw[ho];simp)) rfl)
  exact aa e3 (.r4 bK hi hl ho) rfl HQ
 ·(repeat' first|constructor|exact ZQ|intro _)
  all_goals apply zL
  ·exact⟨by omega,⟨Int.emod_nonneg _ (by omega),Int.emod_lt_of_pos _ (by omega)⟩,by omega⟩
  next p l' hS=>exact aa (e2.trans (Prod.ext (if_pos ho) rfl)) (.r5 bK hi (show lV (x.ring (o.tk%x.aH)) i p .a l' from hS) rfl) rfl HQ
theorem LI {z}{i w:Int}:DQ x o tv hg q b m vm y (.r5 i w z):=by
 intro B0 S W R l ro hx hk hy h H
 obtain⟨dD,cG,eu,eO,eL,eP,bq,da,eQ,eY,dX,eM,ml,lQ⟩:=aK hx hk
 cases h with
 |@r5 z i w lm qm a1 a2 a3 a4 a5 a6 a8 a9 a10 a11 a12 bK hi h ho=>
 refine Vx.fm H eH (b:=Tryz.a21) ?_;(repeat' first|constructor|exact ZQ|intro _);all_goals apply zL
 refine Vx.fz (A:=[_]) (fun B W S H=>Dm (AW hx (by have:=bq bK;exact Int.emod_nonneg _ (by omega)) (by have:=Int.emod_lt_of_pos o.tk (show 0<x.aH by omega);omega)) hy h H) fun a' x' l' e1 hl=>?_
 have e2:av.step x o (.r5 i w z) y=(pN x o i w a',x'):=by
  show(pN x o i w _,_)=_
  rw[e1]
 cases ho:a'.over
 ·(repeat' first|constructor|exact ZQ|intro _)
  all_goals apply zL
  have e3:av.step x o (.r5 i w z) y=(av.r5 i w a',x'):=e2.trans (Prod.ext (by cases a'<;>first|rfl|cases ho) rfl)
  exact aa e3 (.r5 bK hi hl ho) rfl HQ
 ·cases hl with
  |s _ h3=>rw[h3] at ho;cases ho
  |@d er pp=>
   (repeat' first|constructor|exact ZQ|intro _)
   all_goals apply zL
   ·have e3:pN x o i w (.d er)=.r6 i w er .l:=by
     show(if er=0 then _ else av.r6 i w er (dm.new x.j i))=_
     rw[if_neg (by omega),dm.db hi]
    exact aa (e2.trans (Prod.ext e3 rfl)) (.r6 (lm:=[_,_]) bK (by omega) (.l hi) rfl) rfl HQ
   ·have e3:pN x o i w (.d er)=.d i w 0 false:=if_pos (by omega)
    exact aa (e2.trans (Prod.ext e3 rfl)) (.d (fun _ _=>⟨rfl,rfl⟩)) rfl HQ
theorem LJ {z}{i w e:Int}:DQ x o tv hg q b m vm y (.r6 i w e z):=by
 intro B0 S W R l ro hx hk hy h H
 obtain⟨dD,cG,eu,eO,eL,eP,bq,da,eQ,eY,dX,eM,ml,lQ⟩:=aK hx hk
 cases h with
 |@r6 z i w e lm qm w2 a1 a2 a4 a5 a6 a7 a8 a9 a10 a11 a12 bK he h ho=>
 refine Vx.fm H eH (b:=Tryz.a21) ?_;(repeat' first|constructor|exact ZQ|intro _);all_goals apply zL
 refine Vx.fz (A:=[_]) (fun B W S H=>wx cG hy h H) fun a' x' l' e1 hl=>?_
 have e2:av.step x o (.r6 i w e z) y=(if a'.over then av.d i w e false else .r6 i w e a',x'):=by
  show(if _ then _ else _,_)=_
  rw[e1]
 cases ho:a'.over
 ·(repeat' first|constructor|exact ZQ|intro _)
  all_goals apply zL
  have e3:av.step x o (.r6 i w e z) y=(av.r6 i w e a',x'):=e2.trans (Prod.ext (if_neg (by rw[ho];simp)) rfl)
  exact aa e3 (.r6 bK he hl ho) rfl HQ
 ·(repeat' first|constructor|exact ZQ|intro _)
  all_goals apply zL
  all_goals first|(exfalso;omega)|exact aa (e2.trans (Prod.ext (if_pos ho) rfl)) (.d (fun h=>absurd h he)) rfl HQ
end
end
end Go.cY
