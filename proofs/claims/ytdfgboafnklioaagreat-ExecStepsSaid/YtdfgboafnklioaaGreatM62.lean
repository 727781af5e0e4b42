/- Contracts. Conditions: in each theorem. -/
import Derived.Test.YtdfgboafnklioaaGreatM61
set_option linter.all false
set_option maxRecDepth 100000
set_option maxHeartbeats 4000000
namespace Go.cG
open Go.Proofs
theorem Ph:eL EM.P 2 184=some [some .i64,some .u64]:=by kernel_rfl
theorem TT:EM.P.eqGuardType EM.P.depth 184=false:=by kernel_rfl
theorem TU:l9 EM.P 184=true:=by kernel_rfl
theorem Vx.TV {own ro Φ K}{a b c d:Int}{k}(h1:a=c)(h2:b=d)(h:Zx EM false (k (B true)) K own ro Φ):Vx EM (.op (.eq 184 false (.agg [I a,U b]) (.agg [I c,U d])) k) K own ro Φ:=by subst h1 h2;exact λB W S H=>EP (vs:=[.int .i64 a,.int .u64 b]) Ph am TU TT rfl (h.ok B W S H)
def aG.err:aG->Int|.d _ _ e _=>e|_=>14
theorem ft.busy {x o}{q:Nat}{b:Int}{σ l}(h:ft x o q b σ l)(ho:σ.over=false):∃(sv uv:AV) (i key aw e:Int) (L:List (List AV)) (c:List AV) (r:List Own),l=.obj q (.row (x.row o.k o.c sv uv i key aw false b e))::.sl sv 1 (L++[c])::r:=by
 cases h<;>first|(cases ho;done)|exact⟨_,_,_,_,_,_,_,_,_,rfl⟩
theorem cd.busy {x o tv}{hg:Int}{q:Nat}{b:Int}{σ l}(h:cd x o tv hg q b σ l)(ho:σ.over=false):∃(ln:Int) (a1 a2 a3 a4 a5 a6 a7 a8 a9 a10 a11 a12:AV) (i w e:Int) (n:Bool) (r:List Own),ln≠99/\l=.obj q (.row (x.cA tv o hg ln a1 a2 a3 a4 a5 a6 a7 a8 a9 a10 a11 a12 i w b e n))::r:=by
 cases h<;>first|(cases ho;done)|exact⟨_,_,_,_,_,_,_,_,_,_,_,_,_,_,_,_,_,_,ce,rfl⟩
instance aco {n:Nat}[Mn n [102,104,105,107,103,47,106,108]]:cK n where
section
variable{B0 S:AH}{W:List Nat}{R l l':List Own}{ro:List aI}{x:Xc}{o:Od}{tv:AV}{hg b:Int}{q q':Nat}{σ:aG}
theorem Bh (hk:o.k≠0)(h:ft x o q b σ l)(h':cd x o tv hg q' b σ l')(H:Cx B0 W S (l++(l'++R)) ro):
  aN EM (zF 22) [.agg [.ptr q 0,.ptr q' 0]] S λu S'=>∃ab,(u=B true/\ab=l++(l'++R))/\Cx B0 W S' ab ro:=by
 cases ho:σ.over with
 |false=>
  obtain⟨sv,uv,i,key,aw,e,L,c,r,rfl⟩:=h.busy ho;obtain⟨ln,a1,a2,a3,a4,a5,a6,a7,a8,a9,a10,a11,a12,i',w,e',n,r',N3,rfl⟩:=h'.busy ho;simp only[Xc.row,Xc.cA,Xc.cs,Tw.cs,Lb.cs,Ar.cs,Ep.cs,lA,lB,lC] at H⊢;refine y3 H rfl ?_ ?_ ?_<;>intros
  all_goals first
   |(exfalso;simp only[Int.ofNat_eq_natCast,List.length_append,List.length_cons,List.length_nil] at*;omega)
   |skip
  refine Vx.TV rfl rfl ?_;refine z1 ?_;intros;all_goals first
   |(exfalso;simp only[Int.ofNat_eq_natCast,List.length_append,List.length_cons,List.length_nil] at*;omega)
   |exact⟨rfl,rfl,_,⟨rfl,rfl⟩,HQ⟩
 |true=>
  cases h<;>first|(cases ho;done)|skip
  case d i w e i1 key aw n sv uv ga hs hw=>
  cases h' with
  |@d _ _ _ i2 w2 _ a1 a2 a3 a4 a5 a6 a7 a8 a9 a10 a11 a12 dL=>
  have hn:e=0->n=false->i2=i1/\w2=key:=λh1 h2=>⟨(dL h1 h2).1.trans (hw h1 h2).1.symm,(dL h1 h2).2.trans (hw h1 h2).2.symm⟩
  cases hs<;>(
   simp only[Xc.row,Xc.cA,Xc.cs,Tw.cs,Lb.cs,Ar.cs,Ep.cs,lA,lB,lC] at H⊢;refine Vx.fm H rfl ?_
   cases n<;>(
    refine z2 ?_ ?_<;>intros
    all_goals(
     refine Vx.TV (by first|rfl|exact(hn am rfl).1.symm) (by first|rfl|exact(hn am rfl).2.symm) ?_;refine z1 ?_;intros;all_goals exact⟨rfl,rfl,_,⟨rfl,rfl⟩,HQ⟩)))
end
def Ac (y y':Me):Prop:=y'=y\/∃k a w h,Me.aC w/\y'=y.acc k a w h
theorem Ac.z {y}:Ac y y:=.inl rfl
theorem Ac.ld {y}{a:Int}(hy:y.gd):Ac y (y.ld a):=.inr ⟨_,_,_,_,Me.aj hy a,rfl⟩
theorem Ac.st {y}{a w:Int}(hw:Me.aC w):Ac y (y.st a w):=.inr ⟨_,_,_,_,hw,rfl⟩
theorem Ac.gY {y}{a o n:Int}(hy:y.gd)(hw:Me.aC n):Ac y (y.gY a o n):=by
 refine .inr ⟨3,a,if y.word a=o then n else y.word a,decide (y.word a=o),?_,rfl⟩;split;.exact hw
 .exact Me.aj hy a
theorem Ac.add {y}{a n:Int}:Ac y (y.add a n):=.inr ⟨_,_,_,_,⟨Int.emod_nonneg _ am,Int.emod_lt_of_pos _ am⟩,rfl⟩
theorem Ac.gd {y y'}(h:Ac y y')(hy:y.gd)(hn:y.n<4611686018427387904):y'.gd/\y'.n<=y.n+1/\y'.ws.length=y.ws.length:=by
 rcases h with rfl|⟨k,a,w,h,hw,rfl⟩;.exact⟨hy,am,rfl⟩
 .exact⟨Me.NP hy hn hw,by rw[Me.HL];omega,Me.yL⟩
theorem CG {i w:Int}(h:-1<=i/\i<4096)(hw:Me.aC w):Me.aC (AD i w):=by
 unfold Me.aC AD at*
 have:=Int.emod_nonneg (w/65536+1) (show(281474976710656:Int)≠0 by omega);have:=Int.emod_lt_of_pos (w/65536+1) (show(0:Int)<281474976710656 by omega);omega
section
variable{l lo:List Own}{q:Nat}{x:Me}
theorem n_ {r:Rn}{t:Int}:0<=r.tC t/\r.tC t<4294967296:=⟨Int.emod_nonneg _ am,Int.emod_lt_of_pos _ am⟩
theorem TW {s c w:Int}(hs:0<=s/\s<256)(hc:0<=c/\c<64)(hw:Me.aC w):Me.aC (jw s c (w/4294967296)):=by unfold Me.aC jw at*;omega
theorem gL.Ms {t:Tw}{T:gL}(h:T.ok t){v:Nat}:Me.aC (T.bh v).cur:=by
 unfold gL.bh;cases h0:T[v]? with
 |none=>show Me.aC 0;unfold Me.aC;omega
 |some s=>exact(h.2 s (List.mem_of_getElem? h0)).2.2
end
def cj.wd:cj->Prop
 |.j _ _ key=>Me.aC key
 |.f _ _ key _ _=>Me.aC key
 |.g _ _ key _=>Me.aC key
 |.w _ key _ _=>Me.aC key
 |.d key _ _=>Me.aC key
 |_=>True
def et.wd:et->Prop
 |.c s=>s.wd
 |.u _ key _ _=>Me.aC key
 |.d key _ _=>Me.aC key
 |_=>True
def aG.wd:aG->Prop
 |.r4 _ w _=>Me.aC w
 |.p2 z=>z.wd
 |.p3 _ w _=>Me.aC w
 |.p4 _ w=>Me.aC w
 |.p5 _ w=>Me.aC w
 |.s5 _ w _=>Me.aC w
 |.s6 _ w=>Me.aC w
 |.s7 _ w _=>Me.aC w
 |.s8 _ w _=>Me.aC w
 |.b1 _ w _ _=>Me.aC w
 |.b2 _ w _ _=>Me.aC w
 |.b3 _ w _=>Me.aC w
 |_=>True
theorem w0:Me.aC 0:=by unfold Me.aC;omega
section
variable{l lo:List Own}{q:Nat}{x:Me}{t:Tw}{look:Bool}
theorem db {α:Type}{P:α->Prop}{c:Prop}[Decidable c]{a b:α}(h1:P a)(h2:P b):P (if c then a else b):=by split<;>assumption
theorem cj.wh {A i:Int}{v:Nat}:(cj.below A i v).wd:=db (P:=cj.wd) trivial trivial
theorem Zh {σ:cj}(hx:x.gd)(h:σ.wd):(σ.step t look x).1.wd:=by
 cases σ with
 |a=>exact db (P:=cj.wd) w0 trivial
 |b=>exact db (P:=cj.wd) trivial (db (P:=cj.wd) trivial trivial)
 |c=>trivial
 |m=>exact cj.wh
 |n=>exact db (P:=cj.wd) cj.wh trivial
 |o=>exact db (P:=cj.wd) cj.wh trivial
 |k=>exact db (P:=cj.wd) trivial trivial
 |h=>exact db (P:=cj.wd) trivial trivial
 |r=>exact Me.aj hx _
 |j=>exact db (P:=cj.wd) h h
 |f=>exact db (P:=cj.wd) h h
 |g=>exact db (P:=cj.wd) h h
 |w=>exact db (P:=cj.wd) h h
 |d=>exact h
theorem Zi {c:Int}{σ:et}(hx:x.gd)(h:σ.wd):(σ.step t c look x).1.wd:=by
 cases σ with
 |p=>exact db (P:=et.wd) trivial trivial
 |c s=>
  have:=Zh (t:=t) (look:=look) hx (show s.wd from h);show(et.kP t c (s.step t look x).1).wd;generalize(s.step t look x).1=s' at this;cases s'<;>exact this
 |u=>exact db (P:=et.wd) h h
 |d=>exact h
end
section
variable{l:List Own}{q:Nat}{y:Me}{x:Xc}{o:Od}{tv:AV}{hg b:Int}
end
end Go.cG
