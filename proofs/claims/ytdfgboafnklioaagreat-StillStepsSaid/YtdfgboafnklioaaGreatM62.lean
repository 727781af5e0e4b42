/- Contracts. Conditions: in each theorem. -/
import Derived.Test.YtdfgboafnklioaaGreatM61
set_option linter.all false
set_option maxRecDepth 100000
set_option maxHeartbeats 4000000
namespace Go.cI
open Go.Proofs
theorem OO:dV EM.P 2 184=some [some .i64,some .u64]:=by kernel_rfl
theorem Tt:EM.P.eqGuardType EM.P.depth 184=false:=by kernel_rfl
theorem Tu:ja EM.P 184=true:=by kernel_rfl
theorem Vx.Tv {own ro Φ K}{a b c d:Int}{k}(h1:a=c)(h2:b=d)(h:Zx EM false (k (B true)) K own ro Φ):Vx EM (.op (.eq 184 false (.agg [I a,U b]) (.agg [I c,U d])) k) K own ro Φ:=by subst h1 h2;exact λB W S H=>rM (vs:=[.int .i64 a,.int .u64 b]) OO am Tu Tt rfl (h.ok B W S H)
def az.err:az->Int|.d _ _ e _=>e|_=>14
theorem dR.busy {x o}{q:Nat}{b:Int}{σ l}(h:dR x o q b σ l)(ho:σ.over=false):∃(sv uv:AV) (i key aw e:Int) (L:List (List AV)) (c:List AV) (r:List Own),l=.obj q (.row (x.row o.k o.c sv uv i key aw false b e))::.sl sv 1 (L++[c])::r:=by
 cases h<;>first|(cases ho;done)|exact⟨_,_,_,_,_,_,_,_,_,rfl⟩
theorem bH.busy {x o tv}{hg:Int}{q:Nat}{b:Int}{σ l}(h:bH x o tv hg q b σ l)(ho:σ.over=false):∃(ln:Int) (a1 a2 a3 a4 a5 a6 a7 a8 a9 a10 a11 a12:AV) (i w e:Int) (n:Bool) (r:List Own),ln≠99/\l=.obj q (.row (x.b7 tv o hg ln a1 a2 a3 a4 a5 a6 a7 a8 a9 a10 a11 a12 i w b e n))::r:=by
 cases h<;>first|(cases ho;done)|exact⟨_,_,_,_,_,_,_,_,_,_,_,_,_,_,_,_,_,_,dl,rfl⟩
instance acm {n:Nat}[Mn n [102,104,105,107,103,47,106,108]]:cA n where
section
variable{B0 S:AH}{W:List Nat}{R l l':List Own}{ro:List aF}{x:Xc}{o:Od}{tv:AV}{hg b:Int}{q q':Nat}{σ:az}
theorem y5 (hk:o.k≠0)(h:dR x o q b σ l)(H:Cx B0 W S (l++R) ro):
  aG EM (zF 104) [.ptr q 0] S λu S'=>∃ab,(u=I σ.err/\ab=l++R)/\Cx B0 W S' ab ro:=by
 cases ho:σ.over with
 |false=>
  obtain⟨sv,uv,i,key,aw,e,L,c,r,rfl⟩:=h.busy ho;have he:σ.err=14:=by cases σ<;>first|rfl|cases ho
  rw[he]
  (
   simp only[Xc.row,Xc.b7,Xc.cs,Tw.cs,Lb.cs,Ar.cs,Ep.cs,lA,lB,lC] at H⊢;refine y2 H rfl ?_ ?_<;>intros
   all_goals first
    |(exfalso;simp only[Int.ofNat_eq_natCast,List.length_append,List.length_cons,List.length_nil] at*;omega)
    |exact⟨rfl,rfl,_,⟨rfl,rfl⟩,HQ⟩)
 |true=>
  cases h<;>first|(cases ho;done)|skip
  case d hs hw=>
  cases hs with
  |n=>(
       simp only[Xc.row,Xc.b7,Xc.cs,Tw.cs,Lb.cs,Ar.cs,Ep.cs,lA,lB,lC] at H⊢;refine y1 H rfl ?_;intros;all_goals first
        |(exfalso;simp only[Int.ofNat_eq_natCast,List.length_append,List.length_cons,List.length_nil] at*;omega)
        |exact⟨rfl,rfl,_,⟨rfl,rfl⟩,HQ⟩)
  |s h1 h2 h3=>(
                simp only[Xc.row,Xc.b7,Xc.cs,Tw.cs,Lb.cs,Ar.cs,Ep.cs,lA,lB,lC] at H⊢;refine y1 H rfl ?_;intros;all_goals first
                 |(exfalso;simp only[Int.ofNat_eq_natCast,List.length_append,List.length_cons,List.length_nil] at*;omega)
                 |exact⟨rfl,rfl,_,⟨rfl,rfl⟩,HQ⟩)
theorem rj (h:bH x o tv hg q b σ l)(H:Cx B0 W S (l++R) ro):
  aG EM (zF 47) [.ptr q 0] S λu S'=>∃ab,(u=I σ.err/\ab=l++R)/\Cx B0 W S' ab ro:=by
 cases ho:σ.over with
 |false=>
  obtain⟨ln,a1,a2,a3,a4,a5,a6,a7,a8,a9,a10,a11,a12,i,w,e,n,r,LS,rfl⟩:=h.busy ho;have he:σ.err=14:=by cases σ<;>first|rfl|cases ho
  rw[he]
  (
   simp only[Xc.row,Xc.b7,Xc.cs,Tw.cs,Lb.cs,Ar.cs,Ep.cs,lA,lB,lC] at H⊢;refine y1 H rfl ?_;intros;all_goals first
    |(exfalso;simp only[Int.ofNat_eq_natCast,List.length_append,List.length_cons,List.length_nil] at*;omega)
    |exact⟨rfl,rfl,_,⟨rfl,rfl⟩,HQ⟩)
 |true=>
  cases h<;>first|(cases ho;done)|skip
  case d hw=>(
              simp only[Xc.row,Xc.b7,Xc.cs,Tw.cs,Lb.cs,Ar.cs,Ep.cs,lA,lB,lC] at H⊢;refine y1 H rfl ?_;all_goals first
               |(exfalso;simp only[Int.ofNat_eq_natCast,List.length_append,List.length_cons,List.length_nil] at*;omega)
               |exact⟨rfl,rfl,_,⟨rfl,rfl⟩,HQ⟩)
theorem Bi (hk:o.k≠0)(h:dR x o q b σ l)(h':bH x o tv hg q' b σ l')(H:Cx B0 W S (l++(l'++R)) ro):
  aG EM (zF 22) [.agg [.ptr q 0,.ptr q' 0]] S λu S'=>∃ab,(u=B true/\ab=l++(l'++R))/\Cx B0 W S' ab ro:=by
 cases ho:σ.over with
 |false=>
  obtain⟨sv,uv,i,key,aw,e,L,c,r,rfl⟩:=h.busy ho;obtain⟨ln,a1,a2,a3,a4,a5,a6,a7,a8,a9,a10,a11,a12,i',w,e',n,r',LS,rfl⟩:=h'.busy ho;simp only[Xc.row,Xc.b7,Xc.cs,Tw.cs,Lb.cs,Ar.cs,Ep.cs,lA,lB,lC] at H⊢;refine y3 H rfl ?_ ?_ ?_<;>intros
  all_goals first
   |(exfalso;simp only[Int.ofNat_eq_natCast,List.length_append,List.length_cons,List.length_nil] at*;omega)
   |skip
  refine Vx.Tv rfl rfl ?_;refine z1 ?_;intros;all_goals first
   |(exfalso;simp only[Int.ofNat_eq_natCast,List.length_append,List.length_cons,List.length_nil] at*;omega)
   |exact⟨rfl,rfl,_,⟨rfl,rfl⟩,HQ⟩
 |true=>
  cases h<;>first|(cases ho;done)|skip
  case d i w e i1 key aw n sv uv fz hs hw=>
  cases h' with
  |@d _ _ _ i2 w2 _ a1 a2 a3 a4 a5 a6 a7 a8 a9 a10 a11 a12 c_=>
  have hn:e=0->n=false->i2=i1/\w2=key:=λh1 h2=>⟨(c_ h1 h2).1.trans (hw h1 h2).1.symm,(c_ h1 h2).2.trans (hw h1 h2).2.symm⟩
  cases hs<;>(
   simp only[Xc.row,Xc.b7,Xc.cs,Tw.cs,Lb.cs,Ar.cs,Ep.cs,lA,lB,lC] at H⊢;refine Vx.fm H rfl ?_
   cases n<;>(
    refine z2 ?_ ?_<;>intros
    all_goals(
     refine Vx.Tv (by first|rfl|exact(hn am rfl).1.symm) (by first|rfl|exact(hn am rfl).2.symm) ?_;refine z1 ?_;intros;all_goals exact⟨rfl,rfl,_,⟨rfl,rfl⟩,HQ⟩)))
end
def Ac (y y':Me):Prop:=y'=y\/∃k a w h,Me.au w/\y'=y.acc k a w h
theorem Ac.z {y}:Ac y y:=.inl rfl
theorem Ac.ld {y}{a:Int}(hy:y.gd):Ac y (y.ld a):=.inr ⟨_,_,_,_,Me.aj hy a,rfl⟩
theorem Ac.st {y}{a w:Int}(hw:Me.au w):Ac y (y.st a w):=.inr ⟨_,_,_,_,hw,rfl⟩
theorem Ac.ez {y}{a o n:Int}(hy:y.gd)(hw:Me.au n):Ac y (y.ez a o n):=by
 refine .inr ⟨3,a,if y.word a=o then n else y.word a,decide (y.word a=o),?_,rfl⟩;split;.exact hw
 .exact Me.aj hy a
theorem Ac.add {y}{a n:Int}:Ac y (y.add a n):=.inr ⟨_,_,_,_,⟨Int.emod_nonneg _ am,Int.emod_lt_of_pos _ am⟩,rfl⟩
theorem Ac.gd {y y'}(h:Ac y y')(hy:y.gd)(hn:y.n<4611686018427387904):y'.gd/\y'.n<=y.n+1/\y'.ws.length=y.ws.length:=by
 rcases h with rfl|⟨k,a,w,h,hw,rfl⟩;.exact⟨hy,am,rfl⟩
 .exact⟨Me.Nn hy hn hw,by rw[Me.Hh];omega,Me.yy⟩
theorem r_ {i w:Int}(h:-1<=i/\i<4096)(hw:Me.au w):Me.au (AF i w):=by
 unfold Me.au AF at*
 have:=Int.emod_nonneg (w/65536+1) (show(281474976710656:Int)≠0 by omega);have:=Int.emod_lt_of_pos (w/65536+1) (show(0:Int)<281474976710656 by omega);omega
section
variable{l lo:List Own}{q:Nat}{x:Me}
theorem L5 {s σ}(hs:s.ok)(hx:x.gd)(h:qV s q σ l):Ac x (σ.step s x).2:=by
 unfold Sk.ok at hs;cases h with
 |a=>exact .ld hx
 |b=>exact .ld hx
 |c hw hi hj=>exact .ez hx (r_ am hw)
 |d=>exact .z
theorem CG {s}{v:Int}{σ}(hs:s.ok)(hx:x.gd)(h:iM s v q σ l):Ac x (σ.step s v x).2:=by
 unfold Sk.ok at hs;cases h with
 |a=>exact .ld hx
 |@b w hv hw=>exact .st (by have:=fk (n:=s.size) (w:=w) am;unfold Me.au;omega)
 |c hv hw=>exact .ez hx (r_ am hw)
 |d=>exact .z
theorem Tx {s σ}(hs:s.ok)(hx:x.gd)(h:sN s q σ l):Ac x (σ.step s x).2:=by
 unfold Sk.ok at hs;cases h with
 |a=>exact .ld hx
 |b hw hi=>exact .ez hx (r_ am hw)
 |d=>exact .z
theorem Kx {a σ}(hs:a.ok)(hx:x.gd)(h:gr a q σ l):Ac x (σ.step a x).2:=by
 cases h with
 |p h ho=>exact L5 hs.1 hx h
 |g=>exact .ld hx
 |w=>exact .ld hx
 |d=>exact .z
theorem OP {a}{v:Int}{σ}(hs:a.ok)(hx:x.gd)(h:mn a v q σ l):Ac x (σ.step a v x).2:=by
 cases h with
 |l=>exact .ld hx
 |r=>exact .st (by unfold Me.au;omega)
 |u hv h ho=>exact CG hs.1 hx h
 |w=>exact .add
 |d=>exact .z
theorem L6 {e}{c:Int}{σ}(hx:x.gd)(h:qW e c q σ l):Ac x (σ.step e c x).2:=by
 cases h with
 |a=>exact .ld hx
 |b hc hp=>exact .st (by unfold Me.au;omega)
 |c=>exact .ld hx
 |d=>exact .z
theorem y6 {e}{c:Int}{σ}(h:kh e c q σ l):Ac x (σ.step e c x).2:=by
 cases h with
 |a=>exact .st (by unfold Me.au;omega)
 |d=>exact .z
theorem Ty {e}{c p:Int}{σ}(hx:x.gd)(h:sO e c p q σ l):Ac x (σ.step e c p x).2:=by
 cases h with
 |a=>exact .ld hx
 |b=>exact .ld hx
 |c hc hw hp=>exact .ez hx (by unfold Me.au at*;omega)
 |d=>exact .z
theorem L7 {b}{v:Int}{σ}(hs:b.ok)(hx:x.gd)(h:sP b v q σ l):Ac x (σ.step b v x).2:=by
 cases h with
 |a=>exact .ld hx
 |b hk h ho=>exact CG (Lb.ke hs hk.1 hk.2) hx h
 |d=>exact .z
theorem Tz {b}{c p:Int}{σ}(hs:b.ok)(hx:x.gd)(h:mH b c p q σ l):Ac x (σ.step b c p x).2:=by
 cases h with
 |v hp h ho h2=>exact Ty hx h
 |t hp h ho=>exact Tx (Lb.ke hs am am) hx h
 |l=>exact .ld hx
 |f hi hn hj h ho=>exact OP hs.1 hx h
 |d=>exact .z
theorem mh {r:Rn}{t:Int}:0<=r.ti t/\r.ti t<4294967296:=⟨Int.emod_nonneg _ am,Int.emod_lt_of_pos _ am⟩
theorem Ky {r:Rn}{v:Int}{σ:dy}(hx:x.gd)(h:fM r v q σ l):Ac x (σ.step r v x).2:=by
 cases h with
 |a=>exact .ld hx
 |b=>exact .ld hx
 |@c t w hv ht hw=>exact .ez hx (by have:=mh (r:=r) (t:=t);unfold Me.au;omega)
 |l=>exact .ez hx (by unfold Me.au;omega)
 |h=>exact .ez hx (by unfold Me.au;omega)
 |d=>exact .z
theorem Kz {r σ}(hx:x.gd)(h:i5 r q σ l):Ac x (σ.step r x).2:=by
 cases h with
 |a=>exact .ld hx
 |b=>exact .ld hx
 |d=>exact .z
theorem OQ {r}{h0:Int}{σ}(h:pw r h0 q σ l):Ac x (σ.step r h0 x).2:=by
 cases h with
 |a=>exact .st (by unfold Me.au;omega)
 |b=>exact .st (by unfold Me.au;omega)
 |d=>exact .z
theorem OS {a e n:Int}{σ}(hn:0<=n/\n<=1099511627776)(hx:x.gd)(h:px a e n q σ l):Ac x (σ.step a e n x).2:=by
 cases h with
 |a=>exact .ld hx
 |b=>exact .ez hx (by unfold Me.au;omega)
 |d=>exact .z
theorem E3 {s c w:Int}(hs:0<=s/\s<256)(hc:0<=c/\c<64)(hw:Me.au w):Me.au (jw s c (w/4294967296)):=by unfold Me.au jw at*;omega
theorem OT {j σ}(hs:j.ok)(hx:x.gd)(h:mq j q σ l):Ac x (σ.step j x).2:=by
 cases h with
 |p h ho=>exact L5 hs.1 hx h
 |l=>exact .ld hx
 |s=>exact .ez hx (by unfold Me.au jw;omega)
 |d=>exact .z
 |n=>exact .z
theorem Ij {j}{i:Int}{σ}(hs:j.ok)(hx:x.gd)(h:mw j i q σ l):Ac x (σ.step j i x).2:=by
 cases h with
 |l=>exact .ld hx
 |s hi hw=>exact .ez hx (E3 am am hw)
 |p hi h ho=>exact CG hs.1 hx h
 |d=>exact .z
theorem y7 {j}{i fr to c:Int}{σ}(ht:0<=to/\to<6)(hc:0<=c/\c<64)(hx:x.gd)(h:iN j i fr to c q σ l):Ac x (σ.step j i fr to c x).2:=by
 cases h with
 |l=>exact .ld hx
 |s hi hw=>exact .ez hx (E3 am (by split<;>omega) hw)
 |d=>exact .z
theorem Ik {j}{i k:Int}{σ}(hk:Me.au k)(h:sQ j i k q σ l):Ac x (σ.step j i k x).2:=by
 cases h with
 |a=>exact .st hk
 |d=>exact .z
theorem y8 {j}{i:Int}{σ}(hx:x.gd)(h:ki j i q σ l):Ac x (σ.stepOf j i x).2:=by
 cases h with
 |a=>exact .ld hx
 |d=>exact .z
theorem TA {t}{i g key aq high b:Int}{σ}(hj:0<=aq/\aq<=65534/\0<=high/\high<=4)(hk:Me.au key)(h:nJ t i g key aq high q b σ l):Ac x (σ.step t (aE i g) key aq high x).2:=by
 cases h with
 |@s k SH=>
  match k with
  |0=>exact .st hk
  |1=>exact .st (by unfold Me.au;omega)
  |2=>exact .st (by unfold Me.au;omega)
  |k+3=>exact .st (by unfold Me.au;omega)
 |d=>exact .z
theorem y9 {t}{key b:Int}{σ}(hx:x.gd)(h:bq t key q b σ l):Ac x (σ.step t key x).2:=by
 cases h with
 |a=>exact .ld hx
 |b=>exact .ld hx
 |c h hc hi hw hm=>exact .ez hx (by unfold Me.au at*;omega)
 |e=>exact .ld hx
 |d=>exact .z
theorem fL.DP {t:Tw}{T:fL}(h:T.ok t){v:Nat}:Me.au (T.cg v).cur:=by
 unfold fL.cg;cases h0:T[v]? with
 |none=>show Me.au 0;unfold Me.au;omega
 |some s=>exact(h.2 s (List.mem_of_getElem? h0)).2.2
theorem TB {t:Tw}{i g key high b:Int}{σ:cP}(hs:t.ok)(hr:t.rf i g)(hx:x.gd)(h:fA t i g key high q b σ l):Ac x (σ.step t (aE i g) key high x).2:=by
 have I8:=kI hr.1;cases h with
 |f h ho=>exact y9 hx h
 |s hl h=>cases h with|d hk hT=>exact .st (fL.DP hT)
 |e h=>exact .ez hx I8
 |l=>exact .ld hx
 |t hl hw h=>cases h with|d hk hT=>exact .ez hx (fL.DP hT)
 |k hl h=>exact .ez hx I8
 |g hl h ho=>exact y9 hx h
 |o=>exact .ld hx
 |q=>exact .ld hx
 |c h ho=>exact y9 hx h
 |r=>exact .add
 |w h ho=>show Ac x (gS.step t.l (t.ix _) _ x).2;rw[Tw.xu hr];exact L7 hs.2.2.2.2 hx h
 |d=>exact .z
theorem Y6 {t}{look:Bool}{b:Int}{σ}(hs:t.ok)(hx:x.gd)(h:gX t look q b σ l):Ac x (σ.step t look x).2:=by
 cases h with
 |a=>exact .ld hx
 |b=>exact .ld hx
 |c ha hw hm=>exact .ez hx (by unfold Me.au at*;omega)
 |m=>exact .ld hx
 |n=>exact .ld hx
 |o h hv hl hw hm=>exact .ez hx (by unfold Me.au at*;omega)
 |k=>exact .ld hx
 |h h hw hm=>exact .ez hx (by unfold Me.au at*;omega)
 |r=>exact .ld hx
 |j=>exact .ld hx
 |f h hk hF ho=>exact y9 hx hF
 |g=>exact .add
 |w hi hk h ho=>exact L7 hs.2.2.2.2 hx h
 |d=>exact .z
theorem L8 {t}{c key aq high b:Int}{σ}(hs:t.ok)(tW:(0<=aq/\aq<=65534)/\0<=high/\high<=4)(hk:Me.au key)(hx:x.gd)(h:gw t c key aq high q b σ l):Ac x (σ.step t c key aq high x).2:=by
 cases h with
 |p hn hl h ho=>exact L6 hx h
 |a hn hp h ho=>exact Kx hs.2.2.2.2.1 hx h
 |c hn hp h ho=>exact Tz hs.2.2.2.2 hx h
 |l hn h ho=>exact y6 h
 |y hr h=>exact TA am hk h
 |i hr h ho=>exact TB hs hr hx h
 |u h ho=>exact y6 h
 |d=>exact .z
theorem TC {t}{c b:Int}{look:Bool}{σ}(hs:t.ok)(hx:x.gd)(h:jN t c look q b σ l):Ac x (σ.step t c look x).2:=by
 cases h with
 |p h ho h2=>exact L6 hx h
 |c h ho=>exact Y6 hs hx h
 |u h ho h2=>exact y6 h
 |d=>exact .z
theorem TD {t r}{c b:Int}{σ}(hs:t.ok)(hx:x.gd)(h:iQ t r c q b σ l):Ac x (σ.step t r c x).2:=by
 cases h with
 |k h ho=>exact TC hs hx h
 |r0=>exact .ld hx
 |r1=>exact .ld hx
 |f=>exact .st (by unfold Me.au;omega)
 |d=>exact .z
theorem OU {r}{v:Int}{σ}(hx:x.gd)(h:my r v q σ l):Ac x (σ.step r v x).2:=by
 cases h with
 |s h ho=>exact Ky hx h
 |d=>exact .z
end
def b9.wd:b9->Prop
 |.j _ _ key=>Me.au key
 |.f _ _ key _ _=>Me.au key
 |.g _ _ key _=>Me.au key
 |.w _ key _ _=>Me.au key
 |.d key _ _=>Me.au key
 |_=>True
def dQ.wd:dQ->Prop
 |.c s=>s.wd
 |.u _ key _ _=>Me.au key
 |.d key _ _=>Me.au key
 |_=>True
def az.wd:az->Prop
 |.r4 _ w _=>Me.au w
 |.p2 z=>z.wd
 |.p3 _ w _=>Me.au w
 |.p4 _ w=>Me.au w
 |.p5 _ w=>Me.au w
 |.s5 _ w _=>Me.au w
 |.s6 _ w=>Me.au w
 |.s7 _ w _=>Me.au w
 |.s8 _ w _=>Me.au w
 |.b1 _ w _ _=>Me.au w
 |.b2 _ w _ _=>Me.au w
 |.b3 _ w _=>Me.au w
 |_=>True
theorem w0:Me.au 0:=by unfold Me.au;omega
section
variable{l lo:List Own}{q:Nat}{x:Me}{t:Tw}{look:Bool}
theorem bA {α:Type}{P:α->Prop}{c:Prop}[Decidable c]{a b:α}(h1:P a)(h2:P b):P (if c then a else b):=by split<;>assumption
theorem b9.vX {A i:Int}{v:Nat}:(b9.below A i v).wd:=bA (P:=b9.wd) trivial trivial
theorem Y7 {σ:b9}(hx:x.gd)(h:σ.wd):(σ.step t look x).1.wd:=by
 cases σ with
 |a=>exact bA (P:=b9.wd) w0 trivial
 |b=>exact bA (P:=b9.wd) trivial (bA (P:=b9.wd) trivial trivial)
 |c=>trivial
 |m=>exact b9.vX
 |n=>exact bA (P:=b9.wd) b9.vX trivial
 |o=>exact bA (P:=b9.wd) b9.vX trivial
 |k=>exact bA (P:=b9.wd) trivial trivial
 |h=>exact bA (P:=b9.wd) trivial trivial
 |r=>exact Me.aj hx _
 |j=>exact bA (P:=b9.wd) h h
 |f=>exact bA (P:=b9.wd) h h
 |g=>exact bA (P:=b9.wd) h h
 |w=>exact bA (P:=b9.wd) h h
 |d=>exact h
theorem TE {c:Int}{σ:dQ}(hx:x.gd)(h:σ.wd):(σ.step t c look x).1.wd:=by
 cases σ with
 |p=>exact bA (P:=dQ.wd) trivial trivial
 |c s=>
  have:=Y7 (t:=t) (look:=look) hx (show s.wd from h);show(dQ.j_ t c (s.step t look x).1).wd;generalize(s.step t look x).1=s' at this;cases s'<;>exact this
 |u=>exact bA (P:=dQ.wd) h h
 |d=>exact h
end
section
variable{l:List Own}{q:Nat}{y:Me}{x:Xc}{o:Od}{tv:AV}{hg b:Int}
theorem Y8 {σ:az}(hk:o.ok x)(hy:y.gd)(h:bH x o tv hg q b σ l)(hw:σ.wd):(σ.step x o y).1.wd:=by
 cases h with
 |@r1 z lm qm i w a2 a3 a4 a5 a6 a7 a8 a9 a10 a11 a12 bK h ho=>
  show(az.qE x o _).wd;generalize(z.step _ _ _ y).1=z';cases z' with
  |d e=>exact bA (P:=az.wd) trivial trivial
  |_=>trivial
 |@r2 z=>
  show(az.qF x o _).wd;generalize(z.step x.j y).1=z';cases z' with
  |d i e=>exact bA (P:=az.wd) trivial trivial
  |_=>trivial
 |r3 bK hi=>
  have hp:=(hk.2.2 bK).2.1;show az.wd (if _ then _ else _);split
  .trivial
  .next hn=>show Me.au (ka o.prio _);unfold ka Me.au;omega
 |r4=>exact bA (P:=az.wd) trivial hw
 |@r5 z i w=>
  show(az.qG x o _ _ _).wd;generalize(z.step _ _ y).1=z';cases z' with
  |d e=>exact bA (P:=az.wd) trivial trivial
  |_=>trivial
 |r6=>exact bA (P:=az.wd) trivial trivial
 |@t1 z=>
  show(az.mF x o _).wd;generalize(z.step _ y).1=z';cases z' with
  |d h v e=>exact bA (P:=az.wd) (bA (P:=az.wd) trivial trivial) trivial
  |_=>trivial
 |@t2 z=>
  show(az.oE x o _ _ _).wd;generalize(z.stepOf _ _ y).1=z';cases z' with
  |d w e=>exact bA (P:=az.wd) trivial trivial
  |_=>trivial
 |t3=>exact bA (P:=az.wd) trivial trivial
 |@t4 z=>
  show(az.qH x o _ _ _ _).wd;generalize(z.step _ _ _ _ _ y).1=z';cases z' with
  |d e=>exact bA (P:=az.wd) trivial trivial
  |_=>trivial
 |t5=>exact bA (P:=az.wd) trivial trivial
 |t6=>exact bA (P:=az.wd) trivial trivial
 |pg=>exact bA (P:=az.wd) trivial trivial
 |p1=>exact bA (P:=az.wd) trivial trivial
 |@p2 z=>
  have:=TE (t:=x.t) (look:=false) (c:=o.c) hy (show z.wd from hw);show(az.jy x o _).wd;generalize(z.step _ _ _ y).1=z' at this;cases z' with
  |d key aq e=>exact bA (P:=az.wd) (bA (P:=az.wd) trivial this) (bA (P:=az.wd) trivial trivial)
  |_=>exact this
 |p3=>exact bA (P:=az.wd) hw hw
 |p4=>exact hw
 |p5=>trivial
 |s1=>exact bA (P:=az.wd) trivial trivial
 |s2=>trivial
 |s3=>exact bA (P:=az.wd) trivial trivial
 |@s4 z i lm qm w a1 a2 a3 a4 a5 a7 a8 a9 a10 a11 a12 bK hh hi h ho=>
  show(az.mG x o _ _).wd;cases h with
  |a=>exact bA (P:=az.wd) trivial (bA (P:=az.wd) trivial (Me.aj hy _))
  |d=>cases ho
 |s5=>exact bA (P:=az.wd) hw hw
 |s6=>exact hw
 |s7=>exact bA (P:=az.wd) hw hw
 |@s8 z i w=>
  show(az.qI x o _ _ _).wd;generalize(z.step _ _ _ _ _ y).1=z';cases z' with
  |d e=>exact bA (P:=az.wd) trivial hw
  |_=>exact hw
 |s9=>trivial
 |b1=>exact bA (P:=az.wd) hw hw
 |b2=>exact bA (P:=az.wd) hw hw
 |b3=>trivial
 |b4=>trivial
 |c1=>exact bA (P:=az.wd) trivial trivial
 |@c2 z=>
  show(az.sJ x o _ _).wd;generalize(z.stepOf _ _ y).1=z';cases z'<;>trivial
 |c3=>exact bA (P:=az.wd) trivial trivial
 |c4=>trivial
 |c5=>trivial
 |c6=>exact bA (P:=az.wd) trivial trivial
 |d=>trivial
theorem Y9 {σ}(hx:x.ok)(hk:o.ok x)(hy:y.gd)(h:bH x o tv hg q b σ l)(hw:σ.wd):Ac y (σ.step x o y).2:=by
 have uL:=hx;unfold Xc.ok Tw.ok Lb.ok Ep.ok at uL;have Lj:=hk;unfold Od.ok at Lj;have hW:∀w,Me.au ((w+1)%18446744073709551616):=λw=>by unfold Me.au;omega
 cases h with
 |r1 bK h ho=>exact OS (by have:=(hk.2.2 bK).2.2;omega) hy h
 |r2 bK h ho=>exact OT hx.2.1 hy h
 |r3=>exact .add
 |r4 bK hi h ho=>exact Ik hw h
 |r5 bK hi h ho=>exact OU hy h
 |r6 bK he h ho=>exact Ij hx.2.1 hy h
 |t1 bK hh h ho=>exact Kz hy h
 |t2 bK hh Bz hi h ho=>exact y8 hy h
 |@t3 z i hd w lm qm qf fv fe a1 a2 a3 a5 a6 a7 a9 a10 a11 a12 bK hh Bz hi c_ h ho=>
  cases h with
  |l=>exact .ld hy
  |s hi Be=>exact .ez hy (E3 am (by split<;>omega) Be)
  |d=>exact .z
 |t4 bK hh Bz hi c_ h ho=>exact L8 hx.1 am c_.1 hy h
 |@t5 z i w e lm qm w2 a1 a2 a3 a5 a6 a7 a8 a9 a10 a11 a12 bK he h ho=>
  cases h with
  |l=>exact .ld hy
  |s hi Be=>exact .ez hy (E3 am (by split<;>omega) Be)
  |d=>exact .z
 |t6 bK h ho=>exact OQ h
 |pg h ho=>exact TD hx.1 hy h
 |p1=>exact .ld hy
 |p2 bK h ho=>exact TC hx.1 hy h
 |p3 hi h ho=>exact y7 am am hy h
 |p4 hi=>exact .st (by unfold Jb.ok Sk.ok at uL;unfold Me.au;omega)
 |p5=>exact .st hw
 |s1=>exact .ld hy
 |s2=>exact .st w0
 |s3=>exact .ld hy
 |s4 bK hh hi h ho=>exact y8 hy h
 |s5 bK hh hi c_ h ho=>exact y7 am am hy h
 |s6=>exact .st (by unfold Me.au;omega)
 |s7 bK hh hi c_ h ho=>exact Ik (hW _) h
 |s8 bK hh hi c_ h ho=>exact L8 hx.1 am (hW _) hy h
 |s9=>exact .st w0
 |b1 bK hi he h ho=>exact Ik hw h
 |b2 bK he h ho=>exact y7 am am hy h
 |b3=>exact .st hw
 |b4=>exact .st (by unfold Me.au;omega)
 |c1=>exact .ld hy
 |c2 bK hi h ho=>exact y8 hy h
 |c3 bK hi h ho=>exact y7 am am hy h
 |c4=>exact .st w0
 |c5=>exact .st (by unfold Me.au;omega)
 |c6 bK h ho=>exact Ij hx.2.1 hy h
 |d=>exact .z
end
end Go.cI
