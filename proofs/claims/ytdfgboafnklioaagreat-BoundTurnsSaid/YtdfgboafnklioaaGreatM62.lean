/- Contracts. Conditions: in each theorem. -/
import Derived.Test.YtdfgboafnklioaaGreatM61
set_option linter.all false
set_option maxRecDepth 100000
set_option maxHeartbeats 4000000
namespace Go.cO
open Go.Proofs
theorem OI:fx EM.P 2 184=some [some .i64,some .u64]:=by kernel_rfl
theorem TE:EM.P.eqGuardType EM.P.depth 184=false:=by kernel_rfl
theorem TF:lV EM.P 184=true:=by kernel_rfl
theorem Vx.TG {own ro Φ K}{a b c d:Int}{k}(h1:a=c)(h2:b=d)(h:Zx EM false (k (B true)) K own ro Φ):Vx EM (.op (.eq 184 false (.agg [I a,U b]) (.agg [I c,U d])) k) K own ro Φ:=by subst h1 h2;exact λB W S H=>Ej (vs:=[.int .i64 a,.int .u64 b]) OI am TF TE rfl (h.ok B W S H)
def an.err:an->Int|.d _ _ e _=>e|_=>14
theorem eP.busy {x o}{q:Nat}{b:Int}{σ l}(h:eP x o q b σ l)(ho:σ.over=false):∃(sv uv:AV) (i key au e:Int) (L:List (List AV)) (c:List AV) (r:List Own),l=.obj q (.row (x.row o.k o.c sv uv i key au false b e))::.sl sv 1 (L++[c])::r:=by
 cases h<;>first|(cases ho;done)|exact⟨_,_,_,_,_,_,_,_,_,rfl⟩
theorem bU.busy {x o tv}{hg:Int}{q:Nat}{b:Int}{σ l}(h:bU x o tv hg q b σ l)(ho:σ.over=false):∃(ln:Int) (a1 a2 a3 a4 a5 a6 a7 a8 a9 a10 a11 a12:AV) (i w e:Int) (n:Bool) (r:List Own),ln≠99/\l=.obj q (.row (x.cf tv o hg ln a1 a2 a3 a4 a5 a6 a7 a8 a9 a10 a11 a12 i w b e n))::r:=by
 cases h<;>first|(cases ho;done)|exact⟨_,_,_,_,_,_,_,_,_,_,_,_,_,_,_,_,_,_,dl,rfl⟩
instance acj {n:Nat}[Mn n [102,104,105,107,103,47,106,108]]:cH n where
section
variable{B0 S:AH}{W:List Nat}{R l l':List Own}{ro:List aB}{x:Xc}{o:Od}{tv:AV}{hg b:Int}{q q':Nat}{σ:an}
theorem Ih (hk:o.k≠0)(h:eP x o q b σ l)(H:Cx B0 W S (l++R) ro):
  aG EM (zF 104) [.ptr q 0] S λu S'=>∃ab,(u=I σ.err/\ab=l++R)/\Cx B0 W S' ab ro:=by
 cases ho:σ.over with
 |false=>
  obtain⟨sv,uv,i,key,au,e,L,c,r,rfl⟩:=h.busy ho;have he:σ.err=14:=by cases σ<;>first|rfl|cases ho
  rw[he]
  (
   simp only[Xc.row,Xc.cf,Xc.cs,Tw.cs,Lb.cs,Ar.cs,Ep.cs,lA,lB,lC] at H⊢;refine y2 H rfl ?_ ?_<;>intros
   all_goals first
    |(exfalso;simp only[Int.ofNat_eq_natCast,List.length_append,List.length_cons,List.length_nil] at*;omega)
    |exact⟨rfl,rfl,_,⟨rfl,rfl⟩,HQ⟩)
 |true=>
  cases h<;>first|(cases ho;done)|skip
  case d hs hw=>
  cases hs with
  |n=>(
       simp only[Xc.row,Xc.cf,Xc.cs,Tw.cs,Lb.cs,Ar.cs,Ep.cs,lA,lB,lC] at H⊢;refine y1 H rfl ?_;intros;all_goals first
        |(exfalso;simp only[Int.ofNat_eq_natCast,List.length_append,List.length_cons,List.length_nil] at*;omega)
        |exact⟨rfl,rfl,_,⟨rfl,rfl⟩,HQ⟩)
  |s h1 h2 h3=>(
                simp only[Xc.row,Xc.cf,Xc.cs,Tw.cs,Lb.cs,Ar.cs,Ep.cs,lA,lB,lC] at H⊢;refine y1 H rfl ?_;intros;all_goals first
                 |(exfalso;simp only[Int.ofNat_eq_natCast,List.length_append,List.length_cons,List.length_nil] at*;omega)
                 |exact⟨rfl,rfl,_,⟨rfl,rfl⟩,HQ⟩)
theorem DH (h:bU x o tv hg q b σ l)(H:Cx B0 W S (l++R) ro):
  aG EM (zF 47) [.ptr q 0] S λu S'=>∃ab,(u=I σ.err/\ab=l++R)/\Cx B0 W S' ab ro:=by
 cases ho:σ.over with
 |false=>
  obtain⟨ln,a1,a2,a3,a4,a5,a6,a7,a8,a9,a10,a11,a12,i,w,e,n,r,LL,rfl⟩:=h.busy ho;have he:σ.err=14:=by cases σ<;>first|rfl|cases ho
  rw[he]
  (
   simp only[Xc.row,Xc.cf,Xc.cs,Tw.cs,Lb.cs,Ar.cs,Ep.cs,lA,lB,lC] at H⊢;refine y1 H rfl ?_;intros;all_goals first
    |(exfalso;simp only[Int.ofNat_eq_natCast,List.length_append,List.length_cons,List.length_nil] at*;omega)
    |exact⟨rfl,rfl,_,⟨rfl,rfl⟩,HQ⟩)
 |true=>
  cases h<;>first|(cases ho;done)|skip
  case d hw=>(
              simp only[Xc.row,Xc.cf,Xc.cs,Tw.cs,Lb.cs,Ar.cs,Ep.cs,lA,lB,lC] at H⊢;refine y1 H rfl ?_;all_goals first
               |(exfalso;simp only[Int.ofNat_eq_natCast,List.length_append,List.length_cons,List.length_nil] at*;omega)
               |exact⟨rfl,rfl,_,⟨rfl,rfl⟩,HQ⟩)
theorem A6 (hk:o.k≠0)(h:eP x o q b σ l)(h':bU x o tv hg q' b σ l')(H:Cx B0 W S (l++(l'++R)) ro):
  aG EM (zF 22) [.agg [.ptr q 0,.ptr q' 0]] S λu S'=>∃ab,(u=B true/\ab=l++(l'++R))/\Cx B0 W S' ab ro:=by
 cases ho:σ.over with
 |false=>
  obtain⟨sv,uv,i,key,au,e,L,c,r,rfl⟩:=h.busy ho;obtain⟨ln,a1,a2,a3,a4,a5,a6,a7,a8,a9,a10,a11,a12,i',w,e',n,r',LL,rfl⟩:=h'.busy ho;simp only[Xc.row,Xc.cf,Xc.cs,Tw.cs,Lb.cs,Ar.cs,Ep.cs,lA,lB,lC] at H⊢;refine y3 H rfl ?_ ?_ ?_<;>intros
  all_goals first
   |(exfalso;simp only[Int.ofNat_eq_natCast,List.length_append,List.length_cons,List.length_nil] at*;omega)
   |skip
  refine Vx.TG rfl rfl ?_;refine z1 ?_;intros;all_goals first
   |(exfalso;simp only[Int.ofNat_eq_natCast,List.length_append,List.length_cons,List.length_nil] at*;omega)
   |exact⟨rfl,rfl,_,⟨rfl,rfl⟩,HQ⟩
 |true=>
  cases h<;>first|(cases ho;done)|skip
  case d i w e i1 key au n sv uv fW hs hw=>
  cases h' with
  |@d _ _ _ i2 w2 _ a1 a2 a3 a4 a5 a6 a7 a8 a9 a10 a11 a12 dt=>
  have hn:e=0->n=false->i2=i1/\w2=key:=λh1 h2=>⟨(dt h1 h2).1.trans (hw h1 h2).1.symm,(dt h1 h2).2.trans (hw h1 h2).2.symm⟩
  cases hs<;>(
   simp only[Xc.row,Xc.cf,Xc.cs,Tw.cs,Lb.cs,Ar.cs,Ep.cs,lA,lB,lC] at H⊢;refine Vx.fm H rfl ?_
   cases n<;>(
    refine z2 ?_ ?_<;>intros
    all_goals(
     refine Vx.TG (by first|rfl|exact(hn am rfl).1.symm) (by first|rfl|exact(hn am rfl).2.symm) ?_;refine z1 ?_;intros;all_goals exact⟨rfl,rfl,_,⟨rfl,rfl⟩,HQ⟩)))
end
def Ac (y y':Me):Prop:=y'=y\/∃k a w h,Me.ar w/\y'=y.acc k a w h
theorem Ac.z {y}:Ac y y:=.inl rfl
theorem Ac.ld {y}{a:Int}(hy:y.gd):Ac y (y.ld a):=.inr ⟨_,_,_,_,Me.aj hy a,rfl⟩
theorem Ac.st {y}{a w:Int}(hw:Me.ar w):Ac y (y.st a w):=.inr ⟨_,_,_,_,hw,rfl⟩
theorem Ac.eL {y}{a o n:Int}(hy:y.gd)(hw:Me.ar n):Ac y (y.eL a o n):=by
 refine .inr ⟨3,a,if y.word a=o then n else y.word a,decide (y.word a=o),?_,rfl⟩;split;.exact hw
 .exact Me.aj hy a
theorem Ac.add {y}{a n:Int}:Ac y (y.add a n):=.inr ⟨_,_,_,_,⟨Int.emod_nonneg _ am,Int.emod_lt_of_pos _ am⟩,rfl⟩
theorem Ac.gd {y y'}(h:Ac y y')(hy:y.gd)(hn:y.n<4611686018427387904):y'.gd/\y'.n<=y.n+1/\y'.ws.length=y.ws.length:=by
 rcases h with rfl|⟨k,a,w,h,hw,rfl⟩;.exact⟨hy,am,rfl⟩
 .exact⟨Me.Nc hy hn hw,by rw[Me.He];omega,Me.yt⟩
theorem sg {i w:Int}(h:-1<=i/\i<4096)(hw:Me.ar w):Me.ar (Am i w):=by
 unfold Me.ar Am at*
 have:=Int.emod_nonneg (w/65536+1) (show(281474976710656:Int)≠0 by omega);have:=Int.emod_lt_of_pos (w/65536+1) (show(0:Int)<281474976710656 by omega);omega
section
variable{l lo:List Own}{q:Nat}{x:Me}
theorem LW {s σ}(hs:s.ok)(hx:x.gd)(h:rb s q σ l):Ac x (σ.step s x).2:=by
 unfold Sk.ok at hs;cases h with
 |a=>exact .ld hx
 |b=>exact .ld hx
 |c hw hi hj=>exact .eL hx (sg am hw)
 |d=>exact .z
theorem Ct {s}{v:Int}{σ}(hs:s.ok)(hx:x.gd)(h:jf s v q σ l):Ac x (σ.step s v x).2:=by
 unfold Sk.ok at hs;cases h with
 |a=>exact .ld hx
 |@b w hv hw=>exact .st (by have:=fN (n:=s.size) (w:=w) am;unfold Me.ar;omega)
 |c hv hw=>exact .eL hx (sg am hw)
 |d=>exact .z
theorem TH {s σ}(hs:s.ok)(hx:x.gd)(h:sP s q σ l):Ac x (σ.step s x).2:=by
 unfold Sk.ok at hs;cases h with
 |a=>exact .ld hx
 |b hw hi=>exact .eL hx (sg am hw)
 |d=>exact .z
theorem Kr {a σ}(hs:a.ok)(hx:x.gd)(h:gV a q σ l):Ac x (σ.step a x).2:=by
 cases h with
 |p h ho=>exact LW hs.1 hx h
 |g=>exact .ld hx
 |w=>exact .ld hx
 |d=>exact .z
theorem OJ {a}{v:Int}{σ}(hs:a.ok)(hx:x.gd)(h:mI a v q σ l):Ac x (σ.step a v x).2:=by
 cases h with
 |l=>exact .ld hx
 |r=>exact .st (by unfold Me.ar;omega)
 |u hv h ho=>exact Ct hs.1 hx h
 |w=>exact .add
 |d=>exact .z
theorem LX {e}{c:Int}{σ}(hx:x.gd)(h:rj e c q σ l):Ac x (σ.step e c x).2:=by
 cases h with
 |a=>exact .ld hx
 |b hc hp=>exact .st (by unfold Me.ar;omega)
 |c=>exact .ld hx
 |d=>exact .z
theorem yV {e}{c:Int}{σ}(h:kO e c q σ l):Ac x (σ.step e c x).2:=by
 cases h with
 |a=>exact .st (by unfold Me.ar;omega)
 |d=>exact .z
theorem TI {e}{c p:Int}{σ}(hx:x.gd)(h:sQ e c p q σ l):Ac x (σ.step e c p x).2:=by
 cases h with
 |a=>exact .ld hx
 |b=>exact .ld hx
 |c hc hw hp=>exact .eL hx (by unfold Me.ar at*;omega)
 |d=>exact .z
theorem LY {b}{v:Int}{σ}(hs:b.ok)(hx:x.gd)(h:sR b v q σ l):Ac x (σ.step b v x).2:=by
 cases h with
 |a=>exact .ld hx
 |b hk h ho=>exact Ct (Lb.kL hs hk.1 hk.2) hx h
 |d=>exact .z
theorem TJ {b}{c p:Int}{σ}(hs:b.ok)(hx:x.gd)(h:mU b c p q σ l):Ac x (σ.step b c p x).2:=by
 cases h with
 |v hp h ho h2=>exact TI hx h
 |t hp h ho=>exact TH (Lb.kL hs am am) hx h
 |l=>exact .ld hx
 |f hi hn hj h ho=>exact OJ hs.1 hx h
 |d=>exact .z
theorem mF {r:Rn}{t:Int}:0<=r.tf t/\r.tf t<4294967296:=⟨Int.emod_nonneg _ am,Int.emod_lt_of_pos _ am⟩
theorem Ks {r:Rn}{v:Int}{σ:b7}(hx:x.gd)(h:gw r v q σ l):Ac x (σ.step r v x).2:=by
 cases h with
 |a=>exact .ld hx
 |b=>exact .ld hx
 |@c t w hv ht hw=>exact .eL hx (by have:=mF (r:=r) (t:=t);unfold Me.ar;omega)
 |l=>exact .eL hx (by unfold Me.ar;omega)
 |h=>exact .eL hx (by unfold Me.ar;omega)
 |d=>exact .z
theorem Kt {r σ}(hx:x.gd)(h:jA r q σ l):Ac x (σ.step r x).2:=by
 cases h with
 |a=>exact .ld hx
 |b=>exact .ld hx
 |d=>exact .z
theorem OK {r}{h0:Int}{σ}(h:pT r h0 q σ l):Ac x (σ.step r h0 x).2:=by
 cases h with
 |a=>exact .st (by unfold Me.ar;omega)
 |b=>exact .st (by unfold Me.ar;omega)
 |d=>exact .z
theorem OL {a e n:Int}{σ}(hn:0<=n/\n<=1099511627776)(hx:x.gd)(h:pU a e n q σ l):Ac x (σ.step a e n x).2:=by
 cases h with
 |a=>exact .ld hx
 |b=>exact .eL hx (by unfold Me.ar;omega)
 |d=>exact .z
theorem EV {s c w:Int}(hs:0<=s/\s<256)(hc:0<=c/\c<64)(hw:Me.ar w):Me.ar (jw s c (w/4294967296)):=by unfold Me.ar jw at*;omega
theorem OM {j σ}(hs:j.ok)(hx:x.gd)(h:mK j q σ l):Ac x (σ.step j x).2:=by
 cases h with
 |p h ho=>exact LW hs.1 hx h
 |l=>exact .ld hx
 |s=>exact .eL hx (by unfold Me.ar jw;omega)
 |d=>exact .z
 |n=>exact .z
theorem Ii {j}{i:Int}{σ}(hs:j.ok)(hx:x.gd)(h:mL j i q σ l):Ac x (σ.step j i x).2:=by
 cases h with
 |l=>exact .ld hx
 |s hi hw=>exact .eL hx (EV am am hw)
 |p hi h ho=>exact Ct hs.1 hx h
 |d=>exact .z
theorem yW {j}{i fr to c:Int}{σ}(ht:0<=to/\to<6)(hc:0<=c/\c<64)(hx:x.gd)(h:jg j i fr to c q σ l):Ac x (σ.step j i fr to c x).2:=by
 cases h with
 |l=>exact .ld hx
 |s hi hw=>exact .eL hx (EV am (by split<;>omega) hw)
 |d=>exact .z
theorem Ij {j}{i k:Int}{σ}(hk:Me.ar k)(h:sS j i k q σ l):Ac x (σ.step j i k x).2:=by
 cases h with
 |a=>exact .st hk
 |d=>exact .z
theorem yX {j}{i:Int}{σ}(hx:x.gd)(h:kP j i q σ l):Ac x (σ.stepOf j i x).2:=by
 cases h with
 |a=>exact .ld hx
 |d=>exact .z
theorem TK {t}{i g key aq high b:Int}{σ}(hj:0<=aq/\aq<=65534/\0<=high/\high<=4)(hk:Me.ar key)(h:nZ t i g key aq high q b σ l):Ac x (σ.step t (aD i g) key aq high x).2:=by
 cases h with
 |@s k SP=>
  match k with
  |0=>exact .st hk
  |1=>exact .st (by unfold Me.ar;omega)
  |2=>exact .st (by unfold Me.ar;omega)
  |k+3=>exact .st (by unfold Me.ar;omega)
 |d=>exact .z
theorem yY {t}{key b:Int}{σ}(hx:x.gd)(h:bn t key q b σ l):Ac x (σ.step t key x).2:=by
 cases h with
 |a=>exact .ld hx
 |b=>exact .ld hx
 |c h hc hi hw hm=>exact .eL hx (by unfold Me.ar at*;omega)
 |e=>exact .ld hx
 |d=>exact .z
theorem gr.DI {t:Tw}{T:gr}(h:T.ok t){v:Nat}:Me.ar (T.cb v).cur:=by
 unfold gr.cb;cases h0:T[v]? with
 |none=>show Me.ar 0;unfold Me.ar;omega
 |some s=>exact(h.2 s (List.mem_of_getElem? h0)).2.2
theorem TL {t:Tw}{i g key high b:Int}{σ:cW}(hs:t.ok)(hr:t.rf i g)(hx:x.gd)(h:fX t i g key high q b σ l):Ac x (σ.step t (aD i g) key high x).2:=by
 have TM:=lj hr.1;cases h with
 |f h ho=>exact yY hx h
 |s hl h=>cases h with|d hk hT=>exact .st (gr.DI hT)
 |e h=>exact .eL hx TM
 |l=>exact .ld hx
 |t hl hw h=>cases h with|d hk hT=>exact .eL hx (gr.DI hT)
 |k hl h=>exact .eL hx TM
 |g hl h ho=>exact yY hx h
 |o=>exact .ld hx
 |q=>exact .ld hx
 |c h ho=>exact yY hx h
 |r=>exact .add
 |w h ho=>show Ac x (iy.step t.l (t.ix _) _ x).2;rw[Tw.xe hr];exact LY hs.2.2.2.2 hx h
 |d=>exact .z
theorem YT {t}{look:Bool}{b:Int}{σ}(hs:t.ok)(hx:x.gd)(h:iE t look q b σ l):Ac x (σ.step t look x).2:=by
 cases h with
 |a=>exact .ld hx
 |b=>exact .ld hx
 |c ha hw hm=>exact .eL hx (by unfold Me.ar at*;omega)
 |m=>exact .ld hx
 |n=>exact .ld hx
 |o h hv hl hw hm=>exact .eL hx (by unfold Me.ar at*;omega)
 |k=>exact .ld hx
 |h h hw hm=>exact .eL hx (by unfold Me.ar at*;omega)
 |r=>exact .ld hx
 |j=>exact .ld hx
 |f h hk hF ho=>exact yY hx hF
 |g=>exact .add
 |w hi hk h ho=>exact LY hs.2.2.2.2 hx h
 |d=>exact .z
theorem LZ {t}{c key aq high b:Int}{σ}(hs:t.ok)(tQ:(0<=aq/\aq<=65534)/\0<=high/\high<=4)(hk:Me.ar key)(hx:x.gd)(h:gW t c key aq high q b σ l):Ac x (σ.step t c key aq high x).2:=by
 cases h with
 |p hn hl h ho=>exact LX hx h
 |a hn hp h ho=>exact Kr hs.2.2.2.2.1 hx h
 |c hn hp h ho=>exact TJ hs.2.2.2.2 hx h
 |l hn h ho=>exact yV h
 |y hr h=>exact TK am hk h
 |i hr h ho=>exact TL hs hr hx h
 |u h ho=>exact yV h
 |d=>exact .z
theorem TN {t}{c b:Int}{look:Bool}{σ}(hs:t.ok)(hx:x.gd)(h:kp t c look q b σ l):Ac x (σ.step t c look x).2:=by
 cases h with
 |p h ho h2=>exact LX hx h
 |c h ho=>exact YT hs hx h
 |u h ho h2=>exact yV h
 |d=>exact .z
theorem TO {t r}{c b:Int}{σ}(hs:t.ok)(hx:x.gd)(h:jm t r c q b σ l):Ac x (σ.step t r c x).2:=by
 cases h with
 |k h ho=>exact TN hs hx h
 |r0=>exact .ld hx
 |r1=>exact .ld hx
 |f=>exact .st (by unfold Me.ar;omega)
 |d=>exact .z
theorem ON {r}{v:Int}{σ}(hx:x.gd)(h:mM r v q σ l):Ac x (σ.step r v x).2:=by
 cases h with
 |s h ho=>exact Ks hx h
 |d=>exact .z
end
def cj.wd:cj->Prop
 |.j _ _ key=>Me.ar key
 |.f _ _ key _ _=>Me.ar key
 |.g _ _ key _=>Me.ar key
 |.w _ key _ _=>Me.ar key
 |.d key _ _=>Me.ar key
 |_=>True
def dY.wd:dY->Prop
 |.c s=>s.wd
 |.u _ key _ _=>Me.ar key
 |.d key _ _=>Me.ar key
 |_=>True
def an.wd:an->Prop
 |.r4 _ w _=>Me.ar w
 |.p2 z=>z.wd
 |.p3 _ w _=>Me.ar w
 |.p4 _ w=>Me.ar w
 |.p5 _ w=>Me.ar w
 |.s5 _ w _=>Me.ar w
 |.s6 _ w=>Me.ar w
 |.s7 _ w _=>Me.ar w
 |.s8 _ w _=>Me.ar w
 |.b1 _ w _ _=>Me.ar w
 |.b2 _ w _ _=>Me.ar w
 |.b3 _ w _=>Me.ar w
 |_=>True
theorem w0:Me.ar 0:=by unfold Me.ar;omega
section
variable{l lo:List Own}{q:Nat}{x:Me}{t:Tw}{look:Bool}
theorem bC {α:Type}{P:α->Prop}{c:Prop}[Decidable c]{a b:α}(h1:P a)(h2:P b):P (if c then a else b):=by split<;>assumption
theorem cj.vO {A i:Int}{v:Nat}:(cj.below A i v).wd:=bC (P:=cj.wd) trivial trivial
theorem YU {σ:cj}(hx:x.gd)(h:σ.wd):(σ.step t look x).1.wd:=by
 cases σ with
 |a=>exact bC (P:=cj.wd) w0 trivial
 |b=>exact bC (P:=cj.wd) trivial (bC (P:=cj.wd) trivial trivial)
 |c=>trivial
 |m=>exact cj.vO
 |n=>exact bC (P:=cj.wd) cj.vO trivial
 |o=>exact bC (P:=cj.wd) cj.vO trivial
 |k=>exact bC (P:=cj.wd) trivial trivial
 |h=>exact bC (P:=cj.wd) trivial trivial
 |r=>exact Me.aj hx _
 |j=>exact bC (P:=cj.wd) h h
 |f=>exact bC (P:=cj.wd) h h
 |g=>exact bC (P:=cj.wd) h h
 |w=>exact bC (P:=cj.wd) h h
 |d=>exact h
theorem TP {c:Int}{σ:dY}(hx:x.gd)(h:σ.wd):(σ.step t c look x).1.wd:=by
 cases σ with
 |p=>exact bC (P:=dY.wd) trivial trivial
 |c s=>
  have:=YU (t:=t) (look:=look) hx (show s.wd from h);show(dY.kh t c (s.step t look x).1).wd;generalize(s.step t look x).1=s' at this;cases s'<;>exact this
 |u=>exact bC (P:=dY.wd) h h
 |d=>exact h
end
section
variable{l:List Own}{q:Nat}{y:Me}{x:Xc}{o:Od}{tv:AV}{hg b:Int}
theorem YV {σ:an}(hk:o.ok x)(hy:y.gd)(h:bU x o tv hg q b σ l)(hw:σ.wd):(σ.step x o y).1.wd:=by
 cases h with
 |@r1 z lm qm i w a2 a3 a4 a5 a6 a7 a8 a9 a10 a11 a12 bR h ho=>
  show(an.oY x o _).wd;generalize(z.step _ _ _ y).1=z';cases z' with
  |d e=>exact bC (P:=an.wd) trivial trivial
  |_=>trivial
 |@r2 z=>
  show(an.oZ x o _).wd;generalize(z.step x.j y).1=z';cases z' with
  |d i e=>exact bC (P:=an.wd) trivial trivial
  |_=>trivial
 |r3 bR hi=>
  have hp:=(hk.2.2 bR).2.1;show an.wd (if _ then _ else _);split
  .trivial
  .next hn=>show Me.ar (kJ o.prio _);unfold kJ Me.ar;omega
 |r4=>exact bC (P:=an.wd) trivial hw
 |@r5 z i w=>
  show(an.o0 x o _ _ _).wd;generalize(z.step _ _ y).1=z';cases z' with
  |d e=>exact bC (P:=an.wd) trivial trivial
  |_=>trivial
 |r6=>exact bC (P:=an.wd) trivial trivial
 |@t1 z=>
  show(an.lX x o _).wd;generalize(z.step _ y).1=z';cases z' with
  |d h v e=>exact bC (P:=an.wd) (bC (P:=an.wd) trivial trivial) trivial
  |_=>trivial
 |@t2 z=>
  show(an.nR x o _ _ _).wd;generalize(z.stepOf _ _ y).1=z';cases z' with
  |d w e=>exact bC (P:=an.wd) trivial trivial
  |_=>trivial
 |t3=>exact bC (P:=an.wd) trivial trivial
 |@t4 z=>
  show(an.o4 x o _ _ _ _).wd;generalize(z.step _ _ _ _ _ y).1=z';cases z' with
  |d e=>exact bC (P:=an.wd) trivial trivial
  |_=>trivial
 |t5=>exact bC (P:=an.wd) trivial trivial
 |t6=>exact bC (P:=an.wd) trivial trivial
 |oX=>exact bC (P:=an.wd) trivial trivial
 |p1=>exact bC (P:=an.wd) trivial trivial
 |@p2 z=>
  have:=TP (t:=x.t) (look:=false) (c:=o.c) hy (show z.wd from hw);show(an.jl x o _).wd;generalize(z.step _ _ _ y).1=z' at this;cases z' with
  |d key aq e=>exact bC (P:=an.wd) (bC (P:=an.wd) trivial this) (bC (P:=an.wd) trivial trivial)
  |_=>exact this
 |p3=>exact bC (P:=an.wd) hw hw
 |p4=>exact hw
 |p5=>trivial
 |s1=>exact bC (P:=an.wd) trivial trivial
 |s2=>trivial
 |s3=>exact bC (P:=an.wd) trivial trivial
 |@s4 z i lm qm w a1 a2 a3 a4 a5 a7 a8 a9 a10 a11 a12 bR hh hi h ho=>
  show(an.lY x o _ _).wd;cases h with
  |a=>exact bC (P:=an.wd) trivial (bC (P:=an.wd) trivial (Me.aj hy _))
  |d=>cases ho
 |s5=>exact bC (P:=an.wd) hw hw
 |s6=>exact hw
 |s7=>exact bC (P:=an.wd) hw hw
 |@s8 z i w=>
  show(an.o5 x o _ _ _).wd;generalize(z.step _ _ _ _ _ y).1=z';cases z' with
  |d e=>exact bC (P:=an.wd) trivial hw
  |_=>exact hw
 |s9=>trivial
 |b1=>exact bC (P:=an.wd) hw hw
 |b2=>exact bC (P:=an.wd) hw hw
 |b3=>trivial
 |b4=>trivial
 |c1=>exact bC (P:=an.wd) trivial trivial
 |@c2 z=>
  show(an.qR x o _ _).wd;generalize(z.stepOf _ _ y).1=z';cases z'<;>trivial
 |c3=>exact bC (P:=an.wd) trivial trivial
 |c4=>trivial
 |c5=>trivial
 |c6=>exact bC (P:=an.wd) trivial trivial
 |d=>trivial
theorem YW {σ}(hx:x.ok)(hk:o.ok x)(hy:y.gd)(h:bU x o tv hg q b σ l)(hw:σ.wd):Ac y (σ.step x o y).2:=by
 have uD:=hx;unfold Xc.ok Tw.ok Lb.ok Ep.ok at uD;have Lc:=hk;unfold Od.ok at Lc;have hW:∀w,Me.ar ((w+1)%18446744073709551616):=λw=>by unfold Me.ar;omega
 cases h with
 |r1 bR h ho=>exact OL (by have:=(hk.2.2 bR).2.2;omega) hy h
 |r2 bR h ho=>exact OM hx.2.1 hy h
 |r3=>exact .add
 |r4 bR hi h ho=>exact Ij hw h
 |r5 bR hi h ho=>exact ON hy h
 |r6 bR he h ho=>exact Ii hx.2.1 hy h
 |t1 bR hh h ho=>exact Kt hy h
 |t2 bR hh Bi hi h ho=>exact yX hy h
 |@t3 z i hd w lm qm qf fv fe a1 a2 a3 a5 a6 a7 a9 a10 a11 a12 bR hh Bi hi dt h ho=>
  cases h with
  |l=>exact .ld hy
  |s hi EK=>exact .eL hy (EV am (by split<;>omega) EK)
  |d=>exact .z
 |t4 bR hh Bi hi dt h ho=>exact LZ hx.1 am dt.1 hy h
 |@t5 z i w e lm qm w2 a1 a2 a3 a5 a6 a7 a8 a9 a10 a11 a12 bR he h ho=>
  cases h with
  |l=>exact .ld hy
  |s hi EK=>exact .eL hy (EV am (by split<;>omega) EK)
  |d=>exact .z
 |t6 bR h ho=>exact OK h
 |oX h ho=>exact TO hx.1 hy h
 |p1=>exact .ld hy
 |p2 bR h ho=>exact TN hx.1 hy h
 |p3 hi h ho=>exact yW am am hy h
 |p4 hi=>exact .st (by unfold Jb.ok Sk.ok at uD;unfold Me.ar;omega)
 |p5=>exact .st hw
 |s1=>exact .ld hy
 |s2=>exact .st w0
 |s3=>exact .ld hy
 |s4 bR hh hi h ho=>exact yX hy h
 |s5 bR hh hi dt h ho=>exact yW am am hy h
 |s6=>exact .st (by unfold Me.ar;omega)
 |s7 bR hh hi dt h ho=>exact Ij (hW _) h
 |s8 bR hh hi dt h ho=>exact LZ hx.1 am (hW _) hy h
 |s9=>exact .st w0
 |b1 bR hi he h ho=>exact Ij hw h
 |b2 bR he h ho=>exact yW am am hy h
 |b3=>exact .st hw
 |b4=>exact .st (by unfold Me.ar;omega)
 |c1=>exact .ld hy
 |c2 bR hi h ho=>exact yX hy h
 |c3 bR hi h ho=>exact yW am am hy h
 |c4=>exact .st w0
 |c5=>exact .st (by unfold Me.ar;omega)
 |c6 bR h ho=>exact Ii hx.2.1 hy h
 |d=>exact .z
end
end Go.cO
