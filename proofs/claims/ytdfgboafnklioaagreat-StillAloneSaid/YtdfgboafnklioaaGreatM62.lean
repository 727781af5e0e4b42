/- Contracts of functions, over the abstract machine. Conditions: stated in each theorem. -/
import Derived.Test.YtdfgboafnklioaaGreatM61
set_option linter.all false
set_option maxRecDepth 100000
set_option maxHeartbeats 4000000
namespace Go.cY
open Go.Proofs
section
theorem Mq:eV EM.P 2 184=some [some .i64,some .u64]:=by kernel_rfl
theorem QF:EM.P.eqGuardType EM.P.depth 184=false:=by kernel_rfl
theorem QG:ny EM.P 184=true:=by kernel_rfl
theorem Vx.QH {own ro Φ K}{a b c d:Int}{k}(h1:a=c)(h2:b=d)(h:Zx EM false (k (B true)) K own ro Φ):Vx EM (.op (.eq 184 false (.agg [I a,U b]) (.agg [I c,U d])) k) K own ro Φ:=by
 subst h1 h2
 exact fun B W S H=>CZ (vs:=[.int .i64 a,.int .u64 b]) Mq (by omega) QG QF rfl (h.ok B W S H)
def av.err:av→Int|.d _ _ e _=>e|_=>14
theorem eF.busy {x o}{q:Nat}{b:Int}{σ l}(h:eF x o q b σ l)(ho:σ.over=false):∃(sv uv:AV) (i key au e:Int) (L:List (List AV)) (c:List AV) (r:List Own),l=.obj q (.row (x.row o.k o.c sv uv i key au false b e))::.sl sv 1 (L++[c])::r:=by
 cases h<;>first|(cases ho;done)|exact⟨_,_,_,_,_,_,_,_,_,rfl⟩
theorem bM.busy {x o tv}{hg:Int}{q:Nat}{b:Int}{σ l}(h:bM x o tv hg q b σ l)(ho:σ.over=false):∃(ln:Int) (a1 a2 a3 a4 a5 a6 a7 a8 a9 a10 a11 a12:AV) (i w e:Int) (n:Bool) (r:List Own),ln≠99∧l=.obj q (.row (x.bX tv o hg ln a1 a2 a3 a4 a5 a6 a7 a8 a9 a10 a11 a12 i w b e n))::r:=by
 cases h<;>first|(cases ho;done)|exact⟨_,_,_,_,_,_,_,_,_,_,_,_,_,_,_,_,_,_,by decide,rfl⟩
instance aaj {n:Nat}[Mn n [102,104,105,107,103,47,106,108]]:cF n where
section
variable{B0 S:AH}{W:List Nat}{R l l':List Own}{ro:List aQ}{x:Xc}{o:Od}{tv:AV}{hg b:Int}{q q':Nat}{σ:av}
theorem GK (hk:o.k≠0)(h:eF x o q b σ l)(H:Cx B0 W S (l++R) ro):
  aO EM (zF 104) [.ptr q 0] S fun u S'=>∃ab,(u=I σ.err∧ab=l++R)∧Cx B0 W S' ab ro:=by
 cases ho:σ.over with
 |false=>
  obtain⟨sv,uv,i,key,au,e,L,c,r,rfl⟩:=h.busy ho
  have he:σ.err=14:=by cases σ<;>first|rfl|cases ho
  rw[he]
  (
   simp only[Xc.row,Xc.bX,Xc.cs,Tw.cs,Lb.cs,Ar.cs,Ep.cs,lA,lB,lC] at H⊢
   refine Vx.fm H rfl (b:=Tryz.a104) ?_
   (repeat' first|constructor|exact ZQ|intro _)
   all_goals apply zL
   all_goals first
    |(exfalso;simp only[Int.ofNat_eq_natCast,List.length_append,List.length_cons,List.length_nil] at*;omega)
    |exact⟨rfl,rfl,_,⟨rfl,rfl⟩,HQ⟩)
 |true=>
  cases h<;>first|(cases ho;done)|skip
  case d hs hw=>
  cases hs with
  |n=>(
       simp only[Xc.row,Xc.bX,Xc.cs,Tw.cs,Lb.cs,Ar.cs,Ep.cs,lA,lB,lC] at H⊢
       refine Vx.fm H rfl (b:=Tryz.a104) ?_
       (repeat' first|constructor|exact ZQ|intro _)
       all_goals apply zL
       all_goals first
        |(exfalso;simp only[Int.ofNat_eq_natCast,List.length_append,List.length_cons,List.length_nil] at*;omega)
        |exact⟨rfl,rfl,_,⟨rfl,rfl⟩,HQ⟩)
  |s h1 h2 h3=>(
                simp only[Xc.row,Xc.bX,Xc.cs,Tw.cs,Lb.cs,Ar.cs,Ep.cs,lA,lB,lC] at H⊢
                refine Vx.fm H rfl (b:=Tryz.a104) ?_
                (repeat' first|constructor|exact ZQ|intro _)
                all_goals apply zL
                all_goals first
                 |(exfalso;simp only[Int.ofNat_eq_natCast,List.length_append,List.length_cons,List.length_nil] at*;omega)
                 |exact⟨rfl,rfl,_,⟨rfl,rfl⟩,HQ⟩)
theorem Cq (h:bM x o tv hg q b σ l)(H:Cx B0 W S (l++R) ro):
  aO EM (zF 47) [.ptr q 0] S fun u S'=>∃ab,(u=I σ.err∧ab=l++R)∧Cx B0 W S' ab ro:=by
 cases ho:σ.over with
 |false=>
  obtain⟨ln,a1,a2,a3,a4,a5,a6,a7,a8,a9,a10,a11,a12,i,w,e,n,r,JB,rfl⟩:=h.busy ho
  have he:σ.err=14:=by cases σ<;>first|rfl|cases ho
  rw[he]
  (
   simp only[Xc.row,Xc.bX,Xc.cs,Tw.cs,Lb.cs,Ar.cs,Ep.cs,lA,lB,lC] at H⊢
   refine Vx.fm H rfl (b:=Tryz.a47) ?_
   (repeat' first|constructor|exact ZQ|intro _)
   all_goals apply zL
   all_goals first
    |(exfalso;simp only[Int.ofNat_eq_natCast,List.length_append,List.length_cons,List.length_nil] at*;omega)
    |exact⟨rfl,rfl,_,⟨rfl,rfl⟩,HQ⟩)
 |true=>
  cases h<;>first|(cases ho;done)|skip
  case d hw=>(
              simp only[Xc.row,Xc.bX,Xc.cs,Tw.cs,Lb.cs,Ar.cs,Ep.cs,lA,lB,lC] at H⊢
              refine Vx.fm H rfl (b:=Tryz.a47) ?_
              (repeat' first|constructor|exact ZQ|intro _)
              all_goals apply zL
              all_goals first
               |(exfalso;simp only[Int.ofNat_eq_natCast,List.length_append,List.length_cons,List.length_nil] at*;omega)
               |exact⟨rfl,rfl,_,⟨rfl,rfl⟩,HQ⟩)
theorem rK (hk:o.k≠0)(h:eF x o q b σ l)(h':bM x o tv hg q' b σ l')(H:Cx B0 W S (l++(l'++R)) ro):
  aO EM (zF 22) [.agg [.ptr q 0,.ptr q' 0]] S fun u S'=>∃ab,(u=B true∧ab=l++(l'++R))∧Cx B0 W S' ab ro:=by
 cases ho:σ.over with
 |false=>
  obtain⟨sv,uv,i,key,au,e,L,c,r,rfl⟩:=h.busy ho
  obtain⟨ln,a1,a2,a3,a4,a5,a6,a7,a8,a9,a10,a11,a12,i',w,e',n,r',JB,rfl⟩:=h'.busy ho
  simp only[Xc.row,Xc.bX,Xc.cs,Tw.cs,Lb.cs,Ar.cs,Ep.cs,lA,lB,lC] at H⊢
  refine Vx.fm H rfl (b:=Tryz.a22) ?_
  (repeat' first|constructor|exact ZQ|intro _)
  all_goals apply zL
  all_goals first
   |(exfalso;simp only[Int.ofNat_eq_natCast,List.length_append,List.length_cons,List.length_nil] at*;omega)
   |skip
  refine Vx.QH rfl rfl ?_
  (repeat' first|constructor|exact ZQ|intro _)
  all_goals apply zL
  all_goals first
   |(exfalso;simp only[Int.ofNat_eq_natCast,List.length_append,List.length_cons,List.length_nil] at*;omega)
   |exact⟨rfl,rfl,_,⟨rfl,rfl⟩,HQ⟩
 |true=>
  cases h<;>first|(cases ho;done)|skip
  case d i w e i1 key au n sv uv fA hs hw=>
  cases h' with
  |@d _ _ _ i2 w2 _ a1 a2 a3 a4 a5 a6 a7 a8 a9 a10 a11 a12 cV=>
  have hn:e=0→n=false→i2=i1∧w2=key:=fun h1 h2=>⟨(cV h1 h2).1.trans (hw h1 h2).1.symm,(cV h1 h2).2.trans (hw h1 h2).2.symm⟩
  cases hs<;>(
   simp only[Xc.row,Xc.bX,Xc.cs,Tw.cs,Lb.cs,Ar.cs,Ep.cs,lA,lB,lC] at H⊢
   refine Vx.fm H rfl (b:=Tryz.a22) ?_
   cases n<;>(
    (repeat' first|constructor|exact ZQ|intro _)
    all_goals apply zL
    all_goals(
     refine Vx.QH (by first|rfl|exact(hn (by omega) rfl).1.symm) (by first|rfl|exact(hn (by omega) rfl).2.symm) ?_
     (repeat' first|constructor|exact ZQ|intro _)
     all_goals apply zL
     all_goals exact⟨rfl,rfl,_,⟨rfl,rfl⟩,HQ⟩)))
end
end
section
def Ac (y y':Me):Prop:=y'=y∨∃k a w h,Me.ar w∧y'=y.acc k a w h
theorem Ac.z {y}:Ac y y:=.inl rfl
theorem Ac.ld {y}{a:Int}(hy:y.gd):Ac y (y.ld a):=.inr ⟨_,_,_,_,Me.ai hy a,rfl⟩
theorem Ac.st {y}{a w:Int}(hw:Me.ar w):Ac y (y.st a w):=.inr ⟨_,_,_,_,hw,rfl⟩
theorem Ac.eh {y}{a o n:Int}(hy:y.gd)(hw:Me.ar n):Ac y (y.eh a o n):=by
 refine .inr ⟨3,a,if y.word a=o then n else y.word a,decide (y.word a=o),?_,rfl⟩
 split
 ·exact hw
 ·exact Me.ai hy a
theorem Ac.add {y}{a n:Int}:Ac y (y.add a n):=.inr ⟨_,_,_,_,⟨Int.emod_nonneg _ (by omega),Int.emod_lt_of_pos _ (by omega)⟩,rfl⟩
theorem Ac.gd {y y'}(h:Ac y y')(hy:y.gd)(hn:y.n<4611686018427387904):y'.gd∧y'.n≤y.n+1∧y'.ws.length=y.ws.length:=by
 rcases h with rfl|⟨k,a,w,h,hw,rfl⟩
 ·exact⟨hy,by omega,rfl⟩
 ·exact⟨Me.KY hy hn hw,by rw[Me.FI];omega,Me.xn⟩
theorem qV {i w:Int}(h:-1≤i∧i<4096)(hw:Me.ar w):Me.ar (yV i w):=by
 unfold Me.ar yV at*
 have:=Int.emod_nonneg (w/65536+1) (show(281474976710656:Int)≠0 by omega)
 have:=Int.emod_lt_of_pos (w/65536+1) (show(0:Int)<281474976710656 by omega)
 omega
section
variable{l lo:List Own}{q:Nat}{x:Me}
theorem JL {s σ}(hs:s.ok)(hx:x.gd)(h:p8 s q σ l):Ac x (σ.step s x).2:=by
 unfold Sk.ok at hs
 cases h with
 |a=>exact .ld hx
 |b=>exact .ld hx
 |c hw hi hj=>exact .eh hx (qV (by omega) hw)
 |d=>exact .z
theorem Be {s}{v:Int}{σ}(hs:s.ok)(hx:x.gd)(h:iD s v q σ l):Ac x (σ.step s v x).2:=by
 unfold Sk.ok at hs
 cases h with
 |a=>exact .ld hx
 |@b w hv hw=>exact .st (by have:=fk (n:=s.size) (w:=w) (by omega);unfold Me.ar;omega)
 |c hv hw=>exact .eh hx (qV (by omega) hw)
 |d=>exact .z
theorem QI {s σ}(hs:s.ok)(hx:x.gd)(h:rE s q σ l):Ac x (σ.step s x).2:=by
 unfold Sk.ok at hs
 cases h with
 |a=>exact .ld hx
 |b hw hi=>exact .eh hx (qV (by omega) hw)
 |d=>exact .z
theorem Iz {a σ}(hs:a.ok)(hx:x.gd)(h:gy a q σ l):Ac x (σ.step a x).2:=by
 cases h with
 |p h ho=>exact JL hs.1 hx h
 |g=>exact .ld hx
 |w=>exact .ld hx
 |d=>exact .z
theorem Mr {a}{v:Int}{σ}(hs:a.ok)(hx:x.gd)(h:lR a v q σ l):Ac x (σ.step a v x).2:=by
 cases h with
 |l=>exact .ld hx
 |r=>exact .st (by unfold Me.ar;omega)
 |u hv h ho=>exact Be hs.1 hx h
 |w=>exact .add
 |d=>exact .z
theorem JM {e}{c:Int}{σ}(hx:x.gd)(h:p9 e c q σ l):Ac x (σ.step e c x).2:=by
 cases h with
 |a=>exact .ld hx
 |b hc hp=>exact .st (by unfold Me.ar;omega)
 |c=>exact .ld hx
 |d=>exact .z
theorem xS {e}{c:Int}{σ}(h:jR e c q σ l):Ac x (σ.step e c x).2:=by
 cases h with
 |a=>exact .st (by unfold Me.ar;omega)
 |d=>exact .z
theorem QJ {e}{c p:Int}{σ}(hx:x.gd)(h:rF e c p q σ l):Ac x (σ.step e c p x).2:=by
 cases h with
 |a=>exact .ld hx
 |b=>exact .ld hx
 |c hc hw hp=>exact .eh hx (by unfold Me.ar at*;omega)
 |d=>exact .z
theorem JN {b}{v:Int}{σ}(hs:b.ok)(hx:x.gd)(h:rG b v q σ l):Ac x (σ.step b v x).2:=by
 cases h with
 |a=>exact .ld hx
 |b hk h ho=>exact Be (Lb.jO hs hk.1 hk.2) hx h
 |d=>exact .z
theorem QK {b}{c p:Int}{σ}(hs:b.ok)(hx:x.gd)(h:l_ b c p q σ l):Ac x (σ.step b c p x).2:=by
 cases h with
 |v hp h ho h2=>exact QJ hx h
 |t hp h ho=>exact QI (Lb.jO hs (by omega) (by omega)) hx h
 |l=>exact .ld hx
 |f hi hn hj h ho=>exact Mr hs.1 hx h
 |d=>exact .z
theorem lN {r:Rn}{t:Int}:0≤r.rY t∧r.rY t<4294967296:=⟨Int.emod_nonneg _ (by omega),Int.emod_lt_of_pos _ (by omega)⟩
theorem IA {r:Rn}{v:Int}{σ:dj}(hx:x.gd)(h:fM r v q σ l):Ac x (σ.step r v x).2:=by
 cases h with
 |a=>exact .ld hx
 |b=>exact .ld hx
 |@c t w hv ht hw=>exact .eh hx (by have:=lN (r:=r) (t:=t);unfold Me.ar;omega)
 |l=>exact .eh hx (by unfold Me.ar;omega)
 |h=>exact .eh hx (by unfold Me.ar;omega)
 |d=>exact .z
theorem IB {r σ}(hx:x.gd)(h:iN r q σ l):Ac x (σ.step r x).2:=by
 cases h with
 |a=>exact .ld hx
 |b=>exact .ld hx
 |d=>exact .z
theorem Ms {r}{h0:Int}{σ}(h:oR r h0 q σ l):Ac x (σ.step r h0 x).2:=by
 cases h with
 |a=>exact .st (by unfold Me.ar;omega)
 |b=>exact .st (by unfold Me.ar;omega)
 |d=>exact .z
theorem Mt {a e n:Int}{σ}(hn:0≤n∧n≤1099511627776)(hx:x.gd)(h:oS a e n q σ l):Ac x (σ.step a e n x).2:=by
 cases h with
 |a=>exact .ld hx
 |b=>exact .eh hx (by unfold Me.ar;omega)
 |d=>exact .z
theorem Dt {s c w:Int}(hs:0≤s∧s<256)(hc:0≤c∧c<64)(hw:Me.ar w):Me.ar (jw s c (w/4294967296)):=by unfold Me.ar jw at*;omega
theorem Mu {j σ}(hs:j.ok)(hx:x.gd)(h:lT j q σ l):Ac x (σ.step j x).2:=by
 cases h with
 |p h ho=>exact JL hs.1 hx h
 |l=>exact .ld hx
 |s=>exact .eh hx (by unfold Me.ar jw;omega)
 |d=>exact .z
 |n=>exact .z
theorem GL {j}{i:Int}{σ}(hs:j.ok)(hx:x.gd)(h:lU j i q σ l):Ac x (σ.step j i x).2:=by
 cases h with
 |l=>exact .ld hx
 |s hi hw=>exact .eh hx (Dt (by omega) (by omega) hw)
 |p hi h ho=>exact Be hs.1 hx h
 |d=>exact .z
theorem xT {j}{i fr to c:Int}{σ}(ht:0≤to∧to<6)(hc:0≤c∧c<64)(hx:x.gd)(h:iE j i fr to c q σ l):Ac x (σ.step j i fr to c x).2:=by
 cases h with
 |l=>exact .ld hx
 |s hi hw=>exact .eh hx (Dt (by omega) (by split<;>omega) hw)
 |d=>exact .z
theorem GM {j}{i k:Int}{σ}(hk:Me.ar k)(h:rH j i k q σ l):Ac x (σ.step j i k x).2:=by
 cases h with
 |a=>exact .st hk
 |d=>exact .z
theorem xU {j}{i:Int}{σ}(hx:x.gd)(h:jS j i q σ l):Ac x (σ.stepOf j i x).2:=by
 cases h with
 |a=>exact .ld hx
 |d=>exact .z
theorem QL {t}{i g key aq high b:Int}{σ}(hj:0≤aq∧aq≤65534∧0≤high∧high≤4)(hk:Me.ar key)(h:nh t i g key aq high q b σ l):Ac x (σ.step t (aC i g) key aq high x).2:=by
 cases h with
 |@s k P3=>
  match k with
  |0=>exact .st hk
  |1=>exact .st (by unfold Me.ar;omega)
  |2=>exact .st (by unfold Me.ar;omega)
  |k+3=>exact .st (by unfold Me.ar;omega)
 |d=>exact .z
theorem xV {t}{key b:Int}{σ}(hx:x.gd)(h:bj t key q b σ l):Ac x (σ.step t key x).2:=by
 cases h with
 |a=>exact .ld hx
 |b=>exact .ld hx
 |c h hc hi hw hm=>exact .eh hx (by unfold Me.ar at*;omega)
 |e=>exact .ld hx
 |d=>exact .z
theorem fL.Cr {t:Tw}{T:fL}(h:T.ok t){v:Nat}:Me.ar (T.cd v).cur:=by
 unfold fL.cd
 cases h0:T[v]? with
 |none=>show Me.ar 0;unfold Me.ar;omega
 |some s=>exact(h.2 s (List.mem_of_getElem? h0)).2.2
theorem QM {t:Tw}{i g key high b:Int}{σ:cS}(hs:t.ok)(hr:t.rf i g)(hx:x.gd)(h:fB t i g key high q b σ l):Ac x (σ.step t (aC i g) key high x).2:=by
 have QN:=ki hr.1
 cases h with
 |f h ho=>exact xV hx h
 |s hl h=>cases h with|d hk hT=>exact .st (fL.Cr hT)
 |e h=>exact .eh hx QN
 |l=>exact .ld hx
 |t hl hw h=>cases h with|d hk hT=>exact .eh hx (fL.Cr hT)
 |k hl h=>exact .eh hx QN
 |g hl h ho=>exact xV hx h
 |o=>exact .ld hx
 |q=>exact .ld hx
 |c h ho=>exact xV hx h
 |r=>exact .add
 |w h ho=>show Ac x (gP.step t.l (t.ix _) _ x).2;rw[Tw.wc hr];exact JN hs.2.2.2.2 hx h
 |d=>exact .z
theorem VZ {t}{look:Bool}{b:Int}{σ}(hs:t.ok)(hx:x.gd)(h:gU t look q b σ l):Ac x (σ.step t look x).2:=by
 cases h with
 |a=>exact .ld hx
 |b=>exact .ld hx
 |c ha hw hm=>exact .eh hx (by unfold Me.ar at*;omega)
 |m=>exact .ld hx
 |n=>exact .ld hx
 |o h hv hl hw hm=>exact .eh hx (by unfold Me.ar at*;omega)
 |k=>exact .ld hx
 |h h hw hm=>exact .eh hx (by unfold Me.ar at*;omega)
 |r=>exact .ld hx
 |j=>exact .ld hx
 |f h hk hF ho=>exact xV hx hF
 |g=>exact .add
 |w hi hk h ho=>exact JN hs.2.2.2.2 hx h
 |d=>exact .z
theorem JO {t}{c key aq high b:Int}{σ}(hs:t.ok)(sB:(0≤aq∧aq≤65534)∧0≤high∧high≤4)(hk:Me.ar key)(hx:x.gd)(h:gz t c key aq high q b σ l):Ac x (σ.step t c key aq high x).2:=by
 cases h with
 |p hn hl h ho=>exact JM hx h
 |a hn hp h ho=>exact Iz hs.2.2.2.2.1 hx h
 |c hn hp h ho=>exact QK hs.2.2.2.2 hx h
 |l hn h ho=>exact xS h
 |y hr h=>exact QL (by omega) hk h
 |i hr h ho=>exact QM hs hr hx h
 |u h ho=>exact xS h
 |d=>exact .z
theorem QO {t}{c b:Int}{look:Bool}{σ}(hs:t.ok)(hx:x.gd)(h:jv t c look q b σ l):Ac x (σ.step t c look x).2:=by
 cases h with
 |p h ho h2=>exact JM hx h
 |c h ho=>exact VZ hs hx h
 |u h ho h2=>exact xS h
 |d=>exact .z
theorem QP {t r}{c b:Int}{σ}(hs:t.ok)(hx:x.gd)(h:iG t r c q b σ l):Ac x (σ.step t r c x).2:=by
 cases h with
 |k h ho=>exact QO hs hx h
 |r0=>exact .ld hx
 |r1=>exact .ld hx
 |f=>exact .st (by unfold Me.ar;omega)
 |d=>exact .z
theorem Mv {r}{v:Int}{σ}(hx:x.gd)(h:lV r v q σ l):Ac x (σ.step r v x).2:=by
 cases h with
 |s h ho=>exact IA hx h
 |d=>exact .z
end
end
section
def b8.wd:b8→Prop
 |.j _ _ key=>Me.ar key
 |.f _ _ key _ _=>Me.ar key
 |.g _ _ key _=>Me.ar key
 |.w _ key _ _=>Me.ar key
 |.d key _ _=>Me.ar key
 |_=>True
def dK.wd:dK→Prop
 |.c s=>s.wd
 |.u _ key _ _=>Me.ar key
 |.d key _ _=>Me.ar key
 |_=>True
def av.wd:av→Prop
 |.r4 _ w _=>Me.ar w
 |.p2 z=>z.wd
 |.p3 _ w _=>Me.ar w
 |.p4 _ w=>Me.ar w
 |.p5 _ w=>Me.ar w
 |.s5 _ w _=>Me.ar w
 |.s6 _ w=>Me.ar w
 |.s7 _ w _=>Me.ar w
 |.s8 _ w _=>Me.ar w
 |.b1 _ w _ _=>Me.ar w
 |.b2 _ w _ _=>Me.ar w
 |.b3 _ w _=>Me.ar w
 |_=>True
theorem w0:Me.ar 0:=by unfold Me.ar;omega
section
variable{l lo:List Own}{q:Nat}{x:Me}{t:Tw}{look:Bool}
theorem bw {α:Type}{P:α→Prop}{c:Prop}[Decidable c]{a b:α}(h1:P a)(h2:P b):P (if c then a else b):=by split<;>assumption
theorem b8.uo {A i:Int}{v:Nat}:(b8.below A i v).wd:=bw (P:=b8.wd) trivial trivial
theorem V0 {σ:b8}(hx:x.gd)(h:σ.wd):(σ.step t look x).1.wd:=by
 cases σ with
 |a=>exact bw (P:=b8.wd) w0 trivial
 |b=>exact bw (P:=b8.wd) trivial (bw (P:=b8.wd) trivial trivial)
 |c=>trivial
 |m=>exact b8.uo
 |n=>exact bw (P:=b8.wd) b8.uo trivial
 |o=>exact bw (P:=b8.wd) b8.uo trivial
 |k=>exact bw (P:=b8.wd) trivial trivial
 |h=>exact bw (P:=b8.wd) trivial trivial
 |r=>exact Me.ai hx _
 |j=>exact bw (P:=b8.wd) h h
 |f=>exact bw (P:=b8.wd) h h
 |g=>exact bw (P:=b8.wd) h h
 |w=>exact bw (P:=b8.wd) h h
 |d=>exact h
theorem QQ {c:Int}{σ:dK}(hx:x.gd)(h:σ.wd):(σ.step t c look x).1.wd:=by
 cases σ with
 |p=>exact bw (P:=dK.wd) trivial trivial
 |c s=>
  have:=V0 (t:=t) (look:=look) hx (show s.wd from h)
  show(dK.jL t c (s.step t look x).1).wd
  generalize(s.step t look x).1=s' at this
  cases s'<;>exact this
 |u=>exact bw (P:=dK.wd) h h
 |d=>exact h
end
section
variable{l:List Own}{q:Nat}{y:Me}{x:Xc}{o:Od}{tv:AV}{hg b:Int}
theorem V1 {σ:av}(hk:o.ok x)(hy:y.gd)(h:bM x o tv hg q b σ l)(hw:σ.wd):(σ.step x o y).1.wd:=by
 cases h with
 |@r1 z lm qm i w a2 a3 a4 a5 a6 a7 a8 a9 a10 a11 a12 bK h ho=>
  show(av.pL x o _).wd
  generalize(z.step _ _ _ y).1=z'
  cases z' with
  |d e=>exact bw (P:=av.wd) trivial trivial
  |_=>trivial
 |@r2 z=>
  show(av.pM x o _).wd
  generalize(z.step x.j y).1=z'
  cases z' with
  |d i e=>exact bw (P:=av.wd) trivial trivial
  |_=>trivial
 |r3 bK hi=>
  have hp:=(hk.2.2 bK).2.1
  show av.wd (if _ then _ else _)
  split
  ·trivial
  ·next hn=>show Me.ar (jM o.prio _);unfold jM Me.ar;omega
 |r4=>exact bw (P:=av.wd) trivial hw
 |@r5 z i w=>
  show(av.pN x o _ _ _).wd
  generalize(z.step _ _ y).1=z'
  cases z' with
  |d e=>exact bw (P:=av.wd) trivial trivial
  |_=>trivial
 |r6=>exact bw (P:=av.wd) trivial trivial
 |@t1 z=>
  show(av.l8 x o _).wd
  generalize(z.step _ y).1=z'
  cases z' with
  |d h v e=>exact bw (P:=av.wd) (bw (P:=av.wd) trivial trivial) trivial
  |_=>trivial
 |@t2 z=>
  show(av.nW x o _ _ _).wd
  generalize(z.stepOf _ _ y).1=z'
  cases z' with
  |d w e=>exact bw (P:=av.wd) trivial trivial
  |_=>trivial
 |t3=>exact bw (P:=av.wd) trivial trivial
 |@t4 z=>
  show(av.pO x o _ _ _ _).wd
  generalize(z.step _ _ _ _ _ y).1=z'
  cases z' with
  |d e=>exact bw (P:=av.wd) trivial trivial
  |_=>trivial
 |t5=>exact bw (P:=av.wd) trivial trivial
 |t6=>exact bw (P:=av.wd) trivial trivial
 |oN=>exact bw (P:=av.wd) trivial trivial
 |p1=>exact bw (P:=av.wd) trivial trivial
 |@p2 z=>
  have:=QQ (t:=x.t) (look:=false) (c:=o.c) hy (show z.wd from hw)
  show(av.jf x o _).wd
  generalize(z.step _ _ _ y).1=z' at this
  cases z' with
  |d key aq e=>exact bw (P:=av.wd) (bw (P:=av.wd) trivial this) (bw (P:=av.wd) trivial trivial)
  |_=>exact this
 |p3=>exact bw (P:=av.wd) hw hw
 |p4=>exact hw
 |p5=>trivial
 |s1=>exact bw (P:=av.wd) trivial trivial
 |s2=>trivial
 |s3=>exact bw (P:=av.wd) trivial trivial
 |@s4 z i lm qm w a1 a2 a3 a4 a5 a7 a8 a9 a10 a11 a12 bK hh hi h ho=>
  show(av.l9 x o _ _).wd
  cases h with
  |a=>exact bw (P:=av.wd) trivial (bw (P:=av.wd) trivial (Me.ai hy _))
  |d=>cases ho
 |s5=>exact bw (P:=av.wd) hw hw
 |s6=>exact hw
 |s7=>exact bw (P:=av.wd) hw hw
 |@s8 z i w=>
  show(av.pP x o _ _ _).wd
  generalize(z.step _ _ _ _ _ y).1=z'
  cases z' with
  |d e=>exact bw (P:=av.wd) trivial hw
  |_=>exact hw
 |s9=>trivial
 |b1=>exact bw (P:=av.wd) hw hw
 |b2=>exact bw (P:=av.wd) hw hw
 |b3=>trivial
 |b4=>trivial
 |c1=>exact bw (P:=av.wd) trivial trivial
 |@c2 z=>
  show(av.rA x o _ _).wd
  generalize(z.stepOf _ _ y).1=z'
  cases z'<;>trivial
 |c3=>exact bw (P:=av.wd) trivial trivial
 |c4=>trivial
 |c5=>trivial
 |c6=>exact bw (P:=av.wd) trivial trivial
 |d=>trivial
theorem V2 {σ}(hx:x.ok)(hk:o.ok x)(hy:y.gd)(h:bM x o tv hg q b σ l)(hw:σ.wd):Ac y (σ.step x o y).2:=by
 have tf:=hx
 unfold Xc.ok Tw.ok Lb.ok Ep.ok at tf
 have Jc:=hk
 unfold Od.ok at Jc
 have hW:∀w,Me.ar ((w+1)%18446744073709551616):=fun w=>by unfold Me.ar;omega
 cases h with
 |r1 bK h ho=>exact Mt (by have:=(hk.2.2 bK).2.2;omega) hy h
 |r2 bK h ho=>exact Mu hx.2.1 hy h
 |r3=>exact .add
 |r4 bK hi h ho=>exact GM hw h
 |r5 bK hi h ho=>exact Mv hy h
 |r6 bK he h ho=>exact GL hx.2.1 hy h
 |t1 bK hh h ho=>exact IB hy h
 |t2 bK hh zP hi h ho=>exact xU hy h
 |@t3 z i hd w lm qm qf fv fe a1 a2 a3 a5 a6 a7 a9 a10 a11 a12 bK hh zP hi cV h ho=>
  cases h with
  |l=>exact .ld hy
  |s hi JJ=>exact .eh hy (Dt (by omega) (by split<;>omega) JJ)
  |d=>exact .z
 |t4 bK hh zP hi cV h ho=>exact JO hx.1 (by omega) cV.1 hy h
 |@t5 z i w e lm qm w2 a1 a2 a3 a5 a6 a7 a8 a9 a10 a11 a12 bK he h ho=>
  cases h with
  |l=>exact .ld hy
  |s hi JJ=>exact .eh hy (Dt (by omega) (by split<;>omega) JJ)
  |d=>exact .z
 |t6 bK h ho=>exact Ms h
 |oN h ho=>exact QP hx.1 hy h
 |p1=>exact .ld hy
 |p2 bK h ho=>exact QO hx.1 hy h
 |p3 hi h ho=>exact xT (by omega) (by omega) hy h
 |p4 hi=>exact .st (by unfold Jb.ok Sk.ok at tf;unfold Me.ar;omega)
 |p5=>exact .st hw
 |s1=>exact .ld hy
 |s2=>exact .st w0
 |s3=>exact .ld hy
 |s4 bK hh hi h ho=>exact xU hy h
 |s5 bK hh hi cV h ho=>exact xT (by omega) (by omega) hy h
 |s6=>exact .st (by unfold Me.ar;omega)
 |s7 bK hh hi cV h ho=>exact GM (hW _) h
 |s8 bK hh hi cV h ho=>exact JO hx.1 (by omega) (hW _) hy h
 |s9=>exact .st w0
 |b1 bK hi he h ho=>exact GM hw h
 |b2 bK he h ho=>exact xT (by omega) (by omega) hy h
 |b3=>exact .st hw
 |b4=>exact .st (by unfold Me.ar;omega)
 |c1=>exact .ld hy
 |c2 bK hi h ho=>exact xU hy h
 |c3 bK hi h ho=>exact xT (by omega) (by omega) hy h
 |c4=>exact .st w0
 |c5=>exact .st (by unfold Me.ar;omega)
 |c6 bK h ho=>exact GL hx.2.1 hy h
 |d=>exact .z
end
end
end Go.cY
