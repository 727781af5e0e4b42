/- Contracts. Conditions: in each theorem. -/
import Derived.Test.YtdfgboafnklioaaGreatM63
set_option linter.all false
set_option maxRecDepth 100000
set_option maxHeartbeats 4000000
namespace Go.cO
open Go.Proofs
def rep (f:Nat->Me->Me):Nat->Me->Me
 |0,y=>y
 |n+1,y=>f n (rep f n y)
def Gd (c:Int)(f:Me->Me):Prop:=∀y:Me,y.gd->y.n+c<=4000000000000000000->(f y).gd/\(f y).n<=y.n+c/\(f y).ws.length=y.ws.length
theorem Gd.st {a w:Int}(hw:Me.ar w):Gd 1 (λy=>y.st a w):=λy hy hn=>Ac.gd (.st hw) hy am
theorem Gd.comp {c d:Int}{f g}(hf:Gd c f)(hg:Gd d g)(hd:0<=d):Gd (c+d) (λy=>g (f y)):=λy hy hn=>by have h1:=hf y hy am;have h2:=hg (f y) h1.1 am;exact⟨h2.1,by show(g (f y)).n<=_;omega,h2.2.2.trans h1.2.2⟩
theorem Gd.rep {c:Int}{f}(hc:0<=c):∀n:Nat,(∀i,i<n->Gd c (f i))->Gd (n*c) (rep f n)
 |0,_=>λy hy hn=>⟨hy,by simp[cO.rep],rfl⟩
 |n+1,h=>by
  have:=(Gd.rep hc n λi hi=>h i am).comp (h n am) hc;have e:((n+1:Nat):Int)*c=n*c+c:=by rw[Int.natCast_add,Int.add_mul];simp
  rw[e];exact this
theorem Gd.mono {c d:Int}{f}(h:Gd c f)(hd:c<=d):Gd d f:=λy hy hn=>by have:=h y hy am;exact⟨this.1,am,this.2.2⟩
def Sk.fill (s:Sk)(y:Me):Me:=rep (λi y=>y.st (s.gp+i) (if(i:Int)+1=s.size then 0 else i+2)) s.size.toNat (y.st s.top 1)
def Ar.fill (a:Ar)(y:Me):Me:=rep (λi y=>y.st (a.km+i) 1) a.f.size.toNat ((a.f.fill y).st a.lW 0)
def Ep.fill (e:Ep)(y:Me):Me:=rep (λi y=>y.st (e.pins+i) 0) e.ah.toNat (y.st e.cb 0)
def Lb.fill (l:Lb)(y:Me):Me:=rep (λi y=>y.st (l.vd+i) 0) 3 (l.e.fill (l.a.fill y))
def Tw.fill (t:Tw)(y:Me):Me:=rep (λi y=>y.st (t.hd+i) 0) t.ht.toNat (t.l.fill y)
def fy (first many:Int)(y:Me):Me:=rep (λi y=>y.st (first+i) 0) many.toNat y
def Jb.fill (j:Jb)(y:Me):Me:=rep (λi y=>(y.st (j.bE+i) (jw 1 0 1)).st (j.keys+i) 0) j.f.size.toNat (j.f.fill y)
def Rn.fill (r:Rn)(y:Me):Me:=rep (λi y=>y.st (r.eY+i) 0) r.size.toNat ((y.st r.head 0).st r.tail 0)
def jn (f ah room:Int)(y:Me):Me:=rep (λc y=>Rn.fill ⟨f+c*(room+2),f+c*(room+2)+1,f+c*(room+2)+2,room⟩ y) ah.toNat y
def Rs.fill (r:Rs)(y:Me):Me:=rep (λi y=>(y.st (r.runs+i) 18446744073709551615).st (r.flags+i) 0) r.ah.toNat y
def Xc.fill (x:Xc)(y:Me):Me:=(rep (λi y=>y.st (x.own+i) 0) x.t.l.e.ah.toNat (x.r.fill (jn x.iW x.aJ x.room (x.j.fill (fy x.cn x.many (x.t.fill y)))))).st x.seq 0
theorem Sk.ba {s:Sk}(hs:s.ok):Gd 5000 s.fill:=by unfold Sk.ok at hs;refine(Gd.comp (Gd.st (a:=s.top) (w:=1) (by unfold Me.ar;omega)) (Gd.rep (c:=1) am s.size.toNat λi hi=>Gd.st (by unfold Me.ar;split<;>omega)) am).mono am
theorem Ar.ba {a:Ar}(hs:a.ok):Gd 10000 a.fill:=by have h:=hs.1;unfold Sk.ok at h;exact(((Sk.ba hs.1).comp (Gd.st (a:=a.lW) w0) am).comp (Gd.rep (c:=1) am a.f.size.toNat λi hi=>Gd.st (by unfold Me.ar;omega)) am).mono am
theorem Ep.ba {e:Ep}(hs:e.ok):Gd 100 e.fill:=by unfold Ep.ok at hs;exact((Gd.st (a:=e.cb) w0).comp (Gd.rep (c:=1) am e.ah.toNat λi hi=>Gd.st w0) am).mono am
theorem Lb.ba {l:Lb}(hs:l.ok):Gd 11000 l.fill:=
 (((Ar.ba hs.1).comp (Ep.ba hs.2.1) am).comp (Gd.rep (c:=1) am 3 λi hi=>Gd.st w0) am).mono am
theorem Tw.ba {t:Tw}(hs:t.ok):Gd 12000 t.fill:=by have h:=hs;unfold Tw.ok at h;exact((Lb.ba hs.2.2.2.2).comp (Gd.rep (c:=1) am t.ht.toNat λi hi=>Gd.st w0) am).mono am
theorem vQ {f n:Int}(h:0<=n/\n<=4096):Gd 5000 (fy f n):=(Gd.rep (c:=1) am n.toNat λi hi=>Gd.st w0).mono am
theorem Jb.ba {j:Jb}(hs:j.ok):Gd 15000 j.fill:=by have h:=hs.1;unfold Sk.ok at h;exact((Sk.ba hs.1).comp (Gd.rep (c:=2) am j.f.size.toNat λi hi=>((Gd.st (by unfold Me.ar jw;omega)).comp (Gd.st w0) am)) am).mono am
theorem Rn.ba {r:Rn}(h:1<=r.size/\r.size<=4096):Gd 5000 r.fill:=
 (((Gd.st (a:=r.head) w0).comp (Gd.st (a:=r.tail) w0) am).comp (Gd.rep (c:=1) am r.size.toNat λi hi=>Gd.st w0) am).mono am
theorem vR {f n r:Int}(h:0<=n/\n<=64)(hr:1<=r/\r<=16):Gd 320000 (jn f n r):=(Gd.rep (c:=5000) am n.toNat λi hi=>Rn.ba (by dsimp only;omega)).mono am
theorem Rs.ba {r:Rs}(h:0<=r.ah/\r.ah<=64):Gd 200 r.fill:=(Gd.rep (c:=2) am r.ah.toNat λi hi=>((Gd.st (by unfold Me.ar;omega)).comp (Gd.st w0) am)).mono am
theorem Xc.ba {x:Xc}(hx:x.ok):Gd 400000 x.fill:=by have h:=hx;unfold Xc.ok Tw.ok Lb.ok Ep.ok Rs.ok at h;exact(((((((Tw.ba hx.1).comp (vQ (f:=x.cn) (n:=x.many) am) am).comp (Jb.ba hx.2.1) am).comp (vR (f:=x.iW) (n:=x.aJ) (r:=x.room) am am) am).comp (Rs.ba (r:=x.r) am) am).comp (Gd.rep (c:=1) am x.t.l.e.ah.toNat λi hi=>Gd.st (a:=x.own+i) w0) am).comp (Gd.st (a:=x.seq) w0) am).mono am
theorem Vx.forM {M ro Φ K body outs}(C:List Own->List Own)(mm:Me->List Own)(f:Nat->Me->Me)(N:Nat)(st:Nat->List AV){y0 R}
  (hs:∀i:Nat,i<N->(Vx M (.ret .normal (st (i+1))) (.loop body outs::K) (C (mm (rep f (i+1) y0)++R)) ro Φ)->Zx M false (body (st i)) (.loop body outs::K) (C (mm (rep f i y0)++R)) ro Φ)
  (he:Zx M false (body (st N)) (.loop body outs::K) (C (mm (rep f N y0)++R)) ro Φ):Vx M (.loop (st 0) body outs) K (C (mm y0++R)) ro Φ:=by
 have key:∀k i:Nat,i+k=N->Vx M (body (st i)) (.loop body outs::K) (C (mm (rep f i y0)++R)) ro Φ:=by
  intro k;induction k with
  |zero=>
   intro i hi;obtain rfl:i=N:=am;exact he.ok
  |succ k ih=>intro i hi;exact(hs i am (Vx.Qj (ih (i+1) am))).ok
 exact Vx.loop (key N 0 am)
instance ack:cH 247 where
instance acm:cH 237 where
section
variable{B0 S:AH}{W:List Nat}{R R0:List Own}{ro:List aB}{m bl:Nat}{y:Me}{rest:List AV}
theorem OX {a b c:Int}(hs:(Sk.mk a b c).ok)(hy:y.gd)(hn:y.n<=1000000000000000)(H:Cx B0 W S (ad m bl y rest++R) ro):
  aG EM (zF 159) [.agg [I a,I b,I c],.ptr m 0] S λu S'=>∃ab,(u=uv/\ab=ad m bl ((Sk.mk a b c).fill y) rest++R)/\Cx B0 W S' ab ro:=by
 have bt:=hs;unfold Sk.ok at bt;dsimp only at bt;unfold Sk.fill;refine Vx.fm H rfl ?_;have hg:=Gd.st (a:=a) (w:=1) (by unfold Me.ar;omega) y hy am;have Ef:(y.st a 1).n<=y.n+1:=hg.2.1;have wV:∀i:Nat,i<=c.toNat->(rep (λi y=>y.st (b+i) (if(i:Int)+1=c then 0 else i+2)) i (y.st a 1)).gd:=λi hi=>(Gd.rep (c:=1) am i (λj hj=>Gd.st (by unfold Me.ar;split<;>omega)) (y.st a 1) hg.1 am).1;refine z1 ?_;intros;simp only[Int.zero_add];refine Vx.forM (C:=λl=>_::_::l) (mm:=(ad m bl · rest)) (f:=λi y=>y.st (b+i) (if(i:Int)+1=c then 0 else i+2)) c.toNat (λi=>[I (i:Int),match i with|0=>.no|i+1=>I (if(i:Int)+1=c then-1 else i+1)]) ?_ ?_
 .intro i hi iH;have ma:=wV i am;refine z2 ?_ ?_<;>intros
  .next h1 h=>simp only[if_pos h] at iH;rw[show(-1+1:Int)=(if(i:Int)+1=c then 0 else(i:Int)+2) by rw[if_pos h];rfl];exact iH
  .next h1 h=>simp only[if_neg h] at iH;rw[show((i:Int)+1+1:Int)=(if(i:Int)+1=c then 0 else(i:Int)+2) by rw[if_neg h];omega];exact iH
 .have ma:=wV _ (Nat.le_refl _);refine z1 ?_;intros;exact⟨rfl,rfl,_,⟨rfl,rfl⟩,HQ⟩
end
theorem SC.mk' {M f args own ab R0}{P:Prop}{v}(h:P->∀(R:List Own) (ro:List aB) B W S,Cx B W S (own++R) ro->aG M f args S λu S'=>∃o,(u=v/\o=ab++R)/\Cx B W S' o ro):SC M f args (own++R0) P v (ab++R0) where
 ok:=λhp ro R B W S H=>aw (h hp (R0++R) ro B W S (by rwa[lC] at H)) λr S' ⟨o,⟨h1,h2⟩,h3⟩=>⟨h1,by subst h2;rwa[lC]⟩
def bP (k:Int)(y:Me):Prop:=y.gd/\y.n<=k
theorem bP.of {c k d:Int}{f y}(hf:Gd c f)(h:bP k y)(hc:0<=c/\k+c<=d)(hd:d<=1000000000000000000):bP d (f y):=by have:=hf y h.1 (by have:=h.2;omega);exact⟨this.1,by have:=h.2;omega⟩
section
variable{B0 S:AH}{W:List Nat}{R R0:List Own}{ro:List aB}{m bl:Nat}{y:Me}{rest:List AV}
instance VO {a b c:Int}:SC EM (zF 159) [.agg [I a,I b,I c],.ptr m 0] (ad m bl y rest++R0) ((Sk.mk a b c).ok/\bP 1000000000000000 y) uv (ad m bl ((Sk.mk a b c).fill y) rest++R0):=SC.mk' λh R ro B W S H=>OX h.1 h.2.1 h.2.2 H
instance acn {n:Nat}[Mn n [365,362,138,140,158,246,245,160]]:cH n where
theorem OY {a b c g w li:Int}(hs:(Ar.mk ⟨a,b,c⟩ g w li).ok)(hy:bP 100000000000000 y)(H:Cx B0 W S (ad m bl y rest++R) ro):
  aG EM (zF 243) [.agg [I a,I b,I c,I g,I w,I li],.ptr m 0] S λu S'=>∃ab,(u=uv/\ab=ad m bl ((Ar.mk ⟨a,b,c⟩ g w li).fill y) rest++R)/\Cx B0 W S' ab ro:=by
 have bt:=hs;unfold Ar.ok Sk.ok at bt;dsimp only at bt;unfold Ar.fill;dsimp only;have h1:bP 200000000000000 ((Sk.mk a b c).fill y):=.of (Sk.ba hs.1) hy am am;have h2:bP 300000000000000 (((Sk.mk a b c).fill y).st w 0):=bP.of (c:=1) (f:=λy=>y.st w 0) (Gd.st w0) h1 am am;have hi:∀i:Nat,i<=c.toNat->bP 400000000000000 (rep (λi y=>y.st (g+i) 1) i (((Sk.mk a b c).fill y).st w 0)):=λi hi=>bP.of (c:=i*1) (Gd.rep (c:=1) am i (λj hj=>Gd.st (by unfold Me.ar;omega))) h2 am am;have h0:(Sk.mk a b c).ok/\bP 1000000000000000 y:=⟨hs.1,hy.1,by have:=hy.2;omega⟩;have g1:=h1.1;refine y1 H rfl ?_;intros;refine Vx.forM (C:=λl=>_::_::l) (mm:=(ad m bl · rest)) (f:=λi y=>y.st (g+i) 1) c.toNat (λi=>[I (i:Int)]) ?_ ?_
 .intro i kj iH;have ma:=(hi i am).1;exact zZ;all_goals exact iH
 .have ma:=(hi _ (Nat.le_refl _)).1;refine z1 ?_;intros;exact⟨rfl,rfl,_,⟨rfl,rfl⟩,HQ⟩
instance VP {a b c g w li:Int}:SC EM (zF 243) [.agg [I a,I b,I c,I g,I w,I li],.ptr m 0] (ad m bl y rest++R0) ((Ar.mk ⟨a,b,c⟩ g w li).ok/\bP 100000000000000 y) uv (ad m bl ((Ar.mk ⟨a,b,c⟩ g w li).fill y) rest++R0):=SC.mk' λh R ro B W S H=>OY h.1 h.2 H
theorem OZ {a b c:Int}(hs:(Ep.mk a b c).ok)(hy:bP 100000000000000 y)(H:Cx B0 W S (ad m bl y rest++R) ro):
  aG EM (zF 244) [.agg [I a,I b,I c],.ptr m 0] S λu S'=>∃ab,(u=uv/\ab=ad m bl ((Ep.mk a b c).fill y) rest++R)/\Cx B0 W S' ab ro:=by
 have bt:=hs;unfold Ep.ok at bt;dsimp only at bt;unfold Ep.fill;dsimp only;have h1:bP 200000000000000 (y.st a 0):=bP.of (c:=1) (f:=λy=>y.st a 0) (Gd.st w0) hy am am;have hi:∀i:Nat,i<=c.toNat->bP 400000000000000 (rep (λi y=>y.st (b+i) 0) i (y.st a 0)):=λi hi=>bP.of (c:=i*1) (Gd.rep (c:=1) am i (λj hj=>Gd.st w0)) h1 am am;have g0:=hy.1;have g1:=h1.1;refine y1 H rfl ?_;intros
 (first|refine Vx.forM (C:=λl=>_::l) (mm:=(ad m bl · rest)) (f:=(λi y=>y.st (b+i) 0)) (Int.toNat c) (λi=>[I (i:Int)]) ?_ ?_|refine Vx.forM (C:=λl=>_::_::l) (mm:=(ad m bl · rest)) (f:=(λi y=>y.st (b+i) 0)) (Int.toNat c) (λi=>[I (i:Int)]) ?_ ?_|refine Vx.forM (C:=λl=>_::_::_::l) (mm:=(ad m bl · rest)) (f:=(λi y=>y.st (b+i) 0)) (Int.toNat c) (λi=>[I (i:Int)]) ?_ ?_|refine Vx.forM (C:=λl=>_::_::_::_::l) (mm:=(ad m bl · rest)) (f:=(λi y=>y.st (b+i) 0)) (Int.toNat c) (λi=>[I (i:Int)]) ?_ ?_|refine Vx.forM (C:=λl=>_::_::_::_::_::l) (mm:=(ad m bl · rest)) (f:=(λi y=>y.st (b+i) 0)) (Int.toNat c) (λi=>[I (i:Int)]) ?_ ?_|refine Vx.forM (C:=λl=>_::_::_::_::_::_::l) (mm:=(ad m bl · rest)) (f:=(λi y=>y.st (b+i) 0)) (Int.toNat c) (λi=>[I (i:Int)]) ?_ ?_)
 .intro i kj iH;have ma:=(hi i am).1;exact zZ;all_goals exact iH
 .have ma:=(hi _ (Nat.le_refl _)).1;refine z1 ?_;intros;exact⟨rfl,rfl,_,⟨rfl,rfl⟩,HQ⟩
instance VQ {a b c:Int}:SC EM (zF 244) [.agg [I a,I b,I c],.ptr m 0] (ad m bl y rest++R0) ((Ep.mk a b c).ok/\bP 100000000000000 y) uv (ad m bl ((Ep.mk a b c).fill y) rest++R0):=SC.mk' λh R ro B W S H=>OZ h.1 h.2 H
theorem O3 {a n:Int}(hs:1<=n/\n<=32/\0<=a/\a<100000)(hy:bP 100000000000000 y)(H:Cx B0 W S (ad m bl y rest++R) ro):
  aG EM (zF 68) [.agg [I a,I n],.ptr m 0] S λu S'=>∃ab,(u=uv/\ab=ad m bl (fy a n y) rest++R)/\Cx B0 W S' ab ro:=by
 unfold fy;have hi:∀i:Nat,i<=n.toNat->bP 400000000000000 (rep (λi y=>y.st (a+i) 0) i y):=λi hi=>bP.of (c:=i*1) (Gd.rep (c:=1) am i (λj hj=>Gd.st w0)) hy am am;refine y1 H rfl ?_;intros
 (first|refine Vx.forM (C:=λl=>_::l) (mm:=(ad m bl · rest)) (f:=(λi y=>y.st (a+i) 0)) (Int.toNat n) (λi=>[I (i:Int)]) ?_ ?_|refine Vx.forM (C:=λl=>_::_::l) (mm:=(ad m bl · rest)) (f:=(λi y=>y.st (a+i) 0)) (Int.toNat n) (λi=>[I (i:Int)]) ?_ ?_|refine Vx.forM (C:=λl=>_::_::_::l) (mm:=(ad m bl · rest)) (f:=(λi y=>y.st (a+i) 0)) (Int.toNat n) (λi=>[I (i:Int)]) ?_ ?_|refine Vx.forM (C:=λl=>_::_::_::_::l) (mm:=(ad m bl · rest)) (f:=(λi y=>y.st (a+i) 0)) (Int.toNat n) (λi=>[I (i:Int)]) ?_ ?_|refine Vx.forM (C:=λl=>_::_::_::_::_::l) (mm:=(ad m bl · rest)) (f:=(λi y=>y.st (a+i) 0)) (Int.toNat n) (λi=>[I (i:Int)]) ?_ ?_|refine Vx.forM (C:=λl=>_::_::_::_::_::_::l) (mm:=(ad m bl · rest)) (f:=(λi y=>y.st (a+i) 0)) (Int.toNat n) (λi=>[I (i:Int)]) ?_ ?_)
 .intro i kj iH;have ma:=(hi i am).1;exact zZ;all_goals exact iH
 .have ma:=(hi _ (Nat.le_refl _)).1;refine z1 ?_;intros;exact⟨rfl,rfl,_,⟨rfl,rfl⟩,HQ⟩
instance VR {a n:Int}:SC EM (zF 68) [.agg [I a,I n],.ptr m 0] (ad m bl y rest++R0) ((1<=n/\n<=32/\0<=a/\a<100000)/\bP 100000000000000 y) uv (ad m bl (fy a n y) rest++R0):=SC.mk' λh R ro B W S H=>O3 h.1 h.2 H
theorem O4 {a b c n:Int}(hs:(Rn.mk a b c n).ok)(hy:bP 100000000000000 y)(H:Cx B0 W S (ad m bl y rest++R) ro):
  aG EM (zF 163) [.agg [I a,I b,I c,I n],.ptr m 0] S λu S'=>∃ab,(u=uv/\ab=ad m bl ((Rn.mk a b c n).fill y) rest++R)/\Cx B0 W S' ab ro:=by
 have bt:=hs;unfold Rn.ok at bt;dsimp only at bt;unfold Rn.fill;dsimp only;have h1:bP 200000000000000 (y.st a 0):=bP.of (c:=1) (f:=λy=>y.st a 0) (Gd.st w0) hy am am;have h2:bP 300000000000000 ((y.st a 0).st b 0):=bP.of (c:=1) (f:=λy=>y.st b 0) (Gd.st w0) h1 am am;have hi:∀i:Nat,i<=n.toNat->bP 400000000000000 (rep (λi y=>y.st (c+i) 0) i ((y.st a 0).st b 0)):=λi hi=>bP.of (c:=i*1) (Gd.rep (c:=1) am i (λj hj=>Gd.st w0)) h2 am am;have g0:=hy.1;have g1:=h1.1;refine y1 H rfl ?_;intros
 (first|refine Vx.forM (C:=λl=>_::l) (mm:=(ad m bl · rest)) (f:=(λi y=>y.st (c+i) 0)) (Int.toNat n) (λi=>[I (i:Int)]) ?_ ?_|refine Vx.forM (C:=λl=>_::_::l) (mm:=(ad m bl · rest)) (f:=(λi y=>y.st (c+i) 0)) (Int.toNat n) (λi=>[I (i:Int)]) ?_ ?_|refine Vx.forM (C:=λl=>_::_::_::l) (mm:=(ad m bl · rest)) (f:=(λi y=>y.st (c+i) 0)) (Int.toNat n) (λi=>[I (i:Int)]) ?_ ?_|refine Vx.forM (C:=λl=>_::_::_::_::l) (mm:=(ad m bl · rest)) (f:=(λi y=>y.st (c+i) 0)) (Int.toNat n) (λi=>[I (i:Int)]) ?_ ?_|refine Vx.forM (C:=λl=>_::_::_::_::_::l) (mm:=(ad m bl · rest)) (f:=(λi y=>y.st (c+i) 0)) (Int.toNat n) (λi=>[I (i:Int)]) ?_ ?_|refine Vx.forM (C:=λl=>_::_::_::_::_::_::l) (mm:=(ad m bl · rest)) (f:=(λi y=>y.st (c+i) 0)) (Int.toNat n) (λi=>[I (i:Int)]) ?_ ?_)
 .intro i kj iH;have ma:=(hi i am).1;exact zZ;all_goals exact iH
 .have ma:=(hi _ (Nat.le_refl _)).1;refine z1 ?_;intros;exact⟨rfl,rfl,_,⟨rfl,rfl⟩,HQ⟩
instance VS {a b c n:Int}:SC EM (zF 163) [.agg [I a,I b,I c,I n],.ptr m 0] (ad m bl y rest++R0) ((Rn.mk a b c n).ok/\bP 100000000000000 y) uv (ad m bl ((Rn.mk a b c n).fill y) rest++R0):=SC.mk' λh R ro B W S H=>O4 h.1 h.2 H
theorem O5 {a b c:Int}(hs:(Rs.mk a b c).ok)(hy:bP 100000000000000 y)(H:Cx B0 W S (ad m bl y rest++R) ro):
  aG EM (zF 71) [.agg [I a,I b,I c],.ptr m 0] S λu S'=>∃ab,(u=uv/\ab=ad m bl ((Rs.mk a b c).fill y) rest++R)/\Cx B0 W S' ab ro:=by
 have bt:=hs;unfold Rs.ok at bt;dsimp only at bt;unfold Rs.fill;dsimp only;have hi:∀i:Nat,i<=c.toNat->bP 400000000000000 (rep (λi y=>(y.st (a+i) 18446744073709551615).st (b+i) 0) i y):=λi hi=>bP.of (c:=i*2) (Gd.rep (c:=2) am i (λj hj=>(Gd.st (by unfold Me.ar;omega)).comp (Gd.st w0) am)) hy am am;have hj:∀i:Nat,i<=c.toNat->bP 500000000000000 ((rep (λi y=>(y.st (a+i) 18446744073709551615).st (b+i) 0) i y).st (a+i) 18446744073709551615):=λi h=>bP.of (c:=1) (f:=λy=>y.st (a+i) 18446744073709551615) (Gd.st (by unfold Me.ar;omega)) (hi i h) am am;refine y1 H rfl ?_;intros
 (first|refine Vx.forM (C:=λl=>_::l) (mm:=(ad m bl · rest)) (f:=(λi y=>(y.st (a+i) 18446744073709551615).st (b+i) 0)) (Int.toNat c) (λi=>[I (i:Int)]) ?_ ?_|refine Vx.forM (C:=λl=>_::_::l) (mm:=(ad m bl · rest)) (f:=(λi y=>(y.st (a+i) 18446744073709551615).st (b+i) 0)) (Int.toNat c) (λi=>[I (i:Int)]) ?_ ?_|refine Vx.forM (C:=λl=>_::_::_::l) (mm:=(ad m bl · rest)) (f:=(λi y=>(y.st (a+i) 18446744073709551615).st (b+i) 0)) (Int.toNat c) (λi=>[I (i:Int)]) ?_ ?_|refine Vx.forM (C:=λl=>_::_::_::_::l) (mm:=(ad m bl · rest)) (f:=(λi y=>(y.st (a+i) 18446744073709551615).st (b+i) 0)) (Int.toNat c) (λi=>[I (i:Int)]) ?_ ?_|refine Vx.forM (C:=λl=>_::_::_::_::_::l) (mm:=(ad m bl · rest)) (f:=(λi y=>(y.st (a+i) 18446744073709551615).st (b+i) 0)) (Int.toNat c) (λi=>[I (i:Int)]) ?_ ?_|refine Vx.forM (C:=λl=>_::_::_::_::_::_::l) (mm:=(ad m bl · rest)) (f:=(λi y=>(y.st (a+i) 18446744073709551615).st (b+i) 0)) (Int.toNat c) (λi=>[I (i:Int)]) ?_ ?_)
 .intro i kj iH;have ma:=(hi i am).1;have Y1:=(hj i am).1;exact zZ;all_goals exact iH
 .have ma:=(hi _ (Nat.le_refl _)).1;refine z1 ?_;intros;exact⟨rfl,rfl,_,⟨rfl,rfl⟩,HQ⟩
instance VT {a b c:Int}:SC EM (zF 71) [.agg [I a,I b,I c],.ptr m 0] (ad m bl y rest++R0) ((Rs.mk a b c).ok/\bP 100000000000000 y) uv (ad m bl ((Rs.mk a b c).fill y) rest++R0):=SC.mk' λh R ro B W S H=>O5 h.1 h.2 H
theorem O6 {s k a b c:Int}(hs:(Jb.mk s k ⟨a,b,c⟩).ok/\c<=64)(hy:bP 100000000000000 y)(H:Cx B0 W S (ad m bl y rest++R) ro):
  aG EM (zF 69) [.agg [I s,I k,I a,I b,I c],.ptr m 0] S λu S'=>∃ab,(u=uv/\ab=ad m bl ((Jb.mk s k ⟨a,b,c⟩).fill y) rest++R)/\Cx B0 W S' ab ro:=by
 have bt:=hs;unfold Jb.ok Sk.ok at bt;dsimp only at bt;unfold Jb.fill;dsimp only;have hw:Me.ar (jw 1 0 1):=by unfold Me.ar jw;omega
 have h0:(Sk.mk a b c).ok/\bP 1000000000000000 y:=⟨hs.1.1,hy.1,by have:=hy.2;omega⟩;have h1:bP 200000000000000 ((Sk.mk a b c).fill y):=.of (Sk.ba hs.1.1) hy am am;have hi:∀i:Nat,i<=c.toNat->bP 400000000000000 (rep (λi y=>(y.st (s+i) (jw 1 0 1)).st (k+i) 0) i ((Sk.mk a b c).fill y)):=λi hi=>bP.of (c:=i*2) (Gd.rep (c:=2) am i (λj hj=>(Gd.st hw).comp (Gd.st w0) am)) h1 am am;have hj:∀i:Nat,i<=c.toNat->bP 500000000000000 ((rep (λi y=>(y.st (s+i) (jw 1 0 1)).st (k+i) 0) i ((Sk.mk a b c).fill y)).st (s+i) (jw 1 0 1)):=λi h=>bP.of (c:=1) (f:=λy=>y.st (s+i) (jw 1 0 1)) (Gd.st hw) (hi i h) am am;refine y1 H rfl ?_;intros
 (first|refine Vx.forM (C:=λl=>_::l) (mm:=(ad m bl · rest)) (f:=(λi y=>(y.st (s+i) (jw 1 0 1)).st (k+i) 0)) (Int.toNat c) (λi=>[I (i:Int)]) ?_ ?_|refine Vx.forM (C:=λl=>_::_::l) (mm:=(ad m bl · rest)) (f:=(λi y=>(y.st (s+i) (jw 1 0 1)).st (k+i) 0)) (Int.toNat c) (λi=>[I (i:Int)]) ?_ ?_|refine Vx.forM (C:=λl=>_::_::_::l) (mm:=(ad m bl · rest)) (f:=(λi y=>(y.st (s+i) (jw 1 0 1)).st (k+i) 0)) (Int.toNat c) (λi=>[I (i:Int)]) ?_ ?_|refine Vx.forM (C:=λl=>_::_::_::_::l) (mm:=(ad m bl · rest)) (f:=(λi y=>(y.st (s+i) (jw 1 0 1)).st (k+i) 0)) (Int.toNat c) (λi=>[I (i:Int)]) ?_ ?_|refine Vx.forM (C:=λl=>_::_::_::_::_::l) (mm:=(ad m bl · rest)) (f:=(λi y=>(y.st (s+i) (jw 1 0 1)).st (k+i) 0)) (Int.toNat c) (λi=>[I (i:Int)]) ?_ ?_|refine Vx.forM (C:=λl=>_::_::_::_::_::_::l) (mm:=(ad m bl · rest)) (f:=(λi y=>(y.st (s+i) (jw 1 0 1)).st (k+i) 0)) (Int.toNat c) (λi=>[I (i:Int)]) ?_ ?_)
 .intro i kj iH;have ma:=(hi i am).1;have Y1:=(hj i am).1;exact zZ;all_goals exact iH
 .have ma:=(hi _ (Nat.le_refl _)).1;refine z1 ?_;intros;exact⟨rfl,rfl,_,⟨rfl,rfl⟩,HQ⟩
instance VU {s k a b c:Int}:SC EM (zF 69) [.agg [I s,I k,I a,I b,I c],.ptr m 0] (ad m bl y rest++R0) (((Jb.mk s k ⟨a,b,c⟩).ok/\c<=64)/\bP 100000000000000 y) uv (ad m bl ((Jb.mk s k ⟨a,b,c⟩).fill y) rest++R0):=SC.mk' λh R ro B W S H=>O6 h.1 h.2 H
theorem O7 {a b c g w li e p n t:Int}(hs:(Lb.mk ⟨⟨a,b,c⟩,g,w,li⟩ ⟨e,p,n⟩ t).ok)(hy:bP 10000000000000 y)(H:Cx B0 W S (ad m bl y rest++R) ro):
  aG EM (zF 157) [.agg [I a,I b,I c,I g,I w,I li,I e,I p,I n,I t],.ptr m 0] S λu S'=>∃ab,(u=uv/\ab=ad m bl ((Lb.mk ⟨⟨a,b,c⟩,g,w,li⟩ ⟨e,p,n⟩ t).fill y) rest++R)/\Cx B0 W S' ab ro:=by
 have bt:=hs;unfold Lb.ok at bt;dsimp only at bt;unfold Lb.fill;dsimp only;have h0:(Ar.mk ⟨a,b,c⟩ g w li).ok/\bP 100000000000000 y:=⟨hs.1,hy.1,by have:=hy.2;omega⟩;have h1:bP 20000000000000 ((Ar.mk ⟨a,b,c⟩ g w li).fill y):=.of (Ar.ba hs.1) hy am am;have QN:(Ep.mk e p n).ok/\bP 100000000000000 ((Ar.mk ⟨a,b,c⟩ g w li).fill y):=⟨hs.2.1,h1.1,by have:=h1.2;omega⟩;have h2:bP 30000000000000 ((Ep.mk e p n).fill ((Ar.mk ⟨a,b,c⟩ g w li).fill y)):=.of (Ep.ba hs.2.1) h1 am am;have hi:∀i:Nat,i<=3->bP 400000000000000 (rep (λi y=>y.st (t+i) 0) i ((Ep.mk e p n).fill ((Ar.mk ⟨a,b,c⟩ g w li).fill y))):=λi hi=>bP.of (c:=i*1) (Gd.rep (c:=1) am i (λj hj=>Gd.st w0)) h2 am am;refine y1 H rfl ?_;intros
 (first|refine Vx.forM (C:=λl=>_::l) (mm:=(ad m bl · rest)) (f:=(λi y=>y.st (t+i) 0)) (Int.toNat 3) (λi=>[I (i:Int)]) ?_ ?_|refine Vx.forM (C:=λl=>_::_::l) (mm:=(ad m bl · rest)) (f:=(λi y=>y.st (t+i) 0)) (Int.toNat 3) (λi=>[I (i:Int)]) ?_ ?_|refine Vx.forM (C:=λl=>_::_::_::l) (mm:=(ad m bl · rest)) (f:=(λi y=>y.st (t+i) 0)) (Int.toNat 3) (λi=>[I (i:Int)]) ?_ ?_|refine Vx.forM (C:=λl=>_::_::_::_::l) (mm:=(ad m bl · rest)) (f:=(λi y=>y.st (t+i) 0)) (Int.toNat 3) (λi=>[I (i:Int)]) ?_ ?_|refine Vx.forM (C:=λl=>_::_::_::_::_::l) (mm:=(ad m bl · rest)) (f:=(λi y=>y.st (t+i) 0)) (Int.toNat 3) (λi=>[I (i:Int)]) ?_ ?_|refine Vx.forM (C:=λl=>_::_::_::_::_::_::l) (mm:=(ad m bl · rest)) (f:=(λi y=>y.st (t+i) 0)) (Int.toNat 3) (λi=>[I (i:Int)]) ?_ ?_)
 .intro i kj iH;have ma:=(hi i am).1;refine z1 ?_;intros;all_goals first
   |exact iH
   |(have EW:Vx EM (.ret .normal [I ((i:Int)+1)]) _ (_::(ad m bl (Me.st (rep (λi y=>y.st (t+i) 0) i ((Ep.mk e p n).fill ((Ar.mk ⟨a,b,c⟩ g w li).fill y))) (t+i) 0) rest++R)) ro _:=iH
     generalize ad m bl (Me.st _ _ _) rest=MM at EW⊢;exact Vx.bB HQ EW)
 .have ma:=(hi _ (Nat.le_refl _)).1;refine z1 ?_;exact⟨rfl,rfl,_,⟨rfl,rfl⟩,HQ⟩
instance VV {a b c g w li e p n t:Int}:SC EM (zF 157) [.agg [I a,I b,I c,I g,I w,I li,I e,I p,I n,I t],.ptr m 0] (ad m bl y rest++R0) ((Lb.mk ⟨⟨a,b,c⟩,g,w,li⟩ ⟨e,p,n⟩ t).ok/\bP 10000000000000 y) uv (ad m bl ((Lb.mk ⟨⟨a,b,c⟩,g,w,li⟩ ⟨e,p,n⟩ t).fill y) rest++R0):=SC.mk' λh R ro B W S H=>O7 h.1 h.2 H
instance L3 {nd hd ht a b c g w li e p n t:Int}:VC EM (zF 133) [.agg [I nd,I hd,I ht,I a,I b,I c,I g,I w,I li,I e,I p,I n,I t]] (X.To.ok ⟨nd,hd,ht,a,b,c,g,w,li,e,p,n,t⟩) (B true) where
 ok:=λhp S=>aw (X.AX (t:=⟨nd,hd,ht,a,b,c,g,w,li,e,p,n,t⟩)) λr S' h=>⟨h.1.trans (congrArg B (decide_eq_true hp)),h.2⟩
theorem O8 {nd hd ht a b c g w li e p n t:Int}(hs:(Tw.mk nd hd ht ⟨⟨⟨a,b,c⟩,g,w,li⟩,⟨e,p,n⟩,t⟩).ok)(hy:bP 1000000000000 y)(H:Cx B0 W S (ad m bl y rest++R) ro):
  aG EM (zF 67) [.agg [I nd,I hd,I ht,I a,I b,I c,I g,I w,I li,I e,I p,I n,I t],.ptr m 0] S λu S'=>∃ab,(u=uv/\ab=ad m bl ((Tw.mk nd hd ht ⟨⟨⟨a,b,c⟩,g,w,li⟩,⟨e,p,n⟩,t⟩).fill y) rest++R)/\Cx B0 W S' ab ro:=by
 have bt:=hs;unfold Tw.ok Lb.ok Ar.ok Sk.ok at bt;dsimp only at bt;have hto:X.To.ok ⟨nd,hd,ht,a,b,c,g,w,li,e,p,n,t⟩:=by unfold X.To.ok;dsimp only;omega
 unfold Tw.fill;dsimp only;have h0:(Lb.mk ⟨⟨a,b,c⟩,g,w,li⟩ ⟨e,p,n⟩ t).ok/\bP 10000000000000 y:=⟨hs.2.2.2.2,hy.1,by have:=hy.2;omega⟩;have h1:bP 20000000000000 ((Lb.mk ⟨⟨a,b,c⟩,g,w,li⟩ ⟨e,p,n⟩ t).fill y):=.of (Lb.ba hs.2.2.2.2) hy am am;have hi:∀i:Nat,i<=ht.toNat->bP 400000000000000 (rep (λi y=>y.st (hd+i) 0) i ((Lb.mk ⟨⟨a,b,c⟩,g,w,li⟩ ⟨e,p,n⟩ t).fill y)):=λi hi=>bP.of (c:=i*1) (Gd.rep (c:=1) am i (λj hj=>Gd.st w0)) h1 am am;refine y1 H rfl ?_;intros
 (first|refine Vx.forM (C:=λl=>_::l) (mm:=(ad m bl · rest)) (f:=(λi y=>y.st (hd+i) 0)) (Int.toNat ht) (λi=>[I (i:Int)]) ?_ ?_|refine Vx.forM (C:=λl=>_::_::l) (mm:=(ad m bl · rest)) (f:=(λi y=>y.st (hd+i) 0)) (Int.toNat ht) (λi=>[I (i:Int)]) ?_ ?_|refine Vx.forM (C:=λl=>_::_::_::l) (mm:=(ad m bl · rest)) (f:=(λi y=>y.st (hd+i) 0)) (Int.toNat ht) (λi=>[I (i:Int)]) ?_ ?_|refine Vx.forM (C:=λl=>_::_::_::_::l) (mm:=(ad m bl · rest)) (f:=(λi y=>y.st (hd+i) 0)) (Int.toNat ht) (λi=>[I (i:Int)]) ?_ ?_|refine Vx.forM (C:=λl=>_::_::_::_::_::l) (mm:=(ad m bl · rest)) (f:=(λi y=>y.st (hd+i) 0)) (Int.toNat ht) (λi=>[I (i:Int)]) ?_ ?_|refine Vx.forM (C:=λl=>_::_::_::_::_::_::l) (mm:=(ad m bl · rest)) (f:=(λi y=>y.st (hd+i) 0)) (Int.toNat ht) (λi=>[I (i:Int)]) ?_ ?_)
 .intro i kj iH;have ma:=(hi i am).1;exact zZ;all_goals exact iH
 .have ma:=(hi _ (Nat.le_refl _)).1;refine z1 ?_;intros;exact⟨rfl,rfl,_,⟨rfl,rfl⟩,HQ⟩
instance VW {nd hd ht a b c g w li e p n t:Int}:SC EM (zF 67) [.agg [I nd,I hd,I ht,I a,I b,I c,I g,I w,I li,I e,I p,I n,I t],.ptr m 0] (ad m bl y rest++R0) ((Tw.mk nd hd ht ⟨⟨⟨a,b,c⟩,g,w,li⟩,⟨e,p,n⟩,t⟩).ok/\bP 1000000000000 y) uv (ad m bl ((Tw.mk nd hd ht ⟨⟨⟨a,b,c⟩,g,w,li⟩,⟨e,p,n⟩,t⟩).fill y) rest++R0):=SC.mk' λh R ro B W S H=>O8 h.1 h.2 H
theorem O9 {f n r:Int}(hs:(0<=f/\f<4096)/\(1<=n/\n<=64)/\1<=r/\r<=16)(hy:bP 10000000000000 y)(H:Cx B0 W S (ad m bl y rest++R) ro):
  aG EM (zF 70) [.agg [I f,I n,I r],.ptr m 0] S λu S'=>∃ab,(u=uv/\ab=ad m bl (jn f n r y) rest++R)/\Cx B0 W S' ab ro:=by
 unfold jn;have hb:∀i:Nat,i<n.toNat->0<=(i:Int)*(r+2)/\(i:Int)*(r+2)<=64*18:=λi hi=>⟨Int.mul_nonneg am am,Int.mul_le_mul am am am am⟩;have hi:∀i:Nat,i<=n.toNat->bP 40000000000000 (rep (λc y=>Rn.fill ⟨f+c*(r+2),f+c*(r+2)+1,f+c*(r+2)+2,r⟩ y) i y):=λi hi=>bP.of (c:=i*5000) (Gd.rep (c:=5000) am i (λj hj=>Rn.ba (by dsimp only;omega))) hy am am;refine y1 H rfl ?_;intros
 (first|refine Vx.forM (C:=λl=>_::l) (mm:=(ad m bl · rest)) (f:=(λc y=>Rn.fill ⟨f+c*(r+2),f+c*(r+2)+1,f+c*(r+2)+2,r⟩ y)) (Int.toNat n) (λi=>[I (i:Int)]) ?_ ?_|refine Vx.forM (C:=λl=>_::_::l) (mm:=(ad m bl · rest)) (f:=(λc y=>Rn.fill ⟨f+c*(r+2),f+c*(r+2)+1,f+c*(r+2)+2,r⟩ y)) (Int.toNat n) (λi=>[I (i:Int)]) ?_ ?_|refine Vx.forM (C:=λl=>_::_::_::l) (mm:=(ad m bl · rest)) (f:=(λc y=>Rn.fill ⟨f+c*(r+2),f+c*(r+2)+1,f+c*(r+2)+2,r⟩ y)) (Int.toNat n) (λi=>[I (i:Int)]) ?_ ?_|refine Vx.forM (C:=λl=>_::_::_::_::l) (mm:=(ad m bl · rest)) (f:=(λc y=>Rn.fill ⟨f+c*(r+2),f+c*(r+2)+1,f+c*(r+2)+2,r⟩ y)) (Int.toNat n) (λi=>[I (i:Int)]) ?_ ?_|refine Vx.forM (C:=λl=>_::_::_::_::_::l) (mm:=(ad m bl · rest)) (f:=(λc y=>Rn.fill ⟨f+c*(r+2),f+c*(r+2)+1,f+c*(r+2)+2,r⟩ y)) (Int.toNat n) (λi=>[I (i:Int)]) ?_ ?_|refine Vx.forM (C:=λl=>_::_::_::_::_::_::l) (mm:=(ad m bl · rest)) (f:=(λc y=>Rn.fill ⟨f+c*(r+2),f+c*(r+2)+1,f+c*(r+2)+2,r⟩ y)) (Int.toNat n) (λi=>[I (i:Int)]) ?_ ?_)
 .intro i kj iH;have q:=hb i kj;have ma:(Rn.mk (f+i*(r+2)) (f+i*(r+2)+1) (f+i*(r+2)+2) r).ok/\bP 100000000000000 (rep (λc y=>Rn.fill ⟨f+c*(r+2),f+c*(r+2)+1,f+c*(r+2)+2,r⟩ y) i y):=⟨by unfold Rn.ok;dsimp only;omega,(hi i am).1,by have:=(hi i am).2;omega⟩;refine z1 ?_;intros;all_goals first
   |exact iH
   |(have EW:Vx EM (.ret .normal [I ((i:Int)+1)]) _ (_::_::_::_::_::(ad m bl (Rn.fill ⟨f+i*(r+2),f+i*(r+2)+1,f+i*(r+2)+2,r⟩ (rep (λc y=>Rn.fill ⟨f+c*(r+2),f+c*(r+2)+1,f+c*(r+2)+2,r⟩ y) i y)) rest++R)) ro _:=iH
     generalize ad m bl (Rn.fill _ _) rest=MM at EW⊢;exact Vx.bB HQ EW)
   |skip
 .refine z1 ?_;intros;exact⟨rfl,rfl,_,⟨rfl,rfl⟩,HQ⟩
instance VX {f n r:Int}:SC EM (zF 70) [.agg [I f,I n,I r],.ptr m 0] (ad m bl y rest++R0) (((0<=f/\f<4096)/\(1<=n/\n<=64)/\1<=r/\r<=16)/\bP 10000000000000 y) uv (ad m bl (jn f n r y) rest++R0):=SC.mk' λh R ro B W S H=>O9 h.1 h.2 H
variable{x:Xc}{v:AV}{l:List dZ.Tk}
theorem O_ (hx:x.ok)(hv:aB.sl v 4 (dZ.ep l)∈ro)(hs:x.ex.ok l)(hy:bP 100000000 y)(H:Cx B0 W S (ad m bl y rest++R) ro):
  aG EM (zF 14) [.agg (x.cs++[v]),.ptr m 0] S λu S'=>∃ab,(u=uv/\ab=ad m bl (x.fill y) rest++R)/\Cx B0 W S' ab ro:=by
 have hl:g_ S v 4 (dZ.ep l):=(H.hH hv).1;obtain⟨ov,cv⟩:=X.ef hl;have uD:=hx;unfold Xc.ok Tw.ok Lb.ok Ep.ok Rs.ok at uD;have hm:=Xc.ru hs;have Y2:(l.length:Int)<=32:=by
  have h:=hs.2.1;unfold dZ.kq at h;split at h;.cases h
  .omega
 have k0:x.t.ok/\bP 1000000000000 y:=⟨hx.1,hy.1,by have:=hy.2;omega⟩;have h1:bP 200000000 (x.t.fill y):=.of (Tw.ba hx.1) hy am am;have k1:(1<=x.many/\x.many<=32/\0<=x.cn/\x.cn<100000)/\bP 100000000000000 (x.t.fill y):=⟨am,h1.1,by have:=h1.2;omega⟩;have h2:bP 300000000 (fy x.cn x.many (x.t.fill y)):=.of (vQ am) h1 am am;have k2:(x.j.ok/\x.j.f.size<=64)/\bP 100000000000000 (fy x.cn x.many (x.t.fill y)):=⟨⟨hx.2.1,am⟩,h2.1,by have:=h2.2;omega⟩;have h3:bP 400000000 (x.j.fill (fy x.cn x.many (x.t.fill y))):=.of (Jb.ba hx.2.1) h2 am am;have k3:((0<=x.iW/\x.iW<4096)/\(1<=x.aJ/\x.aJ<=64)/\1<=x.room/\x.room<=16)/\bP 10000000000000 (x.j.fill (fy x.cn x.many (x.t.fill y))):=⟨am,h3.1,by have:=h3.2;omega⟩;have h4:bP 500000000 (jn x.iW x.aJ x.room (x.j.fill (fy x.cn x.many (x.t.fill y)))):=.of (vR am am) h3 am am;have k4:x.r.ok/\bP 100000000000000 (jn x.iW x.aJ x.room (x.j.fill (fy x.cn x.many (x.t.fill y)))):=⟨hx.2.2.1,h4.1,by have:=h4.2;omega⟩;have h5:bP 600000000 (x.r.fill (jn x.iW x.aJ x.room (x.j.fill (fy x.cn x.many (x.t.fill y))))):=.of (Rs.ba am) h4 am am;have hi:∀i:Nat,i<=x.r.ah.toNat->bP 700000000 (rep (λi y=>y.st (x.own+i) 0) i (x.r.fill (jn x.iW x.aJ x.room (x.j.fill (fy x.cn x.many (x.t.fill y)))))):=λi hi=>bP.of (c:=i*1) (Gd.rep (c:=1) am i (λj hj=>Gd.st w0)) h5 am am;unfold Xc.fill;rw[show x.t.l.e.ah=x.r.ah by omega];simp only[Xc.cs,Tw.cs,Lb.cs,Ar.cs,Ep.cs,lA,lB];refine y1 H rfl ?_;intros;refine Vx.spec (Ψ:=λu ab=>u=B true/\ab=_) (λB1 W1 S1 H=>aw (X.xy (e:=x.ex) hv H) λr S' h=>⟨_,⟨h.1.trans (congrArg B (decide_eq_true hs)),rfl⟩,H.grow h.2⟩) ?_;rintro _ _ ⟨rfl,rfl⟩;refine z1 ?_
 (first|refine Vx.forM (C:=λl=>_::l) (mm:=(ad m bl · rest)) (f:=(λi y=>y.st (x.own+i) 0)) (Int.toNat x.r.ah) (λi=>[I (i:Int)]) ?_ ?_|refine Vx.forM (C:=λl=>_::_::l) (mm:=(ad m bl · rest)) (f:=(λi y=>y.st (x.own+i) 0)) (Int.toNat x.r.ah) (λi=>[I (i:Int)]) ?_ ?_|refine Vx.forM (C:=λl=>_::_::_::l) (mm:=(ad m bl · rest)) (f:=(λi y=>y.st (x.own+i) 0)) (Int.toNat x.r.ah) (λi=>[I (i:Int)]) ?_ ?_|refine Vx.forM (C:=λl=>_::_::_::_::l) (mm:=(ad m bl · rest)) (f:=(λi y=>y.st (x.own+i) 0)) (Int.toNat x.r.ah) (λi=>[I (i:Int)]) ?_ ?_|refine Vx.forM (C:=λl=>_::_::_::_::_::l) (mm:=(ad m bl · rest)) (f:=(λi y=>y.st (x.own+i) 0)) (Int.toNat x.r.ah) (λi=>[I (i:Int)]) ?_ ?_|refine Vx.forM (C:=λl=>_::_::_::_::_::_::l) (mm:=(ad m bl · rest)) (f:=(λi y=>y.st (x.own+i) 0)) (Int.toNat x.r.ah) (λi=>[I (i:Int)]) ?_ ?_)
 .intro i kj iH;have ma:=(hi i am).1;exact zZ;all_goals exact iH
 .have ma:=(hi _ (Nat.le_refl _)).1;refine z1 ?_;intros;exact⟨rfl,rfl,_,⟨rfl,rfl⟩,HQ⟩
end
end Go.cO
