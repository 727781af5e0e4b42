/- Contracts of functions, over the abstract machine. Conditions: stated in each theorem. -/
import Derived.Test.YtdfgboafnklioaaGreatM63
set_option linter.all false
set_option maxRecDepth 100000
set_option maxHeartbeats 4000000
namespace Go.cY
open Go.Proofs
section
def rep (f:Nat→Me→Me):Nat→Me→Me
 |0,y=>y
 |n+1,y=>f n (rep f n y)
def Gd (c:Int)(f:Me→Me):Prop:=∀y:Me,y.gd→y.n+c≤4000000000000000000→(f y).gd∧(f y).n≤y.n+c∧(f y).ws.length=y.ws.length
theorem Gd.st {a w:Int}(hw:Me.ar w):Gd 1 (fun y=>y.st a w):=fun y hy hn=>Ac.gd (.st hw) hy (by omega)
theorem Gd.comp {c d:Int}{f g}(hf:Gd c f)(hg:Gd d g)(hd:0≤d):Gd (c+d) (fun y=>g (f y)):=fun y hy hn=>by
 have h1:=hf y hy (by omega)
 have h2:=hg (f y) h1.1 (by omega)
 exact⟨h2.1,by show(g (f y)).n≤_;omega,h2.2.2.trans h1.2.2⟩
theorem Gd.rep {c:Int}{f}(hc:0≤c):∀n:Nat,(∀i,i<n→Gd c (f i))→Gd (n*c) (rep f n)
 |0,_=>fun y hy hn=>⟨hy,by simp[cY.rep],rfl⟩
 |n+1,h=>by
  have:=(Gd.rep hc n fun i hi=>h i (by omega)).comp (h n (by omega)) hc
  have e:((n+1:Nat):Int)*c=n*c+c:=by rw[Int.natCast_add,Int.add_mul];simp
  rw[e]
  exact this
theorem Gd.mono {c d:Int}{f}(h:Gd c f)(hd:c≤d):Gd d f:=fun y hy hn=>by
 have:=h y hy (by omega)
 exact⟨this.1,by omega,this.2.2⟩
def Sk.fill (s:Sk)(y:Me):Me:=rep (fun i y=>y.st (s.fJ+i) (if(i:Int)+1=s.size then 0 else i+2)) s.size.toNat (y.st s.top 1)
def Ar.fill (a:Ar)(y:Me):Me:=rep (fun i y=>y.st (a.ju+i) 1) a.f.size.toNat ((a.f.fill y).st a.pK 0)
def Ep.fill (e:Ep)(y:Me):Me:=rep (fun i y=>y.st (e.pins+i) 0) e.ah.toNat (y.st e.cd 0)
def Lb.fill (l:Lb)(y:Me):Me:=rep (fun i y=>y.st (l.tN+i) 0) 3 (l.e.fill (l.a.fill y))
def Tw.fill (t:Tw)(y:Me):Me:=rep (fun i y=>y.st (t.hd+i) 0) t.ht.toNat (t.l.fill y)
def eW (first many:Int)(y:Me):Me:=rep (fun i y=>y.st (first+i) 0) many.toNat y
def Jb.fill (j:Jb)(y:Me):Me:=rep (fun i y=>(y.st (j.bx+i) (jw 1 0 1)).st (j.keys+i) 0) j.f.size.toNat (j.f.fill y)
def Rn.fill (r:Rn)(y:Me):Me:=rep (fun i y=>y.st (r.eE+i) 0) r.size.toNat ((y.st r.head 0).st r.tail 0)
def iH (f ah room:Int)(y:Me):Me:=rep (fun c y=>Rn.fill ⟨f+c*(room+2),f+c*(room+2)+1,f+c*(room+2)+2,room⟩ y) ah.toNat y
def Rs.fill (r:Rs)(y:Me):Me:=rep (fun i y=>(y.st (r.runs+i) 18446744073709551615).st (r.flags+i) 0) r.ah.toNat y
def Xc.fill (x:Xc)(y:Me):Me:=(rep (fun i y=>y.st (x.own+i) 0) x.t.l.e.ah.toNat (x.r.fill (iH x.iB x.aH x.room (x.j.fill (eW x.b9 x.many (x.t.fill y)))))).st x.seq 0
theorem Sk.aX {s:Sk}(hs:s.ok):Gd 5000 s.fill:=by
 unfold Sk.ok at hs
 refine(Gd.comp (Gd.st (a:=s.top) (w:=1) (by unfold Me.ar;omega)) (Gd.rep (c:=1) (by omega) s.size.toNat fun i hi=>Gd.st (by unfold Me.ar;split<;>omega)) (by omega)).mono (by omega)
theorem Ar.aX {a:Ar}(hs:a.ok):Gd 10000 a.fill:=by
 have h:=hs.1
 unfold Sk.ok at h
 exact(((Sk.aX hs.1).comp (Gd.st (a:=a.pK) w0) (by omega)).comp (Gd.rep (c:=1) (by omega) a.f.size.toNat fun i hi=>Gd.st (by unfold Me.ar;omega)) (by omega)).mono (by omega)
theorem Ep.aX {e:Ep}(hs:e.ok):Gd 100 e.fill:=by
 unfold Ep.ok at hs
 exact((Gd.st (a:=e.cd) w0).comp (Gd.rep (c:=1) (by omega) e.ah.toNat fun i hi=>Gd.st w0) (by omega)).mono (by omega)
theorem Lb.aX {l:Lb}(hs:l.ok):Gd 11000 l.fill:=
 (((Ar.aX hs.1).comp (Ep.aX hs.2.1) (by omega)).comp (Gd.rep (c:=1) (by omega) 3 fun i hi=>Gd.st w0) (by omega)).mono (by omega)
theorem Tw.aX {t:Tw}(hs:t.ok):Gd 12000 t.fill:=by
 have h:=hs
 unfold Tw.ok at h
 exact((Lb.aX hs.2.2.2.2).comp (Gd.rep (c:=1) (by omega) t.ht.toNat fun i hi=>Gd.st w0) (by omega)).mono (by omega)
theorem ur {f n:Int}(h:0≤n∧n≤4096):Gd 5000 (eW f n):=(Gd.rep (c:=1) (by omega) n.toNat fun i hi=>Gd.st w0).mono (by omega)
theorem Jb.aX {j:Jb}(hs:j.ok):Gd 15000 j.fill:=by
 have h:=hs.1
 unfold Sk.ok at h
 exact((Sk.aX hs.1).comp (Gd.rep (c:=2) (by omega) j.f.size.toNat fun i hi=>((Gd.st (by unfold Me.ar jw;omega)).comp (Gd.st w0) (by omega))) (by omega)).mono (by omega)
theorem Rn.aX {r:Rn}(h:1≤r.size∧r.size≤4096):Gd 5000 r.fill:=
 (((Gd.st (a:=r.head) w0).comp (Gd.st (a:=r.tail) w0) (by omega)).comp (Gd.rep (c:=1) (by omega) r.size.toNat fun i hi=>Gd.st w0) (by omega)).mono (by omega)
theorem uu {f n r:Int}(h:0≤n∧n≤64)(hr:1≤r∧r≤16):Gd 320000 (iH f n r):=(Gd.rep (c:=5000) (by omega) n.toNat fun i hi=>Rn.aX (by dsimp only;omega)).mono (by omega)
theorem Rs.aX {r:Rs}(h:0≤r.ah∧r.ah≤64):Gd 200 r.fill:=(Gd.rep (c:=2) (by omega) r.ah.toNat fun i hi=>((Gd.st (by unfold Me.ar;omega)).comp (Gd.st w0) (by omega))).mono (by omega)
theorem Xc.aX {x:Xc}(hx:x.ok):Gd 400000 x.fill:=by
 have h:=hx
 unfold Xc.ok Tw.ok Lb.ok Ep.ok Rs.ok at h
 exact(((((((Tw.aX hx.1).comp (ur (f:=x.b9) (n:=x.many) (by omega)) (by omega)).comp (Jb.aX hx.2.1) (by omega)).comp (uu (f:=x.iB) (n:=x.aH) (r:=x.room) (by omega) (by omega)) (by omega)).comp (Rs.aX (r:=x.r) (by omega)) (by omega)).comp (Gd.rep (c:=1) (by omega) x.t.l.e.ah.toNat fun i hi=>Gd.st (a:=x.own+i) w0) (by omega)).comp (Gd.st (a:=x.seq) w0) (by omega)).mono (by omega)
theorem Vx.forM {M ro Φ K body outs}(C:List Own→List Own)(mm:Me→List Own)(f:Nat→Me→Me)(N:Nat)(st:Nat→List AV){y0 R}
  (hs:∀i:Nat,i<N→(Vx M (.ret .normal (st (i+1))) (.loop body outs::K) (C (mm (rep f (i+1) y0)++R)) ro Φ)→Zx M false (body (st i)) (.loop body outs::K) (C (mm (rep f i y0)++R)) ro Φ)
  (he:Zx M false (body (st N)) (.loop body outs::K) (C (mm (rep f N y0)++R)) ro Φ):Vx M (.loop (st 0) body outs) K (C (mm y0++R)) ro Φ:=by
 have key:∀k i:Nat,i+k=N→Vx M (body (st i)) (.loop body outs::K) (C (mm (rep f i y0)++R)) ro Φ:=by
  intro k
  induction k with
  |zero=>
   intro i hi
   obtain rfl:i=N:=by omega
   exact he.ok
  |succ k ih=>
   intro i hi
   exact(hs i (by omega) (Vx.Nk (ih (i+1) (by omega)))).ok
 exact Vx.loop (key N 0 (by omega))
instance aak:cF 247 where
instance aal:cF 237 where
section
variable{B0 S:AH}{W:List Nat}{R R0:List Own}{ro:List aQ}{m bl:Nat}{y:Me}{rest:List AV}
theorem ME {a b c:Int}(hs:(Sk.mk a b c).ok)(hy:y.gd)(hn:y.n≤1000000000000000)(H:Cx B0 W S (ad m bl y rest++R) ro):
  aO EM (zF 159) [.agg [I a,I b,I c],.ptr m 0] S fun u S'=>∃ab,(u=uv∧ab=ad m bl ((Sk.mk a b c).fill y) rest++R)∧Cx B0 W S' ab ro:=by
 have bn:=hs
 unfold Sk.ok at bn
 dsimp only at bn
 unfold Sk.fill
 refine Vx.fm H rfl (b:=Tryz.a159) ?_
 have hg:=Gd.st (a:=a) (w:=1) (by unfold Me.ar;omega) y hy (by omega)
 have CV:(y.st a 1).n≤y.n+1:=hg.2.1
 have uA:∀i:Nat,i≤c.toNat→(rep (fun i y=>y.st (b+i) (if(i:Int)+1=c then 0 else i+2)) i (y.st a 1)).gd:=fun i hi=>(Gd.rep (c:=1) (by omega) i (fun j hj=>Gd.st (by unfold Me.ar;split<;>omega)) (y.st a 1) hg.1 (by omega)).1
 (repeat' first|constructor|exact ZQ|intro _)
 all_goals apply zL
 simp only[Int.zero_add]
 refine Vx.forM (C:=fun l=>_::_::l) (mm:=(ad m bl · rest)) (f:=fun i y=>y.st (b+i) (if(i:Int)+1=c then 0 else i+2)) c.toNat (fun i=>[I (i:Int),match i with|0=>.no|i+1=>I (if(i:Int)+1=c then-1 else i+1)]) ?_ ?_
 ·intro i hi gX
  have kT:=uA i (by omega)
  (repeat' first|constructor|exact ZQ|intro _)
  all_goals apply zL
  ·next h1 h=>
   simp only[if_pos h] at gX
   rw[show(-1+1:Int)=(if(i:Int)+1=c then 0 else(i:Int)+2) by rw[if_pos h];rfl]
   exact gX
  ·next h1 h=>
   simp only[if_neg h] at gX
   rw[show((i:Int)+1+1:Int)=(if(i:Int)+1=c then 0 else(i:Int)+2) by rw[if_neg h];omega]
   exact gX
 ·have kT:=uA _ (Nat.le_refl _)
  (repeat' first|constructor|exact ZQ|intro _)
  all_goals apply zL
  exact⟨rfl,rfl,_,⟨rfl,rfl⟩,HQ⟩
end
end
section
theorem SC.mk' {M f args own ab R0}{P:Prop}{v}(h:P→∀(R:List Own) (ro:List aQ) B W S,Cx B W S (own++R) ro→aO M f args S fun u S'=>∃o,(u=v∧o=ab++R)∧Cx B W S' o ro):SC M f args (own++R0) P v (ab++R0) where
 ok:=fun hp ro R B W S H=>az (h hp (R0++R) ro B W S (by rwa[lC] at H)) fun r S' ⟨o,⟨h1,h2⟩,h3⟩=>⟨h1,by subst h2;rwa[lC]⟩
def bG (k:Int)(y:Me):Prop:=y.gd∧y.n≤k
theorem bG.of {c k d:Int}{f y}(hf:Gd c f)(h:bG k y)(hc:0≤c∧k+c≤d)(hd:d≤1000000000000000000):bG d (f y):=by
 have:=hf y h.1 (by have:=h.2;omega)
 exact⟨this.1,by have:=h.2;omega⟩
section
variable{B0 S:AH}{W:List Nat}{R R0:List Own}{ro:List aQ}{m bl:Nat}{y:Me}{rest:List AV}
instance Sy {a b c:Int}:SC EM (zF 159) [.agg [I a,I b,I c],.ptr m 0] (ad m bl y rest++R0) ((Sk.mk a b c).ok∧bG 1000000000000000 y) uv (ad m bl ((Sk.mk a b c).fill y) rest++R0):=SC.mk' fun h R ro B W S H=>ME h.1 h.2.1 h.2.2 H
instance aam {n:Nat}[Mn n [365,362,138,140,158,246,245,160]]:cF n where
theorem MF {a b c g w li:Int}(hs:(Ar.mk ⟨a,b,c⟩ g w li).ok)(hy:bG 100000000000000 y)(H:Cx B0 W S (ad m bl y rest++R) ro):
  aO EM (zF 243) [.agg [I a,I b,I c,I g,I w,I li],.ptr m 0] S fun u S'=>∃ab,(u=uv∧ab=ad m bl ((Ar.mk ⟨a,b,c⟩ g w li).fill y) rest++R)∧Cx B0 W S' ab ro:=by
 have bn:=hs
 unfold Ar.ok Sk.ok at bn
 dsimp only at bn
 unfold Ar.fill
 dsimp only
 have h1:bG 200000000000000 ((Sk.mk a b c).fill y):=.of (Sk.aX hs.1) hy (by omega) (by omega)
 have h2:bG 300000000000000 (((Sk.mk a b c).fill y).st w 0):=bG.of (c:=1) (f:=fun y=>y.st w 0) (Gd.st w0) h1 (by omega) (by omega)
 have hi:∀i:Nat,i≤c.toNat→bG 400000000000000 (rep (fun i y=>y.st (g+i) 1) i (((Sk.mk a b c).fill y).st w 0)):=fun i hi=>bG.of (c:=i*1) (Gd.rep (c:=1) (by omega) i (fun j hj=>Gd.st (by unfold Me.ar;omega))) h2 (by omega) (by omega)
 have h0:(Sk.mk a b c).ok∧bG 1000000000000000 y:=⟨hs.1,hy.1,by have:=hy.2;omega⟩
 have g1:=h1.1
 refine Vx.fm H rfl (b:=Tryz.a243) ?_
 (repeat' first|constructor|exact ZQ|intro _)
 all_goals apply zL
 refine Vx.forM (C:=fun l=>_::_::l) (mm:=(ad m bl · rest)) (f:=fun i y=>y.st (g+i) 1) c.toNat (fun i=>[I (i:Int)]) ?_ ?_
 ·intro i jq gX
  have kT:=(hi i (by omega)).1
  (repeat' first|constructor|exact ZQ|intro _)
  all_goals apply zL
  all_goals exact gX
 ·have kT:=(hi _ (Nat.le_refl _)).1
  (repeat' first|constructor|exact ZQ|intro _)
  all_goals apply zL
  exact⟨rfl,rfl,_,⟨rfl,rfl⟩,HQ⟩
instance Sz {a b c g w li:Int}:SC EM (zF 243) [.agg [I a,I b,I c,I g,I w,I li],.ptr m 0] (ad m bl y rest++R0) ((Ar.mk ⟨a,b,c⟩ g w li).ok∧bG 100000000000000 y) uv (ad m bl ((Ar.mk ⟨a,b,c⟩ g w li).fill y) rest++R0):=SC.mk' fun h R ro B W S H=>MF h.1 h.2 H
theorem MG {a b c:Int}(hs:(Ep.mk a b c).ok)(hy:bG 100000000000000 y)(H:Cx B0 W S (ad m bl y rest++R) ro):
  aO EM (zF 244) [.agg [I a,I b,I c],.ptr m 0] S fun u S'=>∃ab,(u=uv∧ab=ad m bl ((Ep.mk a b c).fill y) rest++R)∧Cx B0 W S' ab ro:=by
 have bn:=hs
 unfold Ep.ok at bn
 dsimp only at bn
 unfold Ep.fill
 dsimp only
 have h1:bG 200000000000000 (y.st a 0):=bG.of (c:=1) (f:=fun y=>y.st a 0) (Gd.st w0) hy (by omega) (by omega)
 have hi:∀i:Nat,i≤c.toNat→bG 400000000000000 (rep (fun i y=>y.st (b+i) 0) i (y.st a 0)):=fun i hi=>bG.of (c:=i*1) (Gd.rep (c:=1) (by omega) i (fun j hj=>Gd.st w0)) h1 (by omega) (by omega)
 have g0:=hy.1
 have g1:=h1.1
 refine Vx.fm H rfl (b:=Tryz.a244) ?_
 (repeat' first|constructor|exact ZQ|intro _)
 all_goals apply zL
 (first|refine Vx.forM (C:=fun l=>_::l) (mm:=(ad m bl · rest)) (f:=(fun i y=>y.st (b+i) 0)) (Int.toNat c) (fun i=>[I (i:Int)]) ?_ ?_|refine Vx.forM (C:=fun l=>_::_::l) (mm:=(ad m bl · rest)) (f:=(fun i y=>y.st (b+i) 0)) (Int.toNat c) (fun i=>[I (i:Int)]) ?_ ?_|refine Vx.forM (C:=fun l=>_::_::_::l) (mm:=(ad m bl · rest)) (f:=(fun i y=>y.st (b+i) 0)) (Int.toNat c) (fun i=>[I (i:Int)]) ?_ ?_|refine Vx.forM (C:=fun l=>_::_::_::_::l) (mm:=(ad m bl · rest)) (f:=(fun i y=>y.st (b+i) 0)) (Int.toNat c) (fun i=>[I (i:Int)]) ?_ ?_|refine Vx.forM (C:=fun l=>_::_::_::_::_::l) (mm:=(ad m bl · rest)) (f:=(fun i y=>y.st (b+i) 0)) (Int.toNat c) (fun i=>[I (i:Int)]) ?_ ?_|refine Vx.forM (C:=fun l=>_::_::_::_::_::_::l) (mm:=(ad m bl · rest)) (f:=(fun i y=>y.st (b+i) 0)) (Int.toNat c) (fun i=>[I (i:Int)]) ?_ ?_)
 ·intro i jq gX
  have kT:=(hi i (by omega)).1
  (repeat' first|constructor|exact ZQ|intro _)
  all_goals apply zL
  all_goals exact gX
 ·have kT:=(hi _ (Nat.le_refl _)).1
  (repeat' first|constructor|exact ZQ|intro _)
  all_goals apply zL
  exact⟨rfl,rfl,_,⟨rfl,rfl⟩,HQ⟩
instance SA {a b c:Int}:SC EM (zF 244) [.agg [I a,I b,I c],.ptr m 0] (ad m bl y rest++R0) ((Ep.mk a b c).ok∧bG 100000000000000 y) uv (ad m bl ((Ep.mk a b c).fill y) rest++R0):=SC.mk' fun h R ro B W S H=>MG h.1 h.2 H
theorem MH {a n:Int}(hs:1≤n∧n≤32∧0≤a∧a<100000)(hy:bG 100000000000000 y)(H:Cx B0 W S (ad m bl y rest++R) ro):
  aO EM (zF 68) [.agg [I a,I n],.ptr m 0] S fun u S'=>∃ab,(u=uv∧ab=ad m bl (eW a n y) rest++R)∧Cx B0 W S' ab ro:=by
 unfold eW
 have hi:∀i:Nat,i≤n.toNat→bG 400000000000000 (rep (fun i y=>y.st (a+i) 0) i y):=fun i hi=>bG.of (c:=i*1) (Gd.rep (c:=1) (by omega) i (fun j hj=>Gd.st w0)) hy (by omega) (by omega)
 refine Vx.fm H rfl (b:=Tryz.a68) ?_
 (repeat' first|constructor|exact ZQ|intro _)
 all_goals apply zL
 (first|refine Vx.forM (C:=fun l=>_::l) (mm:=(ad m bl · rest)) (f:=(fun i y=>y.st (a+i) 0)) (Int.toNat n) (fun i=>[I (i:Int)]) ?_ ?_|refine Vx.forM (C:=fun l=>_::_::l) (mm:=(ad m bl · rest)) (f:=(fun i y=>y.st (a+i) 0)) (Int.toNat n) (fun i=>[I (i:Int)]) ?_ ?_|refine Vx.forM (C:=fun l=>_::_::_::l) (mm:=(ad m bl · rest)) (f:=(fun i y=>y.st (a+i) 0)) (Int.toNat n) (fun i=>[I (i:Int)]) ?_ ?_|refine Vx.forM (C:=fun l=>_::_::_::_::l) (mm:=(ad m bl · rest)) (f:=(fun i y=>y.st (a+i) 0)) (Int.toNat n) (fun i=>[I (i:Int)]) ?_ ?_|refine Vx.forM (C:=fun l=>_::_::_::_::_::l) (mm:=(ad m bl · rest)) (f:=(fun i y=>y.st (a+i) 0)) (Int.toNat n) (fun i=>[I (i:Int)]) ?_ ?_|refine Vx.forM (C:=fun l=>_::_::_::_::_::_::l) (mm:=(ad m bl · rest)) (f:=(fun i y=>y.st (a+i) 0)) (Int.toNat n) (fun i=>[I (i:Int)]) ?_ ?_)
 ·intro i jq gX
  have kT:=(hi i (by omega)).1
  (repeat' first|constructor|exact ZQ|intro _)
  all_goals apply zL
  all_goals exact gX
 ·have kT:=(hi _ (Nat.le_refl _)).1
  (repeat' first|constructor|exact ZQ|intro _)
  all_goals apply zL
  exact⟨rfl,rfl,_,⟨rfl,rfl⟩,HQ⟩
instance SB {a n:Int}:SC EM (zF 68) [.agg [I a,I n],.ptr m 0] (ad m bl y rest++R0) ((1≤n∧n≤32∧0≤a∧a<100000)∧bG 100000000000000 y) uv (ad m bl (eW a n y) rest++R0):=SC.mk' fun h R ro B W S H=>MH h.1 h.2 H
theorem MI {a b c n:Int}(hs:(Rn.mk a b c n).ok)(hy:bG 100000000000000 y)(H:Cx B0 W S (ad m bl y rest++R) ro):
  aO EM (zF 163) [.agg [I a,I b,I c,I n],.ptr m 0] S fun u S'=>∃ab,(u=uv∧ab=ad m bl ((Rn.mk a b c n).fill y) rest++R)∧Cx B0 W S' ab ro:=by
 have bn:=hs
 unfold Rn.ok at bn
 dsimp only at bn
 unfold Rn.fill
 dsimp only
 have h1:bG 200000000000000 (y.st a 0):=bG.of (c:=1) (f:=fun y=>y.st a 0) (Gd.st w0) hy (by omega) (by omega)
 have h2:bG 300000000000000 ((y.st a 0).st b 0):=bG.of (c:=1) (f:=fun y=>y.st b 0) (Gd.st w0) h1 (by omega) (by omega)
 have hi:∀i:Nat,i≤n.toNat→bG 400000000000000 (rep (fun i y=>y.st (c+i) 0) i ((y.st a 0).st b 0)):=fun i hi=>bG.of (c:=i*1) (Gd.rep (c:=1) (by omega) i (fun j hj=>Gd.st w0)) h2 (by omega) (by omega)
 have g0:=hy.1
 have g1:=h1.1
 refine Vx.fm H rfl (b:=Tryz.a163) ?_
 (repeat' first|constructor|exact ZQ|intro _)
 all_goals apply zL
 (first|refine Vx.forM (C:=fun l=>_::l) (mm:=(ad m bl · rest)) (f:=(fun i y=>y.st (c+i) 0)) (Int.toNat n) (fun i=>[I (i:Int)]) ?_ ?_|refine Vx.forM (C:=fun l=>_::_::l) (mm:=(ad m bl · rest)) (f:=(fun i y=>y.st (c+i) 0)) (Int.toNat n) (fun i=>[I (i:Int)]) ?_ ?_|refine Vx.forM (C:=fun l=>_::_::_::l) (mm:=(ad m bl · rest)) (f:=(fun i y=>y.st (c+i) 0)) (Int.toNat n) (fun i=>[I (i:Int)]) ?_ ?_|refine Vx.forM (C:=fun l=>_::_::_::_::l) (mm:=(ad m bl · rest)) (f:=(fun i y=>y.st (c+i) 0)) (Int.toNat n) (fun i=>[I (i:Int)]) ?_ ?_|refine Vx.forM (C:=fun l=>_::_::_::_::_::l) (mm:=(ad m bl · rest)) (f:=(fun i y=>y.st (c+i) 0)) (Int.toNat n) (fun i=>[I (i:Int)]) ?_ ?_|refine Vx.forM (C:=fun l=>_::_::_::_::_::_::l) (mm:=(ad m bl · rest)) (f:=(fun i y=>y.st (c+i) 0)) (Int.toNat n) (fun i=>[I (i:Int)]) ?_ ?_)
 ·intro i jq gX
  have kT:=(hi i (by omega)).1
  (repeat' first|constructor|exact ZQ|intro _)
  all_goals apply zL
  all_goals exact gX
 ·have kT:=(hi _ (Nat.le_refl _)).1
  (repeat' first|constructor|exact ZQ|intro _)
  all_goals apply zL
  exact⟨rfl,rfl,_,⟨rfl,rfl⟩,HQ⟩
instance SD {a b c n:Int}:SC EM (zF 163) [.agg [I a,I b,I c,I n],.ptr m 0] (ad m bl y rest++R0) ((Rn.mk a b c n).ok∧bG 100000000000000 y) uv (ad m bl ((Rn.mk a b c n).fill y) rest++R0):=SC.mk' fun h R ro B W S H=>MI h.1 h.2 H
theorem MJ {a b c:Int}(hs:(Rs.mk a b c).ok)(hy:bG 100000000000000 y)(H:Cx B0 W S (ad m bl y rest++R) ro):
  aO EM (zF 71) [.agg [I a,I b,I c],.ptr m 0] S fun u S'=>∃ab,(u=uv∧ab=ad m bl ((Rs.mk a b c).fill y) rest++R)∧Cx B0 W S' ab ro:=by
 have bn:=hs
 unfold Rs.ok at bn
 dsimp only at bn
 unfold Rs.fill
 dsimp only
 have hi:∀i:Nat,i≤c.toNat→bG 400000000000000 (rep (fun i y=>(y.st (a+i) 18446744073709551615).st (b+i) 0) i y):=fun i hi=>bG.of (c:=i*2) (Gd.rep (c:=2) (by omega) i (fun j hj=>(Gd.st (by unfold Me.ar;omega)).comp (Gd.st w0) (by omega))) hy (by omega) (by omega)
 have hj:∀i:Nat,i≤c.toNat→bG 500000000000000 ((rep (fun i y=>(y.st (a+i) 18446744073709551615).st (b+i) 0) i y).st (a+i) 18446744073709551615):=fun i h=>bG.of (c:=1) (f:=fun y=>y.st (a+i) 18446744073709551615) (Gd.st (by unfold Me.ar;omega)) (hi i h) (by omega) (by omega)
 refine Vx.fm H rfl (b:=Tryz.a71) ?_
 (repeat' first|constructor|exact ZQ|intro _)
 all_goals apply zL
 (first|refine Vx.forM (C:=fun l=>_::l) (mm:=(ad m bl · rest)) (f:=(fun i y=>(y.st (a+i) 18446744073709551615).st (b+i) 0)) (Int.toNat c) (fun i=>[I (i:Int)]) ?_ ?_|refine Vx.forM (C:=fun l=>_::_::l) (mm:=(ad m bl · rest)) (f:=(fun i y=>(y.st (a+i) 18446744073709551615).st (b+i) 0)) (Int.toNat c) (fun i=>[I (i:Int)]) ?_ ?_|refine Vx.forM (C:=fun l=>_::_::_::l) (mm:=(ad m bl · rest)) (f:=(fun i y=>(y.st (a+i) 18446744073709551615).st (b+i) 0)) (Int.toNat c) (fun i=>[I (i:Int)]) ?_ ?_|refine Vx.forM (C:=fun l=>_::_::_::_::l) (mm:=(ad m bl · rest)) (f:=(fun i y=>(y.st (a+i) 18446744073709551615).st (b+i) 0)) (Int.toNat c) (fun i=>[I (i:Int)]) ?_ ?_|refine Vx.forM (C:=fun l=>_::_::_::_::_::l) (mm:=(ad m bl · rest)) (f:=(fun i y=>(y.st (a+i) 18446744073709551615).st (b+i) 0)) (Int.toNat c) (fun i=>[I (i:Int)]) ?_ ?_|refine Vx.forM (C:=fun l=>_::_::_::_::_::_::l) (mm:=(ad m bl · rest)) (f:=(fun i y=>(y.st (a+i) 18446744073709551615).st (b+i) 0)) (Int.toNat c) (fun i=>[I (i:Int)]) ?_ ?_)
 ·intro i jq gX
  have kT:=(hi i (by omega)).1
  have V7:=(hj i (by omega)).1
  (repeat' first|constructor|exact ZQ|intro _)
  all_goals apply zL
  all_goals exact gX
 ·have kT:=(hi _ (Nat.le_refl _)).1
  (repeat' first|constructor|exact ZQ|intro _)
  all_goals apply zL
  exact⟨rfl,rfl,_,⟨rfl,rfl⟩,HQ⟩
instance SE {a b c:Int}:SC EM (zF 71) [.agg [I a,I b,I c],.ptr m 0] (ad m bl y rest++R0) ((Rs.mk a b c).ok∧bG 100000000000000 y) uv (ad m bl ((Rs.mk a b c).fill y) rest++R0):=SC.mk' fun h R ro B W S H=>MJ h.1 h.2 H
theorem MK {s k a b c:Int}(hs:(Jb.mk s k ⟨a,b,c⟩).ok∧c≤64)(hy:bG 100000000000000 y)(H:Cx B0 W S (ad m bl y rest++R) ro):
  aO EM (zF 69) [.agg [I s,I k,I a,I b,I c],.ptr m 0] S fun u S'=>∃ab,(u=uv∧ab=ad m bl ((Jb.mk s k ⟨a,b,c⟩).fill y) rest++R)∧Cx B0 W S' ab ro:=by
 have bn:=hs
 unfold Jb.ok Sk.ok at bn
 dsimp only at bn
 unfold Jb.fill
 dsimp only
 have hw:Me.ar (jw 1 0 1):=by unfold Me.ar jw;omega
 have h0:(Sk.mk a b c).ok∧bG 1000000000000000 y:=⟨hs.1.1,hy.1,by have:=hy.2;omega⟩
 have h1:bG 200000000000000 ((Sk.mk a b c).fill y):=.of (Sk.aX hs.1.1) hy (by omega) (by omega)
 have hi:∀i:Nat,i≤c.toNat→bG 400000000000000 (rep (fun i y=>(y.st (s+i) (jw 1 0 1)).st (k+i) 0) i ((Sk.mk a b c).fill y)):=fun i hi=>bG.of (c:=i*2) (Gd.rep (c:=2) (by omega) i (fun j hj=>(Gd.st hw).comp (Gd.st w0) (by omega))) h1 (by omega) (by omega)
 have hj:∀i:Nat,i≤c.toNat→bG 500000000000000 ((rep (fun i y=>(y.st (s+i) (jw 1 0 1)).st (k+i) 0) i ((Sk.mk a b c).fill y)).st (s+i) (jw 1 0 1)):=fun i h=>bG.of (c:=1) (f:=fun y=>y.st (s+i) (jw 1 0 1)) (Gd.st hw) (hi i h) (by omega) (by omega)
 refine Vx.fm H rfl (b:=Tryz.a69) ?_
 (repeat' first|constructor|exact ZQ|intro _)
 all_goals apply zL
 (first|refine Vx.forM (C:=fun l=>_::l) (mm:=(ad m bl · rest)) (f:=(fun i y=>(y.st (s+i) (jw 1 0 1)).st (k+i) 0)) (Int.toNat c) (fun i=>[I (i:Int)]) ?_ ?_|refine Vx.forM (C:=fun l=>_::_::l) (mm:=(ad m bl · rest)) (f:=(fun i y=>(y.st (s+i) (jw 1 0 1)).st (k+i) 0)) (Int.toNat c) (fun i=>[I (i:Int)]) ?_ ?_|refine Vx.forM (C:=fun l=>_::_::_::l) (mm:=(ad m bl · rest)) (f:=(fun i y=>(y.st (s+i) (jw 1 0 1)).st (k+i) 0)) (Int.toNat c) (fun i=>[I (i:Int)]) ?_ ?_|refine Vx.forM (C:=fun l=>_::_::_::_::l) (mm:=(ad m bl · rest)) (f:=(fun i y=>(y.st (s+i) (jw 1 0 1)).st (k+i) 0)) (Int.toNat c) (fun i=>[I (i:Int)]) ?_ ?_|refine Vx.forM (C:=fun l=>_::_::_::_::_::l) (mm:=(ad m bl · rest)) (f:=(fun i y=>(y.st (s+i) (jw 1 0 1)).st (k+i) 0)) (Int.toNat c) (fun i=>[I (i:Int)]) ?_ ?_|refine Vx.forM (C:=fun l=>_::_::_::_::_::_::l) (mm:=(ad m bl · rest)) (f:=(fun i y=>(y.st (s+i) (jw 1 0 1)).st (k+i) 0)) (Int.toNat c) (fun i=>[I (i:Int)]) ?_ ?_)
 ·intro i jq gX
  have kT:=(hi i (by omega)).1
  have V7:=(hj i (by omega)).1
  (repeat' first|constructor|exact ZQ|intro _)
  all_goals apply zL
  all_goals exact gX
 ·have kT:=(hi _ (Nat.le_refl _)).1
  (repeat' first|constructor|exact ZQ|intro _)
  all_goals apply zL
  exact⟨rfl,rfl,_,⟨rfl,rfl⟩,HQ⟩
instance SF {s k a b c:Int}:SC EM (zF 69) [.agg [I s,I k,I a,I b,I c],.ptr m 0] (ad m bl y rest++R0) (((Jb.mk s k ⟨a,b,c⟩).ok∧c≤64)∧bG 100000000000000 y) uv (ad m bl ((Jb.mk s k ⟨a,b,c⟩).fill y) rest++R0):=SC.mk' fun h R ro B W S H=>MK h.1 h.2 H
theorem ML {a b c g w li e p n t:Int}(hs:(Lb.mk ⟨⟨a,b,c⟩,g,w,li⟩ ⟨e,p,n⟩ t).ok)(hy:bG 10000000000000 y)(H:Cx B0 W S (ad m bl y rest++R) ro):
  aO EM (zF 157) [.agg [I a,I b,I c,I g,I w,I li,I e,I p,I n,I t],.ptr m 0] S fun u S'=>∃ab,(u=uv∧ab=ad m bl ((Lb.mk ⟨⟨a,b,c⟩,g,w,li⟩ ⟨e,p,n⟩ t).fill y) rest++R)∧Cx B0 W S' ab ro:=by
 have bn:=hs
 unfold Lb.ok at bn
 dsimp only at bn
 unfold Lb.fill
 dsimp only
 have h0:(Ar.mk ⟨a,b,c⟩ g w li).ok∧bG 100000000000000 y:=⟨hs.1,hy.1,by have:=hy.2;omega⟩
 have h1:bG 20000000000000 ((Ar.mk ⟨a,b,c⟩ g w li).fill y):=.of (Ar.aX hs.1) hy (by omega) (by omega)
 have NP:(Ep.mk e p n).ok∧bG 100000000000000 ((Ar.mk ⟨a,b,c⟩ g w li).fill y):=⟨hs.2.1,h1.1,by have:=h1.2;omega⟩
 have h2:bG 30000000000000 ((Ep.mk e p n).fill ((Ar.mk ⟨a,b,c⟩ g w li).fill y)):=.of (Ep.aX hs.2.1) h1 (by omega) (by omega)
 have hi:∀i:Nat,i≤3→bG 400000000000000 (rep (fun i y=>y.st (t+i) 0) i ((Ep.mk e p n).fill ((Ar.mk ⟨a,b,c⟩ g w li).fill y))):=fun i hi=>bG.of (c:=i*1) (Gd.rep (c:=1) (by omega) i (fun j hj=>Gd.st w0)) h2 (by omega) (by omega)
 refine Vx.fm H rfl (b:=Tryz.a157) ?_
 (repeat' first|constructor|exact ZQ|intro _)
 all_goals apply zL
 (first|refine Vx.forM (C:=fun l=>_::l) (mm:=(ad m bl · rest)) (f:=(fun i y=>y.st (t+i) 0)) (Int.toNat 3) (fun i=>[I (i:Int)]) ?_ ?_|refine Vx.forM (C:=fun l=>_::_::l) (mm:=(ad m bl · rest)) (f:=(fun i y=>y.st (t+i) 0)) (Int.toNat 3) (fun i=>[I (i:Int)]) ?_ ?_|refine Vx.forM (C:=fun l=>_::_::_::l) (mm:=(ad m bl · rest)) (f:=(fun i y=>y.st (t+i) 0)) (Int.toNat 3) (fun i=>[I (i:Int)]) ?_ ?_|refine Vx.forM (C:=fun l=>_::_::_::_::l) (mm:=(ad m bl · rest)) (f:=(fun i y=>y.st (t+i) 0)) (Int.toNat 3) (fun i=>[I (i:Int)]) ?_ ?_|refine Vx.forM (C:=fun l=>_::_::_::_::_::l) (mm:=(ad m bl · rest)) (f:=(fun i y=>y.st (t+i) 0)) (Int.toNat 3) (fun i=>[I (i:Int)]) ?_ ?_|refine Vx.forM (C:=fun l=>_::_::_::_::_::_::l) (mm:=(ad m bl · rest)) (f:=(fun i y=>y.st (t+i) 0)) (Int.toNat 3) (fun i=>[I (i:Int)]) ?_ ?_)
 ·intro i jq gX
  have kT:=(hi i (by omega)).1
  (repeat' first|constructor|exact ZQ|intro _)
  all_goals apply zL
  all_goals first
   |exact gX
   |(have Du:Vx EM (.ret .normal [I ((i:Int)+1)]) _ (_::(ad m bl (Me.st (rep (fun i y=>y.st (t+i) 0) i ((Ep.mk e p n).fill ((Ar.mk ⟨a,b,c⟩ g w li).fill y))) (t+i) 0) rest++R)) ro _:=gX
     generalize ad m bl (Me.st _ _ _) rest=MM at Du⊢
     exact Vx.cb HQ Du)
 ·have kT:=(hi _ (Nat.le_refl _)).1
  (repeat' first|constructor|exact ZQ|intro _)
  all_goals apply zL
  exact⟨rfl,rfl,_,⟨rfl,rfl⟩,HQ⟩
instance SG {a b c g w li e p n t:Int}:SC EM (zF 157) [.agg [I a,I b,I c,I g,I w,I li,I e,I p,I n,I t],.ptr m 0] (ad m bl y rest++R0) ((Lb.mk ⟨⟨a,b,c⟩,g,w,li⟩ ⟨e,p,n⟩ t).ok∧bG 10000000000000 y) uv (ad m bl ((Lb.mk ⟨⟨a,b,c⟩,g,w,li⟩ ⟨e,p,n⟩ t).fill y) rest++R0):=SC.mk' fun h R ro B W S H=>ML h.1 h.2 H
instance JR {nd hd ht a b c g w li e p n t:Int}:VC EM (zF 133) [.agg [I nd,I hd,I ht,I a,I b,I c,I g,I w,I li,I e,I p,I n,I t]] (X.To.ok ⟨nd,hd,ht,a,b,c,g,w,li,e,p,n,t⟩) (B true) where
 ok:=fun hp S=>az (X.zw (t:=⟨nd,hd,ht,a,b,c,g,w,li,e,p,n,t⟩)) fun r S' h=>⟨h.1.trans (congrArg B (decide_eq_true hp)),h.2⟩
theorem MN {nd hd ht a b c g w li e p n t:Int}(hs:(Tw.mk nd hd ht ⟨⟨⟨a,b,c⟩,g,w,li⟩,⟨e,p,n⟩,t⟩).ok)(hy:bG 1000000000000 y)(H:Cx B0 W S (ad m bl y rest++R) ro):
  aO EM (zF 67) [.agg [I nd,I hd,I ht,I a,I b,I c,I g,I w,I li,I e,I p,I n,I t],.ptr m 0] S fun u S'=>∃ab,(u=uv∧ab=ad m bl ((Tw.mk nd hd ht ⟨⟨⟨a,b,c⟩,g,w,li⟩,⟨e,p,n⟩,t⟩).fill y) rest++R)∧Cx B0 W S' ab ro:=by
 have bn:=hs
 unfold Tw.ok Lb.ok Ar.ok Sk.ok at bn
 dsimp only at bn
 have G0:X.To.ok ⟨nd,hd,ht,a,b,c,g,w,li,e,p,n,t⟩:=by unfold X.To.ok;dsimp only;omega
 unfold Tw.fill
 dsimp only
 have h0:(Lb.mk ⟨⟨a,b,c⟩,g,w,li⟩ ⟨e,p,n⟩ t).ok∧bG 10000000000000 y:=⟨hs.2.2.2.2,hy.1,by have:=hy.2;omega⟩
 have h1:bG 20000000000000 ((Lb.mk ⟨⟨a,b,c⟩,g,w,li⟩ ⟨e,p,n⟩ t).fill y):=.of (Lb.aX hs.2.2.2.2) hy (by omega) (by omega)
 have hi:∀i:Nat,i≤ht.toNat→bG 400000000000000 (rep (fun i y=>y.st (hd+i) 0) i ((Lb.mk ⟨⟨a,b,c⟩,g,w,li⟩ ⟨e,p,n⟩ t).fill y)):=fun i hi=>bG.of (c:=i*1) (Gd.rep (c:=1) (by omega) i (fun j hj=>Gd.st w0)) h1 (by omega) (by omega)
 refine Vx.fm H rfl (b:=Tryz.a67) ?_
 (repeat' first|constructor|exact ZQ|intro _)
 all_goals apply zL
 (first|refine Vx.forM (C:=fun l=>_::l) (mm:=(ad m bl · rest)) (f:=(fun i y=>y.st (hd+i) 0)) (Int.toNat ht) (fun i=>[I (i:Int)]) ?_ ?_|refine Vx.forM (C:=fun l=>_::_::l) (mm:=(ad m bl · rest)) (f:=(fun i y=>y.st (hd+i) 0)) (Int.toNat ht) (fun i=>[I (i:Int)]) ?_ ?_|refine Vx.forM (C:=fun l=>_::_::_::l) (mm:=(ad m bl · rest)) (f:=(fun i y=>y.st (hd+i) 0)) (Int.toNat ht) (fun i=>[I (i:Int)]) ?_ ?_|refine Vx.forM (C:=fun l=>_::_::_::_::l) (mm:=(ad m bl · rest)) (f:=(fun i y=>y.st (hd+i) 0)) (Int.toNat ht) (fun i=>[I (i:Int)]) ?_ ?_|refine Vx.forM (C:=fun l=>_::_::_::_::_::l) (mm:=(ad m bl · rest)) (f:=(fun i y=>y.st (hd+i) 0)) (Int.toNat ht) (fun i=>[I (i:Int)]) ?_ ?_|refine Vx.forM (C:=fun l=>_::_::_::_::_::_::l) (mm:=(ad m bl · rest)) (f:=(fun i y=>y.st (hd+i) 0)) (Int.toNat ht) (fun i=>[I (i:Int)]) ?_ ?_)
 ·intro i jq gX
  have kT:=(hi i (by omega)).1
  (repeat' first|constructor|exact ZQ|intro _)
  all_goals apply zL
  all_goals exact gX
 ·have kT:=(hi _ (Nat.le_refl _)).1
  (repeat' first|constructor|exact ZQ|intro _)
  all_goals apply zL
  exact⟨rfl,rfl,_,⟨rfl,rfl⟩,HQ⟩
instance SH {nd hd ht a b c g w li e p n t:Int}:SC EM (zF 67) [.agg [I nd,I hd,I ht,I a,I b,I c,I g,I w,I li,I e,I p,I n,I t],.ptr m 0] (ad m bl y rest++R0) ((Tw.mk nd hd ht ⟨⟨⟨a,b,c⟩,g,w,li⟩,⟨e,p,n⟩,t⟩).ok∧bG 1000000000000 y) uv (ad m bl ((Tw.mk nd hd ht ⟨⟨⟨a,b,c⟩,g,w,li⟩,⟨e,p,n⟩,t⟩).fill y) rest++R0):=SC.mk' fun h R ro B W S H=>MN h.1 h.2 H
theorem MO {f n r:Int}(hs:(0≤f∧f<4096)∧(1≤n∧n≤64)∧1≤r∧r≤16)(hy:bG 10000000000000 y)(H:Cx B0 W S (ad m bl y rest++R) ro):
  aO EM (zF 70) [.agg [I f,I n,I r],.ptr m 0] S fun u S'=>∃ab,(u=uv∧ab=ad m bl (iH f n r y) rest++R)∧Cx B0 W S' ab ro:=by
 unfold iH
 have hb:∀i:Nat,i<n.toNat→0≤(i:Int)*(r+2)∧(i:Int)*(r+2)≤64*18:=fun i hi=>⟨Int.mul_nonneg (by omega) (by omega),Int.mul_le_mul (by omega) (by omega) (by omega) (by omega)⟩
 have hi:∀i:Nat,i≤n.toNat→bG 40000000000000 (rep (fun c y=>Rn.fill ⟨f+c*(r+2),f+c*(r+2)+1,f+c*(r+2)+2,r⟩ y) i y):=fun i hi=>bG.of (c:=i*5000) (Gd.rep (c:=5000) (by omega) i (fun j hj=>Rn.aX (by dsimp only;omega))) hy (by omega) (by omega)
 refine Vx.fm H rfl (b:=Tryz.a70) ?_
 (repeat' first|constructor|exact ZQ|intro _)
 all_goals apply zL
 (first|refine Vx.forM (C:=fun l=>_::l) (mm:=(ad m bl · rest)) (f:=(fun c y=>Rn.fill ⟨f+c*(r+2),f+c*(r+2)+1,f+c*(r+2)+2,r⟩ y)) (Int.toNat n) (fun i=>[I (i:Int)]) ?_ ?_|refine Vx.forM (C:=fun l=>_::_::l) (mm:=(ad m bl · rest)) (f:=(fun c y=>Rn.fill ⟨f+c*(r+2),f+c*(r+2)+1,f+c*(r+2)+2,r⟩ y)) (Int.toNat n) (fun i=>[I (i:Int)]) ?_ ?_|refine Vx.forM (C:=fun l=>_::_::_::l) (mm:=(ad m bl · rest)) (f:=(fun c y=>Rn.fill ⟨f+c*(r+2),f+c*(r+2)+1,f+c*(r+2)+2,r⟩ y)) (Int.toNat n) (fun i=>[I (i:Int)]) ?_ ?_|refine Vx.forM (C:=fun l=>_::_::_::_::l) (mm:=(ad m bl · rest)) (f:=(fun c y=>Rn.fill ⟨f+c*(r+2),f+c*(r+2)+1,f+c*(r+2)+2,r⟩ y)) (Int.toNat n) (fun i=>[I (i:Int)]) ?_ ?_|refine Vx.forM (C:=fun l=>_::_::_::_::_::l) (mm:=(ad m bl · rest)) (f:=(fun c y=>Rn.fill ⟨f+c*(r+2),f+c*(r+2)+1,f+c*(r+2)+2,r⟩ y)) (Int.toNat n) (fun i=>[I (i:Int)]) ?_ ?_|refine Vx.forM (C:=fun l=>_::_::_::_::_::_::l) (mm:=(ad m bl · rest)) (f:=(fun c y=>Rn.fill ⟨f+c*(r+2),f+c*(r+2)+1,f+c*(r+2)+2,r⟩ y)) (Int.toNat n) (fun i=>[I (i:Int)]) ?_ ?_)
 ·intro i jq gX
  have q:=hb i jq
  have kT:(Rn.mk (f+i*(r+2)) (f+i*(r+2)+1) (f+i*(r+2)+2) r).ok∧bG 100000000000000 (rep (fun c y=>Rn.fill ⟨f+c*(r+2),f+c*(r+2)+1,f+c*(r+2)+2,r⟩ y) i y):=⟨by unfold Rn.ok;dsimp only;omega,(hi i (by omega)).1,by have:=(hi i (by omega)).2;omega⟩
  (repeat' first|constructor|exact ZQ|intro _)
  all_goals apply zL
  all_goals first
   |exact gX
   |(have Du:Vx EM (.ret .normal [I ((i:Int)+1)]) _ (_::_::_::_::_::(ad m bl (Rn.fill ⟨f+i*(r+2),f+i*(r+2)+1,f+i*(r+2)+2,r⟩ (rep (fun c y=>Rn.fill ⟨f+c*(r+2),f+c*(r+2)+1,f+c*(r+2)+2,r⟩ y) i y)) rest++R)) ro _:=gX
     generalize ad m bl (Rn.fill _ _) rest=MM at Du⊢
     exact Vx.cb HQ Du)
   |skip
 ·(repeat' first|constructor|exact ZQ|intro _)
  all_goals apply zL
  exact⟨rfl,rfl,_,⟨rfl,rfl⟩,HQ⟩
instance SI {f n r:Int}:SC EM (zF 70) [.agg [I f,I n,I r],.ptr m 0] (ad m bl y rest++R0) (((0≤f∧f<4096)∧(1≤n∧n≤64)∧1≤r∧r≤16)∧bG 10000000000000 y) uv (ad m bl (iH f n r y) rest++R0):=SC.mk' fun h R ro B W S H=>MO h.1 h.2 H
variable{x:Xc}{v:AV}{l:List dW.Tk}
theorem MP (hx:x.ok)(hv:aQ.sl v 4 (dW.eK l)∈ro)(hs:x.ex.ok l)(hy:bG 100000000 y)(H:Cx B0 W S (ad m bl y rest++R) ro):
  aO EM (zF 14) [.agg (x.cs++[v]),.ptr m 0] S fun u S'=>∃ab,(u=uv∧ab=ad m bl (x.fill y) rest++R)∧Cx B0 W S' ab ro:=by
 have hl:gq S v 4 (dW.eK l):=(H.iy hv).1
 obtain⟨ov,cv⟩:=X.dt hl
 have tf:=hx
 unfold Xc.ok Tw.ok Lb.ok Ep.ok Rs.ok at tf
 have hm:=Xc.qj hs
 have V8:(l.length:Int)≤32:=by
  have h:=hs.2.1
  unfold dW.ni at h
  split at h
  ·cases h
  ·omega
 have k0:x.t.ok∧bG 1000000000000 y:=⟨hx.1,hy.1,by have:=hy.2;omega⟩
 have h1:bG 200000000 (x.t.fill y):=.of (Tw.aX hx.1) hy (by omega) (by omega)
 have k1:(1≤x.many∧x.many≤32∧0≤x.b9∧x.b9<100000)∧bG 100000000000000 (x.t.fill y):=⟨by omega,h1.1,by have:=h1.2;omega⟩
 have h2:bG 300000000 (eW x.b9 x.many (x.t.fill y)):=.of (ur (by omega)) h1 (by omega) (by omega)
 have k2:(x.j.ok∧x.j.f.size≤64)∧bG 100000000000000 (eW x.b9 x.many (x.t.fill y)):=⟨⟨hx.2.1,by omega⟩,h2.1,by have:=h2.2;omega⟩
 have h3:bG 400000000 (x.j.fill (eW x.b9 x.many (x.t.fill y))):=.of (Jb.aX hx.2.1) h2 (by omega) (by omega)
 have k3:((0≤x.iB∧x.iB<4096)∧(1≤x.aH∧x.aH≤64)∧1≤x.room∧x.room≤16)∧bG 10000000000000 (x.j.fill (eW x.b9 x.many (x.t.fill y))):=⟨by omega,h3.1,by have:=h3.2;omega⟩
 have h4:bG 500000000 (iH x.iB x.aH x.room (x.j.fill (eW x.b9 x.many (x.t.fill y)))):=.of (uu (by omega) (by omega)) h3 (by omega) (by omega)
 have k4:x.r.ok∧bG 100000000000000 (iH x.iB x.aH x.room (x.j.fill (eW x.b9 x.many (x.t.fill y)))):=⟨hx.2.2.1,h4.1,by have:=h4.2;omega⟩
 have h5:bG 600000000 (x.r.fill (iH x.iB x.aH x.room (x.j.fill (eW x.b9 x.many (x.t.fill y))))):=.of (Rs.aX (by omega)) h4 (by omega) (by omega)
 have hi:∀i:Nat,i≤x.r.ah.toNat→bG 700000000 (rep (fun i y=>y.st (x.own+i) 0) i (x.r.fill (iH x.iB x.aH x.room (x.j.fill (eW x.b9 x.many (x.t.fill y)))))):=fun i hi=>bG.of (c:=i*1) (Gd.rep (c:=1) (by omega) i (fun j hj=>Gd.st w0)) h5 (by omega) (by omega)
 unfold Xc.fill
 rw[show x.t.l.e.ah=x.r.ah by omega]
 simp only[Xc.cs,Tw.cs,Lb.cs,Ar.cs,Ep.cs,lA,lB]
 refine Vx.fm H rfl (b:=Tryz.a14) ?_
 (repeat' first|constructor|exact ZQ|intro _)
 all_goals apply zL
 refine Vx.spec (Ψ:=fun u ab=>u=B true∧ab=_) (fun B1 W1 S1 H=>az (X.wB (e:=x.ex) hv H) fun r S' h=>⟨_,⟨h.1.trans (congrArg B (decide_eq_true hs)),rfl⟩,H.grow h.2⟩) ?_
 rintro _ _ ⟨rfl,rfl⟩
 (repeat' first|constructor|exact ZQ|intro _)
 all_goals apply zL
 (first|refine Vx.forM (C:=fun l=>_::l) (mm:=(ad m bl · rest)) (f:=(fun i y=>y.st (x.own+i) 0)) (Int.toNat x.r.ah) (fun i=>[I (i:Int)]) ?_ ?_|refine Vx.forM (C:=fun l=>_::_::l) (mm:=(ad m bl · rest)) (f:=(fun i y=>y.st (x.own+i) 0)) (Int.toNat x.r.ah) (fun i=>[I (i:Int)]) ?_ ?_|refine Vx.forM (C:=fun l=>_::_::_::l) (mm:=(ad m bl · rest)) (f:=(fun i y=>y.st (x.own+i) 0)) (Int.toNat x.r.ah) (fun i=>[I (i:Int)]) ?_ ?_|refine Vx.forM (C:=fun l=>_::_::_::_::l) (mm:=(ad m bl · rest)) (f:=(fun i y=>y.st (x.own+i) 0)) (Int.toNat x.r.ah) (fun i=>[I (i:Int)]) ?_ ?_|refine Vx.forM (C:=fun l=>_::_::_::_::_::l) (mm:=(ad m bl · rest)) (f:=(fun i y=>y.st (x.own+i) 0)) (Int.toNat x.r.ah) (fun i=>[I (i:Int)]) ?_ ?_|refine Vx.forM (C:=fun l=>_::_::_::_::_::_::l) (mm:=(ad m bl · rest)) (f:=(fun i y=>y.st (x.own+i) 0)) (Int.toNat x.r.ah) (fun i=>[I (i:Int)]) ?_ ?_)
 ·intro i jq gX
  have kT:=(hi i (by omega)).1
  (repeat' first|constructor|exact ZQ|intro _)
  all_goals apply zL
  all_goals exact gX
 ·have kT:=(hi _ (Nat.le_refl _)).1
  (repeat' first|constructor|exact ZQ|intro _)
  all_goals apply zL
  exact⟨rfl,rfl,_,⟨rfl,rfl⟩,HQ⟩
end
end
end Go.cY
