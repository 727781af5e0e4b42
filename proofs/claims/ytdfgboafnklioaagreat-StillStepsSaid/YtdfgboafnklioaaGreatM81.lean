/- Contracts. Conditions: in each theorem. -/
import Derived.Test.YtdfgboafnklioaaGreatM80
set_option linter.all false
set_option maxRecDepth 100000
set_option maxHeartbeats 4000000
namespace Go.cI
open Go.Proofs
theorem Vx.ydf {M}{p m:Nat}{args b own ro Ψ B0 S W}(h:Vx M (b (.yd p::args)) [.yd p λv=>.ret .ret [v]] own ro (gQ ro Ψ))(hl:args.length=m)(hm:Own.obj p (.loop .ready none m b)∈own)(H:Cx B0 W S own ro):aG M (.yd p) args S λr S'=>∃ab,Ψ r ab/\Cx B0 W S' ab ro:=by
 have fin:∀{v:AV} {S':AH},wp M (.ret .ret [v]) S' (post M [] (cl B0 W (gQ ro Ψ)))->∃ab,Ψ v ab/\Cx B0 W S' ab ro:=by rintro v S' ⟨t,vs,S1,⟨n0,h1⟩,ab,LF,⟨_,hr,tgt,h3,h4⟩,h5⟩;cases h1 n0 (Nat.le_refl _);subst hr;exact⟨tgt,h3,h4.cx h5⟩
 refine Gw (H.oh _ hm) hl (wp_mono (h B0 W S H) ?_);rintro t vs S' ⟨pd,m',b',hg,h2⟩;refine⟨pd,m',b',hg,?_⟩;cases t<;>exact fin h2
def mA (pm p3 p4 p8 zx m bl:Nat)(rest:List AV)(z:RS)(e:Int)(T:List Own):List Own:=
 .obj zx (.row [B z.busy])::.obj p8 (.row [.fn (.func 118) [] [.ptr pm 0,.ptr p3 0]])::.obj p4 (.row [I e])::.obj p3 (.row z.r.cs)::.obj pm (.row [.ptr m 0])::(ad m bl z.y rest++T)
theorem Zx.pE {M}{n:Bool}{p:Nat}{args k K own ro Φ}(h:bL (Vx M (.call (.yd p) args k) K own ro Φ)):Zx M n (.call (.yd p) args k) K own ro Φ:=.z h
def Uk (p:Nat)(b:List AV->AC)(c:Bool):Own:=.obj p (if c then .loop .done (some (.exit 12)) 2 b else .loop .ready none 2 b)
def BA (c:Bool):Int:=if c then 4 else 0
def YOk (x:Xc)(ro:List aF)(N:Int)(Ln n:Nat)(p pm p3 p4 p8 zx m bl:Nat)(rest:List AV)(lp:Bool->Own):Prop:=
 ∀{B0 S:AH} {W:List Nat} {R:List Own} {o:Od} {σ:az} {q:Nat} {lo:List Own} {z:RS} {c κ:Int},o.k≠0->(σ.over=false->o.ok x)->σ.wd->z.ok N Ln n κ->(0<=κ/\κ<=10000)->dR x o q 0 σ lo->
  Cx B0 W S (lo++(lp false::mA pm p3 p4 p8 zx m bl rest z 0 R)) ro->
  aG EM (.yd p) [I c,.ptr q 0] S λu S'=>∃ab,(u=B (!(sW x o σ z).2)/\(sW x o σ z).1.ok N Ln n (κ+1)/\ab=lp (sW x o σ z).2::mA pm p3 p4 p8 zx m bl rest (sW x o σ z).1 (BA (sW x o σ z).2) R)/\Cx B0 W S' ab ro
theorem IG {x o σ z}{N κ n:Int}{Ln len:Nat}{s'}(hz:z.ok N Ln len κ)(e:(n,s')=f_.alone x o 100000 100000 0 ⟨σ,z.y,0⟩)(hs:s'.ok x o (N+κ*1000000+1000000) Ln):(sW x o σ z).1.ok N Ln len (κ+1):=by
 have hb:=iy (x:=x) (o:=o) (most:=100000) (n:=100000) (i:=0) (s:=⟨σ,z.y,0⟩);rw[<-e] at hb;dsimp only at hb;have h1:=hz.s;have h2:=hz.p;have h3:=hs.n;unfold sW;rw[<-e];dsimp only;unfold gy.plus;split;.exact⟨hs.y,hs.l,by dsimp only;omega,by dsimp only;omega,by dsimp only;omega,hz.a⟩
 .exact⟨hs.y,hs.l,by dsimp only;omega,by dsimp only;omega,by dsimp only;omega,hz.a⟩
theorem DW {x o σ z}:(sW x o σ z).1.r.rounds=z.r.rounds/\(sW x o σ z).1.r.ended=z.r.ended/\(sW x o σ z).1.a=z.a:=by
 unfold sW;dsimp only;split<;>exact⟨rfl,rfl,rfl⟩
theorem DX {x L}:∀{n k:Nat} {z},(rl x L n k z).1.r.rounds=z.r.rounds/\(rl x L n k z).1.r.ended=z.r.ended
 |0,_,_=>⟨rfl,rfl⟩
 |n+1,k,z=>by
  have h:=DW (x:=x) (o:=(jG x L k z.a).o) (σ:=(jG x L k z.a).σ) (z:=⟨z.y,(jG x L k z.a).a,z.r,z.busy⟩);unfold rl;split;.exact⟨h.1,h.2.1⟩
  .have:=DX (x:=x) (L:=L) (n:=n) (k:=k+1) (z:=(iz x L k z).1);exact⟨this.1.trans h.1,this.2.trans h.2.1⟩
theorem zh {x L}{n k:Nat}{z}(h:(iz x L k z).2=false):rl x L (n+1) k z=rl x L n (k+1) (iz x L k z).1:=by show(if(iz x L k z).2 then _ else _)=_;rw[h];rfl
theorem zi {x L}{n k:Nat}{z}(h:(iz x L k z).2=true):rl x L (n+1) k z=iz x L k z:=by show(if(iz x L k z).2 then _ else _)=_;rw[h];rfl
def Zq:Nat->AV
 |0=>.no
 |_+1=>I 3
section
variable{a1 a2 a3 a4 a5 c q k e f g:Own}{mm dr lo R:List Own}
theorem roA:Hs (k::q::c::g::a1::a2::a3::a4::a5::(mm++(dr++(e::f::R)))) (dr++(c::q::(k::g::a1::a2::a3::a4::a5::(mm++(e::f::R))))):=HQ
theorem roB:Hs (lo++(dr++(c::q::(k::g::a1::a2::a3::a4::a5::(mm++(e::f::R)))))) (lo++(g::a1::a2::a3::a4::a5::(mm++(dr++(k::q::c::e::f::R))))):=HQ
theorem roC:Hs (g::a1::a2::a3::a4::a5::(mm++(dr++(k::q::c::e::f::R)))) (dr++(c::q::(k::g::a1::a2::a3::a4::a5::(mm++(e::f::R))))):=HQ
theorem roD:Hs (g::a1::a2::a3::a4::a5::(mm++(dr++(k::q::c::e::f::R)))) (c::(g::a1::a2::a3::a4::a5::(mm++(dr++(k::q::e::f::R))))):=HQ
theorem roE:Hs (lo++(c::(g::a1::a2::a3::a4::a5::(mm++(dr++(k::q::e::f::R)))))) (lo++(g::a1::a2::a3::a4::a5::(mm++(dr++(k::q::c::e::f::R))))):=HQ
theorem roF:Hs (g::a1::a2::a3::a4::a5::(mm++(dr++(k::q::c::e::f::R)))) (g::a1::a2::a3::a4::a5::(mm++(dr++(e::f::R)))):=HQ
theorem Zr:Hs (g::a1::a2::a3::a4::a5::(mm++(dr++(k::q::c::e::f::R)))) (g::a1::a2::a3::a4::a5::(mm++(dr++R))):=HQ
end
instance ac0:cA 119 where
instance ac1:cA 224 where
section
variable{R:List Own}{ro:List aF}{p pm p3 p4 p8 zx m bl pe pd d sd:Nat}{rest:List AV}{x:Xc}{v dv:AV}{l:List cX.Tk}{L:List Int}{N:Int}{Ln:Nat}{lp:Bool->Own}{z:RS}{κ:Int}
theorem Pu {B0 S W}(hx:x.ok)(hv:aF.sl v 4 (cX.dm l)∈ro)(hs:x.ex.ok l)(hl:L.length<=4096)(hC:x.r.ae<=4)(hY:YOk x ro N Ln L.length p pm p3 p4 p8 zx m bl rest lp)(hz:z.ok N Ln L.length κ)(hκ:0<=κ/\κ<=9000)
  (H:Cx B0 W S (lp false::mA pm p3 p4 p8 zx m bl rest z 0 (lJ d sd dv L z.a++(.obj pe (.row (x.cs++[v]))::.obj pd (.row [.ptr d 0])::R))) ro):
  aG EM (.fn (.func 223) [] [.ptr pe 0,.ptr pd 0]) [.yd p] S λu S'=>∃ab,(∃w nS,w=rl x L (3*x.r.ae.toNat) 0 z/\w.1.ok N Ln L.length nS/\(0<=nS/\nS<=κ+12)/\ab=lp w.2::mA pm p3 p4 p8 zx m bl rest w.1 (BA w.2) (lJ d sd dv L w.1.a++R))/\Cx B0 W S' ab ro:=by
 have eR:1<=x.r.ae:=by have:=hx.2.2.1;unfold Rs.ok at this;omega
 refine Vx.fm H rfl ?_;simp only[Xc.cs,Tw.cs,Lb.cs,Ar.cs,Ep.cs,mA,lA,lB];refine z1 ?_;refine Vx.inv (α:=Nat×RS) (P:=λa n=>n+a.1=x.r.ae.toNat/\rl x L (3*x.r.ae.toNat) 0 z=rl x L (3*n) (3*a.1) a.2/\∃nS:Int,a.2.ok N Ln L.length nS/\0<=nS/\nS<=κ+3*a.1)
  (λa=>[I (a.1:Int),Zq a.1]) (λa=>lp false::mA pm p3 p4 p8 zx m bl rest a.2 0 (lJ d sd dv L a.2.a++(.obj pe (.row (x.cs++[v]))::.obj pd (.row [.ptr d 0])::R))) ?_ (a0:=(0,z)) (n0:=x.r.ae.toNat) ⟨by dsimp only;omega,rfl,κ,hz,am,by dsimp only;omega⟩
 rintro⟨c,z1⟩ n ⟨hn,hr,E8,ot,h0,h1⟩ ih;dsimp only at hn hr ot h1 ih⊢;simp only[Xc.cs,Tw.cs,Lb.cs,Ar.cs,Ep.cs,mA,lA,lB] at ih⊢;refine Zx.ok (n:=false) ?_;repeat' first|refine Zx.pE ?_|constructor|exact ZQ|intro _
 all_goals apply zL
 .next du pc pq pk=>
  have hrd:rl x L (3*x.r.ae.toNat) 0 z=rl x L (3*(n-1)+2+1) (3*c) z1:=by rw[hr];congr 1;omega
  have wH:∀{w:RS×Bool} {nS:Int} {own:List Own},rl x L (3*x.r.ae.toNat) 0 z=w->w.1.ok N Ln L.length nS->(0<=nS/\nS<=κ+12)->Hs own (lp w.2::mA pm p3 p4 p8 zx m bl rest w.1 (BA w.2) (lJ d sd dv L w.1.a++R))->gQ ro (λu ab=>∃w nS,w=rl x L (3*x.r.ae.toNat) 0 z/\w.1.ok N Ln L.length nS/\(0<=nS/\nS<=κ+12)/\ab=lp w.2::mA pm p3 p4 p8 zx m bl rest w.1 (BA w.2) (lJ d sd dv L w.1.a++R)) .ret [] own ro:=by intro w nS own e1 e2 e3 e4;exact⟨rfl,rfl,_,⟨w,nS,e1.symm,e2,e3,rfl⟩,e4⟩
  refine Vx.loop ?_;refine Zx.ok (n:=false) ?_;repeat' first|refine Zx.pE ?_|constructor|exact ZQ|intro _
  all_goals apply zL
  refine Vx.aO roA ?_;refine Vx.spec (λB1 W1 S1 H=>K3 hx hv hs ot.a hl H) ?_;rintro _ _ ⟨q1,lo1,rfl,RY,rfl⟩;repeat' first|refine Zx.pE ?_|constructor|exact ZQ|intro _
  all_goals apply zL
  refine Vx.aO roB ?_;have jI:=zf (x:=x) (L:=L) (k:=3*c) (a:=z1.a);have pI:iz x L (3*c) z1=sW x (jG x L (3*c) z1.a).o (jG x L (3*c) z1.a).σ ⟨z1.y,(jG x L (3*c) z1.a).a,z1.r,z1.busy⟩:=rfl;rw[Uh (c:=c) rfl] at jI pI;dsimp only at jI pI;refine Vx.spec (λB1 W1 S1 H=>hY (κ:=E8) (z:=⟨z1.y,mz L z1.a,z1.r,z1.busy⟩) jI.2.2.1 jI.1 jI.2.1 ⟨ot.g,ot.l,ot.n,ot.s,ot.p,zg ot.a⟩ am RY H) ?_;rintro _ _ ⟨rfl,IH,rfl⟩;have V0:=(DW (x:=x) (o:=aY 4 c (wc x L z1.a)) (σ:=aM x 4 c (wc x L z1.a)) (z:=⟨z1.y,mz L z1.a,z1.r,z1.busy⟩)).2.2;rw[<-pI] at IH V0⊢;dsimp only at V0;rw[<-V0];generalize V1:iz x L (3*c) z1=w1 at IH V0 pI⊢;obtain⟨z2,b1⟩:=w1;unfold mA BA;dsimp only at IH⊢;cases b1 with
  |true=>
   (repeat' first|constructor|exact ZQ|intro _)
   all_goals apply zL
   exact wH ((hrd.trans (zi (by rw[V1]))).trans V1) IH am (by unfold mA BA;exact Zr)
  |false=>
   have Ul:rl x L (3*x.r.ae.toNat) 0 z=rl x L (3*(n-1)+1+1) (3*c+1) z2:=hrd.trans ((zh (by rw[V1])).trans (by rw[V1]))
   (repeat' first|constructor|exact ZQ|intro _)
   all_goals apply zL
   refine Vx.J1 ?_;refine Zx.ok (n:=false) ?_;repeat' first|refine Zx.pE ?_|constructor|exact ZQ|intro _
   all_goals apply zL
   refine Vx.aO roC ?_;refine Vx.spec (λB1 W1 S1 H=>Pr hx hv hs IH.a hl H) ?_;rintro _ _ ⟨q2,nZ,rfl,ho2,rfl⟩;repeat' first|refine Zx.pE ?_|constructor|exact ZQ|intro _
   all_goals apply zL
   refine Vx.aO roB ?_;have Bu:=zf (x:=x) (L:=L) (k:=3*c+1) (a:=z2.a);have Qm:iz x L (3*c+1) z2=sW x (jG x L (3*c+1) z2.a).o (jG x L (3*c+1) z2.a).σ ⟨z2.y,(jG x L (3*c+1) z2.a).a,z2.r,z2.busy⟩:=rfl;rw[Ui (c:=c) rfl] at Bu Qm;dsimp only at Bu Qm;refine Vx.spec (λB1 W1 S1 H=>hY (κ:=E8+1) (z:=⟨z2.y,mz L z2.a,z2.r,z2.busy⟩) Bu.2.2.1 Bu.1 Bu.2.1 ⟨IH.g,IH.l,IH.n,IH.s,IH.p,zg IH.a⟩ am ho2 H) ?_;rintro _ _ ⟨rfl,I9,rfl⟩;have Tq:=(DW (x:=x) (o:=aY 2 c (wc x L z2.a)) (σ:=aM x 2 c (wc x L z2.a)) (z:=⟨z2.y,mz L z2.a,z2.r,z2.busy⟩)).2.2;rw[<-Qm] at I9 Tq⊢;dsimp only at Tq;rw[<-Tq];generalize Be:iz x L (3*c+1) z2=w2 at I9 Tq Qm⊢;obtain⟨z3,b2⟩:=w2;unfold mA BA;dsimp only at I9⊢;cases b2 with
   |true=>
    (repeat' first|constructor|exact ZQ|intro _)
    all_goals apply zL
    exact wH ((Ul.trans (zi (by rw[Be]))).trans Be) I9 am (by unfold mA BA;exact Zr)
   |false=>
    have Um:rl x L (3*x.r.ae.toNat) 0 z=rl x L (3*(n-1)+1) (3*c+2) z3:=Ul.trans ((zh (by rw[Be])).trans (by rw[Be]))
    (repeat' first|constructor|exact ZQ|intro _)
    all_goals apply zL
    refine Vx.J1 ?_;refine Zx.ok (n:=false) ?_;repeat' first|refine Zx.pE ?_|constructor|exact ZQ|intro _
    all_goals apply zL
    refine Vx.aO roD ?_;refine Vx.spec (λB1 W1 S1 H=>Ps hx hv hs H) ?_;rintro _ _ ⟨q3,lo3,rfl,ho3,rfl⟩;repeat' first|refine Zx.pE ?_|constructor|exact ZQ|intro _
    all_goals apply zL
    refine Vx.aO roE ?_;have Uq:=zf (x:=x) (L:=L) (k:=3*c+2) (a:=z3.a);have V2:iz x L (3*c+2) z3=sW x (jG x L (3*c+2) z3.a).o (jG x L (3*c+2) z3.a).σ ⟨z3.y,(jG x L (3*c+2) z3.a).a,z3.r,z3.busy⟩:=rfl;rw[Uj (c:=c) rfl] at Uq V2;dsimp only at Uq V2;refine Vx.spec (λB1 W1 S1 H=>hY (κ:=E8+1+1) (z:=⟨z3.y,z3.a,z3.r,z3.busy⟩) Uq.2.2.1 Uq.1 Uq.2.1 ⟨I9.g,I9.l,I9.n,I9.s,I9.p,I9.a⟩ am ho3 H) ?_;rintro _ _ ⟨rfl,Ur,rfl⟩;have V3:=(DW (x:=x) (o:=aY 3 c 1) (σ:=aM x 3 c 1) (z:=⟨z3.y,z3.a,z3.r,z3.busy⟩)).2.2;rw[<-V2] at Ur V3⊢;dsimp only at V3;rw[<-V3];generalize V4:iz x L (3*c+2) z3=w3 at Ur V3 V2⊢;obtain⟨z4,b3⟩:=w3;unfold mA BA;dsimp only at Ur⊢;cases b3 with
    |true=>
     (repeat' first|constructor|exact ZQ|intro _)
     all_goals apply zL
     exact wH ((Um.trans (zi (by rw[V4]))).trans V4) Ur am (by unfold mA BA;exact Zr)
    |false=>
     have Zs:rl x L (3*x.r.ae.toNat) 0 z=rl x L (3*(n-1)) (3*(c+1)) z4:=Um.trans ((zh (by rw[V4])).trans (by rw[V4,show 3*c+2+1=3*(c+1) by omega]))
     (repeat' first|constructor|exact ZQ|intro _)
     all_goals apply zL
     refine Vx.J1 ?_;refine Zx.ok (n:=false) ?_
     (repeat' first|constructor|exact ZQ|intro _)
     all_goals apply zL
     refine Vx.aO roF ?_;exact ih (c+1,z4) (n-1) am ⟨by dsimp only;omega,Zs,E8+1+1+1,Ur,am,by dsimp only;omega⟩
 .have e0:n=0:=am;subst e0;exact⟨rfl,rfl,_,⟨(z1,false),E8,hr.symm,ot,am,rfl⟩,by unfold BA;exact HQ⟩
end
structure Sd where
 s:Pt
 q:Nat
 h:Int
 lo:List Own
def pv:Option Sd->AV
 |none=>Np
 |some s=>.ptr s.q 0
def so:Option Sd->List Own
 |none=>[]
 |some s=>s.lo
def gA (l:List (Option Sd)):List Own:=(l.map so).flatten
def co:Option Sd->Option Pt:=Option.map Sd.s
def zj (l:List (Option Sd)):List (List AV):=l.map λs=>[pv s]
structure II (x:Xc)(v:AV)(ro:List aF)(s:Pt):Prop where
 k:s.σ.over=false->s.o.ok x
 w:s.σ.wd
 z:s.o.k≠0
 t:s.o.ok x->s.o.k=1->∃(L:List (List AV)) (c:List AV),aF.sl v 4 L∈ro/\L[s.o.tk.toNat]?=some c/\c[1]?=some (I s.o.prio)
def mS (x:Xc)(v:AV)(ro:List aF)(l:List (Option Sd)):Prop:=∀s,some s∈l->dR x s.s.o s.q s.s.b s.s.σ s.lo/\II x v ro s.s
def Bo (x:Xc)(v:AV)(ro:List aF)(l:List (Option Sd)):Prop:=∀s,some s∈l->bH x s.s.o v s.h s.q s.s.b s.s.σ s.lo/\II x v ro s.s
theorem hX {a b}:gA (a++b)=gA a++gA b:=by unfold gA;simp
theorem ub {s b}:gA (s::b)=so s++gA b:=rfl
theorem IJ {l}{i:Nat}{s}(h:l[i]?=some s):(zj l)[i]?=some [pv s]:=by unfold zj;rw[List.getElem?_map,h];rfl
theorem uc (l:List (Option Sd)):(zj l).length=l.length:=List.length_map ..
theorem cutAt {α:Type}{l r:List α}{i:Nat}{a:α}(h:l.drop i=a::r):l[i]?=some a/\l.drop (i+1)=r/\l.take (i+1)=l.take i++[a]:=by
 have e:l=l.take i++(a::r):=by rw[<-h,List.take_append_drop]
 have hl:i<l.length:=by apply Nat.lt_of_not_le;intro hn;rw[List.drop_eq_nil_of_le hn] at h;cases h
 have h1:l[i]?=some a:=by have:=congrArg (λl=>l[0]?) h;simpa[List.getElem?_drop] using this
 refine⟨h1,?_,?_⟩
 .rw[<-List.drop_drop,h];rfl
 .rw[List.take_add_one,h1];rfl
structure zA (x:Xc)(l:List (Option Sd))(y0:Me)(N:Int)(Ln n:Nat)(j:Nat)(dn rm:List (Option Sd))(y:Me)(r:gy):Prop where
 e:gz x (l.map co) y0 ⟨0,0,0,0,false⟩=(dn.map co++(gz x (rm.map co) y r).1,(gz x (rm.map co) y r).2)
 i:dn.length=j
 c:l.drop j=rm
 q:dn.map pv=(l.take j).map pv
 o:RS.ok N Ln n j ⟨y,0,r,false⟩
 d:0<=r.ended/\r.ended<=j
 u:r.rounds=0/\r.ops=0
theorem zA.zero {x l y0}{N:Int}{n:Nat}(h:y0.gd)(hn:y0.n<=N):zA x l y0 N y0.ws.length n 0 [] l y0 ⟨0,0,0,0,false⟩:=
 ⟨rfl,rfl,rfl,rfl,⟨h,rfl,by dsimp only;omega,by dsimp only;omega,by dsimp only;omega,by dsimp only;omega⟩,by dsimp only;omega,⟨rfl,rfl⟩⟩
section
variable{x:Xc}{l dn rm:List (Option Sd)}{y0 y:Me}{N k:Int}{Ln n i:Nat}{r:gy}{s:Sd}{s':f_}{lo:List Own}
theorem zA.nil (h:zA x l y0 N Ln n i dn (none::rm) y r):zA x l y0 N Ln n (i+1) (dn++[none]) rm y r:=by have o:=h.o;obtain⟨g1,g2,g3⟩:=cutAt h.c;refine⟨?_,by rw[List.length_append,h.i];rfl,g2,by rw[g3,List.map_append,List.map_append,h.q],⟨o.g,o.l,by have:=o.n;dsimp only at this⊢;omega,by have:=o.s;dsimp only at this⊢;omega,by have:=o.p;dsimp only at this⊢;omega,o.a⟩,by have:=h.d;omega,h.u⟩;rw[h.e,List.map_append,lC];rfl
theorem zA.cons (h:zA x l y0 N Ln n i dn (some s::rm) y r)(e:(k,s')=f_.alone x s.s.o 100000 100000 0 ⟨s.s.σ,y,s.s.b⟩)(hs:s'.ok x s.s.o (N+i*1000000+1000000) Ln)(ru:s'.σ.err≠14):
  zA x l y0 N Ln n (i+1) (dn++[some ⟨⟨s.s.o,s'.σ,s'.b⟩,s.q,s.h,lo⟩]) rm s'.y (r.plus k s').en:=by
 have o:=h.o;obtain⟨g1,g2,g3⟩:=cutAt h.c;have hb:=iy (x:=x) (o:=s.s.o) (most:=100000) (n:=100000) (i:=0) (s:=⟨s.s.σ,y,s.s.b⟩);rw[<-e] at hb;dsimp only at hb;refine⟨?_,by rw[List.length_append,h.i];rfl,g2,by rw[g3,List.map_append,List.map_append,h.q];rfl,⟨hs.y,hs.l,by have:=hs.n;dsimp only at this⊢;omega,by have:=o.s;unfold gy.en gy.plus;dsimp only at this⊢;omega,by have:=o.p;unfold gy.en gy.plus;dsimp only at this⊢;omega,o.a⟩,by have:=h.d;unfold gy.en gy.plus;dsimp only at this⊢;omega,h.u⟩;rw[h.e,List.map_append,lC];have e1:gz x ((some s::rm).map co) y r=(some ⟨s.s.o,s'.σ,s'.b⟩::(gz x (rm.map co) s'.y (r.plus k s').en).1,(gz x (rm.map co) s'.y (r.plus k s').en).2):=by show(if(f_.alone x s.s.o 100000 100000 0 ⟨s.s.σ,y,s.s.b⟩).2.σ.err=14 then _ else _)=_;rw[<-e,if_neg ru]
 rw[e1];rfl
theorem zA.K4 (h:zA x l y0 N Ln n i dn (some s::rm) y r)(e:(k,s')=f_.alone x s.s.o 100000 100000 0 ⟨s.s.σ,y,s.s.b⟩)(ru:s'.σ.err=14):
  gz x (l.map co) y0 ⟨0,0,0,0,false⟩=(dn.map co++(some ⟨s.s.o,s'.σ,s'.b⟩::rm.map co),s'.y,r.plus k s',true):=by
 rw[h.e];have e1:gz x ((some s::rm).map co) y r=(some ⟨s.s.o,s'.σ,s'.b⟩::rm.map co,s'.y,r.plus k s',true):=by show(if(f_.alone x s.s.o 100000 100000 0 ⟨s.s.σ,y,s.s.b⟩).2.σ.err=14 then _ else _)=_;rw[<-e,if_pos ru]
 rw[e1]
theorem zA.fin (h:zA x l y0 N Ln n i dn [] y r):gz x (l.map co) y0 ⟨0,0,0,0,false⟩=(dn.map co,y,r,false):=by rw[h.e];show(dn.map co++[],y,r,false)=_;rw[List.append_nil]
end
structure tC (x:Xc)(L:List Int)(l:List (Option Sd))(y:Me)(a:Nat)(l':List (Option Sd))(z:RS)(e:Int):Prop where
 e:(l'.map co,z,e)=IF x L (l.map co) y a
 p:l'.map pv=l.map pv
 g:z.y.gd
 w:z.y.ws.length=y.ws.length
 n:z.y.n<=1000000000000
 a:z.a<=L.length
theorem tC.K4 {x L l dn rm y0 y}{N k:Int}{n i a:Nat}{r s s' lo}(ha:a<=L.length)(hN:N+i*1000000+1000000<=1000000000000)(h:zA x (l.take x.r.ae.toNat) y0 N y0.ws.length n i dn (some s::rm) y r)(e:(k,s')=f_.alone x s.s.o 100000 100000 0 ⟨s.s.σ,y,s.s.b⟩)(hs:s'.ok x s.s.o (N+i*1000000+1000000) y0.ws.length)(ru:s'.σ.err=14):
  tC x L l y0 a (dn++(some ⟨⟨s.s.o,s'.σ,s'.b⟩,s.q,s.h,lo⟩::(rm++l.drop x.r.ae.toNat))) ⟨s'.y,a,r.plus k s',false⟩ 4:=by
 refine⟨?_,?_,hs.y,hs.l,by have:=hs.n;dsimp only;omega,ha⟩
 .unfold IF;rw[<-List.map_take,h.K4 e ru];dsimp only;rw[if_pos rfl,<-List.map_drop];simp[co]
 .rw[List.map_append,h.q];have e1:l=(l.take x.r.ae.toNat).take i++(some s::(rm++l.drop x.r.ae.toNat)):=by have e2:=List.take_append_drop x.r.ae.toNat l;have e3:=List.take_append_drop i (l.take x.r.ae.toNat);rw[h.c] at e3;rw[<-lA,<-lC,e3,e2]
  conv=>rhs;rw[e1]
  simp[pv]
theorem tC.rest {x L l dn y0 y}{N:Int}{n i a:Nat}{r z}{e:Int}(h:zA x (l.take x.r.ae.toNat) y0 N y0.ws.length n i dn [] y r)(he:pC x L (3*x.r.ae.toNat) (2*x.r.ae*x.j.f.size+x.room+4).toNat ⟨y,a,r,false⟩=(z,e))(hg:z.y.gd)(hl:z.y.ws.length=y0.ws.length)(hn:z.y.n<=1000000000000)(ha:z.a<=L.length):
  tC x L l y0 a (dn++l.drop x.r.ae.toNat) z e:=by
 refine⟨?_,?_,hg,hl,hn,ha⟩
 .unfold IF;rw[<-List.map_take,h.fin];dsimp only;rw[if_neg ac,<-List.map_drop,he];simp
 .rw[List.map_append,h.q,<-List.map_append];have e2:=List.take_append_drop x.r.ae.toNat l;have e3:=List.take_append_drop i (l.take x.r.ae.toNat);rw[h.c,List.append_nil] at e3;rw[e3,e2]
theorem zk {x:Xc}(hx:x.ok)(hC:x.r.ae<=4):1<=x.r.ae/\x.aI=x.r.ae/\(0<=2*x.r.ae*x.j.f.size/\2*x.r.ae*x.j.f.size<=512)/\(0<=2*x.aI*x.j.f.size/\2*x.aI*x.j.f.size<=512)/\(1<=x.room/\x.room<=16)/\2*x.r.ae<=8/\0<=2*x.r.ae:=by
 obtain⟨_,hj,hr,_,hm,_,e1,e2,Ut⟩:=hx;unfold Rs.ok at hr;have h0:0<=x.j.f.size:=by have:=hj.1;unfold Sk.ok at this;omega
 have h1:=Int.mul_nonneg (show 0<=2*x.r.ae by omega) h0;have h2:=Int.mul_le_mul (show 2*x.r.ae<=8 by omega) Ut h0 am;have e3:x.aI=x.r.ae:=am;rw[e3];omega
end Go.cI
