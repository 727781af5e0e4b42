/- Contracts. Conditions: in each theorem. -/
import Derived.Test.YtdfgboafnklioaaGreatM81
set_option linter.all false
set_option maxRecDepth 100000
set_option maxHeartbeats 4000000
namespace Go.cI
open Go.Proofs
section
variable{B0 S:AH}{W:List Nat}{R:List Own}{ro:List aF}{m bl d sd a:Nat}{rest:List AV}{x:Xc}{v dv vo:AV}{l:List cX.Tk}{L:List Int}{y:Me}{ls:List (Option Sd)}
theorem K5 (hx:x.ok)(hC:x.r.ae<=4)(hv:aF.sl v 4 (cX.dm l)∈ro)(hs:x.ex.ok l)(H:Cx B0 W S R ro):
  aG EM (zF 112) [.agg (x.cs++[v])] S λu S'=>∃ab,(u=I (2*x.r.ae*x.j.f.size+x.room+4)/\ab=R)/\Cx B0 W S' ab ro:=by
 obtain⟨ov,cv,bv⟩:=bx (H.eT hv).1;have hb:=zk hx hC;simp only[Xc.cs,Tw.cs,Lb.cs,Ar.cs,Ep.cs,lA,lB];refine y1 H rfl ?_;intros;refine Vx.spec (Ψ:=λu ab=>u=B true/\ab=_) (λB1 W1 S1 H=>ar (X.lG (e:=x.ex) hv H) λr S' h=>⟨_,⟨h.1.trans (congrArg B (decide_eq_true hs)),rfl⟩,H.grow h.2⟩) ?_;rintro _ _ ⟨rfl,rfl⟩;refine z1 ?_;exact⟨rfl,rfl,_,⟨rfl,rfl⟩,HQ⟩
theorem Vx.Zt {M own Φ K}{es i:Nat}{N k}(hv:aF.sl v es N∈ro)(hi:i<=N.length)(h:∀v',Vx M (k v') K own (.sl v' es (N.take i)::ro) Φ):Vx M (.op (.ko es v none (some (I (i:Int))) none) k) K own ro Φ:=λB W S H=>Eu H hv hi λv' H1=>h v' B W S H1
theorem IK {c:Nat}:(zj ls).take (min ls.length c)=zj (ls.take c):=by unfold zj;rw[<-List.map_take,<-List.take_take,List.take_of_length_le (i:=ls.length) (by rw[List.length_take];omega)]
theorem Uu {dn}:gA (dn++[none])=gA dn:=by simp[gA,so]
theorem Uv {dn s}:gA (dn++[some s])=gA dn++s.lo:=by simp[gA,so]
theorem mS.app {a b}(h:mS x v ro a)(h2:mS x v ro b):mS x v ro (a++b):=λs hs=>(List.mem_append.1 hs).elim (h s) (h2 s)
theorem mS.one {s}(h:dR x s.s.o s.q s.s.b s.s.σ s.lo)(h2:II x v ro s.s):mS x v ro [some s]:=λt ht=>by cases List.mem_singleton.1 ht;exact⟨h,h2⟩
theorem mS.no:mS x v ro [none]:=λt ht=>by cases List.mem_singleton.1 ht
theorem Vx.Pv {body Φ K k}{p pm p3 p4 p8 zx pe pd:Nat}{N κ:Int}{Ln:Nat}{z}(hx:x.ok)(hv:aF.sl v 4 (cX.dm l)∈ro)(hs:x.ex.ok l)(hl:L.length<=4096)(hC:x.r.ae<=4)(hY:YOk x ro N Ln L.length p pm p3 p4 p8 zx m bl rest (Uk p body))(hz:z.ok N Ln L.length κ)(hκ:0<=κ/\κ<=9000)
  (h:∀u w nS,w=rl x L (3*x.r.ae.toNat) 0 z->w.1.ok N Ln L.length nS->(0<=nS/\nS<=κ+12)->Vx EM (k u) K (Uk p body w.2::mA pm p3 p4 p8 zx m bl rest w.1 (BA w.2) (lJ d sd dv L w.1.a++R)) ro Φ):
  Vx EM (.call (.fn (.func 223) [] [.ptr pe 0,.ptr pd 0]) [.yd p] k) K (Uk p body false::mA pm p3 p4 p8 zx m bl rest z 0 (lJ d sd dv L z.a++(.obj pe (.row (x.cs++[v]))::.obj pd (.row [.ptr d 0])::R))) ro Φ:=
 λB W S H=>bW (ar (Pu hx hv hs hl hC hY hz hκ H) λr S' ⟨ab,⟨w,nS,h1,h2,h3,h4⟩,H'⟩=>by
  subst h4;exact h r w nS h1 h2 h3 B W S' H')
theorem K6 (hx:x.ok)(hC:x.r.ae<=4)(hv:aF.sl v 4 (cX.dm l)∈ro)(hs:x.ex.ok l)(ha:a<=L.length)(hl:L.length<=4096)(uF:aF.sl vo 1 (zj ls)∈ro)(Wu:ls.length<=8)(hD:mS x v ro ls)(hy:y.gd)(hN:y.n<=1000000000)(H:Cx B0 W S (gA ls++(ad m bl y rest++(lJ d sd dv L a++R))) ro):
  aG EM (zF 39) [.agg (x.cs++[v]),.ptr m 0,vo,.ptr d 0] S λu S'=>∃ab,(∃l' z e,tC x L ls y a l' z e/\mS x v ro l'/\u=.dh [.agg z.r.cs,I e]/\ab=gA l'++(ad m bl z.y rest++(lJ d sd dv L z.a++R)))/\Cx B0 W S' ab ro:=by
 obtain⟨ov,cv,bv⟩:=bx (H.eT hv).1;obtain⟨wk,zq,hb3,hb4,hb5,hb6,hb7⟩:=zk hx hC;simp only[Xc.cs,Tw.cs,Lb.cs,Ar.cs,Ep.cs,lA,lB];refine Vx.fm H rfl ?_
 (repeat' first|refine Zx.aX (v:=vo) ?_|refine Zx.aK (v:=vo) ?_|constructor|exact ZQ|intro _)
 all_goals apply zL
 refine Vx.spec (Ψ:=λu ab=>u=B true/\ab=_) (λB1 W1 S1 H=>ar (X.lG (e:=x.ex) hv H) λr S' h=>⟨_,⟨h.1.trans (congrArg B (decide_eq_true hs)),rfl⟩,H.grow h.2⟩) ?_;rintro _ _ ⟨rfl,rfl⟩
 (repeat' first|refine Zx.aX (v:=vo) ?_|refine Zx.aK (v:=vo) ?_|constructor|exact ZQ|intro _)
 all_goals apply zL
 refine Vx.E0 uF ?_;rw[uc]
 (repeat' first|refine Zx.aX (v:=vo) ?_|refine Zx.aK (v:=vo) ?_|constructor|exact ZQ|intro _)
 all_goals apply zL
 rename_i p1 pm p3 p4 p8;rw[show min (ls.length:Int) x.r.ae=((min ls.length x.r.ae.toNat:Nat):Int) by omega];refine Vx.Zt uF (by rw[uc];omega) λvc=>?_;rw[IK];have Zu:gA ls=gA (ls.take x.r.ae.toNat)++gA (ls.drop x.r.ae.toNat):=by rw[<-hX,List.take_append_drop]
 rw[Zu,@lC Own];have Qo:mS x v ro (ls.take x.r.ae.toNat):=λs hs=>hD s (List.mem_of_mem_take hs);have Uw:mS x v ro (ls.drop x.r.ae.toNat):=λs hs=>hD s (List.mem_of_mem_drop hs);have Jt:(ls.take x.r.ae.toNat).length<=8:=by rw[List.length_take];omega
 refine Zx.ok (n:=false) ?_
 (repeat' first|refine Zx.aX (v:=vc) ?_|refine Zx.aK (v:=vc) ?_|constructor|exact ZQ|intro _)
 all_goals apply zL
 refine Vx.E0 (List.Mem.head _) ?_;rw[uc]
 (repeat' first|refine Zx.aX (v:=vc) ?_|refine Zx.aK (v:=vc) ?_|constructor|exact ZQ|intro _)
 all_goals apply zL
 refine Vx.inv (α:=List (Option Sd)×List (Option Sd)×Me×gy) (P:=λz n=>n=z.2.1.length/\zA x (ls.take x.r.ae.toNat) y y.n y.ws.length L.length z.1.length z.1 z.2.1 z.2.2.1 z.2.2.2/\mS x v ro z.1/\mS x v ro z.2.1) (λz=>[I (z.1.length:Int)])
  (λz=>.obj p8 (.row [.fn (.func 118) [] [.ptr pm 0,.ptr p3 0]])::.obj p4 (.row [I 0])::.obj p3 (.row z.2.2.2.cs)::.obj pm (.row [.ptr m 0])::.obj p1 (.row (x.cs++[v]))::(gA z.1++(gA z.2.1++(gA (ls.drop x.r.ae.toNat)++(ad m bl z.2.2.1 rest++(lJ d sd dv L a++R)))))) ?_ (a0:=([],ls.take x.r.ae.toNat,y,⟨0,0,0,0,false⟩)) (n0:=(ls.take x.r.ae.toNat).length) ⟨rfl,zA.zero hy (Int.le_refl _),(λs hs=>by cases hs),Qo⟩
 rintro⟨dn,rm,y1,r⟩ n ⟨hn,hf,hd,hr⟩ ih;dsimp only at hn hf hd hr ih⊢;simp only[Xc.cs,Tw.cs,Lb.cs,Ar.cs,Ep.cs,gy.cs,lA,lB] at ih⊢;cases rm with
 |nil=>
  clear ih;have Fc:(ls.take x.r.ae.toNat).length<=dn.length:=List.drop_eq_nil_iff.1 hf.c;refine Zx.ok (n:=false) ?_
  (repeat' first|refine Zx.aX (v:=vc) ?_|refine Zx.aK (v:=vc) ?_|constructor|exact ZQ|intro _)
  all_goals apply zL
  refine Vx.tl ?_;obtain⟨ρ,JA⟩:∃ρ,ρ=2*x.r.ae*x.j.f.size+x.room+4:=⟨_,rfl⟩;have Zv:5<=ρ/\ρ<=532:=am;have rq:=hf.o;have Er:=rq.n;have Fk:=rq.s;have Zw:=rq.p;have QZ:=hf.d;have we:=hf.u;have hi:=hf.i;dsimp only at Er Fk Zw;have hdl:dn.length<=8:=by have:=congrArg List.length hf.q;rw[List.length_map,List.length_map,List.length_take] at this;omega
  have Ux:0<=y.n:=hy.1.2.2.1;refine Vx.aO (own:=.obj p8 (.row [.fn (.func 118) [] [.ptr pm 0,.ptr p3 0]])::.obj p4 (.row [I 0])::.obj p3 (.row r.cs)::.obj pm (.row [.ptr m 0])::.obj p1 (.row (x.cs++[v]))::(ad m bl y1 rest++(lJ d sd dv L a++(gA dn++(gA (ls.drop x.r.ae.toNat)++R))))) (by simp only[Xc.cs,Tw.cs,Lb.cs,Ar.cs,Ep.cs,gy.cs,lA,lB];exact HQ) ?_;have qn:∀{z:RS} {e κ:Int} {own:List Own},pC x L (3*x.r.ae.toNat) ρ.toNat ⟨y1,a,r,false⟩=(z,e)->z.ok y.n y.ws.length L.length κ->κ<=900000->Hs own (gA (dn++ls.drop x.r.ae.toNat)++(ad m bl z.y rest++(lJ d sd dv L z.a++R)))->gQ ro (λu ab=>∃l' z e,tC x L ls y a l' z e/\mS x v ro l'/\u=.dh [.agg z.r.cs,I e]/\ab=gA l'++(ad m bl z.y rest++(lJ d sd dv L z.a++R))) .ret [.agg z.r.cs,I e] own ro:=by intro z e κ own e1 hz hk hh;exact⟨rfl,rfl,_,⟨_,z,e,tC.rest hf (by rw[<-JA];exact e1) hz.g hz.l (by have:=hz.n;omega) hz.a,hd.app Uw,rfl,rfl⟩,hh⟩
  refine Vx.inv (α:=RS) (P:=λz n=>(n:Int)+z.r.rounds=ρ/\0<=z.r.rounds/\(∃κ,z.ok y.n y.ws.length L.length κ/\0<=κ/\κ<=8+12*z.r.rounds)/\pC x L (3*x.r.ae.toNat) n z=pC x L (3*x.r.ae.toNat) ρ.toNat ⟨y1,a,r,false⟩) (λ_=>[])
   (λz=>.obj p8 (.row [.fn (.func 118) [] [.ptr pm 0,.ptr p3 0]])::.obj p4 (.row [I 0])::.obj p3 (.row z.r.cs)::.obj pm (.row [.ptr m 0])::.obj p1 (.row (x.cs++[v]))::(ad m bl z.y rest++(lJ d sd dv L z.a++(gA dn++(gA (ls.drop x.r.ae.toNat)++R))))) ?_ (a0:=⟨y1,a,r,false⟩) (n0:=ρ.toNat)
   ⟨by dsimp only;omega,by dsimp only;omega,⟨dn.length,⟨rq.g,rq.l,by dsimp only;omega,by dsimp only;omega,by dsimp only;omega,ha⟩,am,by dsimp only;omega⟩,rfl⟩
  rintro⟨y2,a2,r2,b2⟩ n2 ⟨h1,h2,⟨κ,hz,h3,h4⟩,h5⟩ ih;dsimp only at h1 h2 h4 ih⊢;simp only[Xc.cs,Tw.cs,Lb.cs,Ar.cs,Ep.cs,gy.cs,lA,lB] at ih⊢;refine x1 ?_;refine Vx.spec (λB1 W1 S1 H=>K5 hx hC hv hs H) ?_;rintro _ _ ⟨rfl,rfl⟩;rw[<-JA];refine z2 ?_ ?_<;>intros
  .next du zx pe pd p=>
   refine Vx.aO (own:=.obj p (.loop .ready none 2 _)::.obj zx (.row [B false])::.obj p8 (.row [.fn (.func 118) [] [.ptr pm 0,.ptr p3 0]])::.obj p4 (.row [I 0])::.obj p3 (.row r2.up.cs)::.obj pm (.row [.ptr m 0])::(ad m bl y2 rest++(lJ d sd dv L a2++(.obj pe (.row _)::.obj pd (.row [.ptr d 0])::(.obj p1 (.row (x.cs++[v]))::(gA dn++(gA (ls.drop x.r.ae.toNat)++R))))))) (by simp only[Xc.cs,Tw.cs,Lb.cs,Ar.cs,Ep.cs,gy.cs,gy.up,lA,lB];exact HQ) ?_;refine Vx.Pv (z:=⟨y2,a2,r2.up,false⟩) (κ:=κ) hx hv hs hl hC ?_ ⟨hz.g,hz.l,hz.n,hz.s,hz.p,hz.a⟩ am ?_
   .intro B1 S1 W1 R1 o σ q lo z c E8 k1 k2 k3 ot Uy ho H1;have Qp:=ot.n;have Js:=ot.s;have V5:=ot.p;have qe:f_.ok x o ⟨σ,z.y,0⟩ (y.n+E8*1000000) y.ws.length:=⟨k2,k3,ot.g,Qp,ot.l⟩;refine Vx.ydf (m:=2) ?_ rfl (List.mem_append_right _ (List.Mem.head _)) H1;unfold Uk mA;refine x1 ?_;refine Vx.aO (own:=lo++(ad m bl z.y rest++(.obj pm (.row [.ptr m 0])::.obj p3 (.row z.r.cs)::(.obj p (.loop .busy none 2 _)::.obj zx (.row [B z.busy])::.obj p8 (.row [_])::.obj p4 (.row [I 0])::R1)))) HQ ?_;refine Vx.spec (λB1 W1 S1 H=>IE (s:=⟨σ,z.y,0⟩) hx k1 qe am am ho H) ?_;rintro _ _ ⟨k,s',l',e,rfl,h',aZ,rfl⟩;have hb:=iy (x:=x) (o:=o) (most:=100000) (n:=100000) (i:=0) (s:=⟨σ,z.y,0⟩);rw[<-e] at hb;dsimp only at hb;have zB:=IG ot e aZ;obtain⟨zy,za,zr,zb⟩:=z;dsimp only at e Qp Js V5;by_cases ru:s'.σ.err=14
    .have ey:sW x o σ ⟨zy,za,zr,zb⟩=(⟨s'.y,za,zr.plus k s',zb⟩,true):=by unfold sW;rw[<-e];exact if_pos ru
     rw[ey] at zB⊢;rw[show decide (s'.σ.err≠14)=false from decide_eq_false (λh=>h ru)];unfold BA;dsimp only;generalize ad m bl s'.y rest=MM;refine z1 ?_;exact⟨rfl,rfl,_,⟨rfl,zB,rfl⟩,HQ⟩
    .rw[show decide (s'.σ.err≠14)=true from decide_eq_true ru];cases zb with
     |true=>
      have ey:sW x o σ ⟨zy,za,zr,true⟩=(⟨s'.y,za,⟨zr.ended,zr.rounds,zr.ops+1,zr.steps+k,zr.iJ||decide (s'.σ.err=12)⟩,true⟩,false):=by unfold sW;rw[<-e];exact if_neg ru
      rw[ey] at zB⊢;unfold BA;simp only[gy.cs,gy.plus];generalize ad m bl s'.y rest=MM;refine z1 ?_;exact⟨rfl,rfl,_,⟨rfl,zB,rfl⟩,HQ⟩
     |false=>
      have ey:sW x o σ ⟨zy,za,zr,false⟩=(⟨s'.y,za,⟨zr.ended,zr.rounds,zr.ops+1,zr.steps+k,zr.iJ||decide (s'.σ.err=12)⟩,decide (s'.σ.err=0)⟩,false):=by unfold sW;rw[<-e];exact(if_neg ru).trans (by simp[gy.plus])
      rw[ey] at zB⊢;unfold BA;simp only[gy.cs,gy.plus];generalize ad m bl s'.y rest=MM
      (repeat' first|refine Zx.an 104 ?_|constructor|exact ZQ|intro _)
      all_goals apply zL
      refine Vx.spec (λB1 W1 S1 H=>y5 k1 h' H) ?_;rintro _ _ ⟨rfl,rfl⟩;refine z2 ?_ ?_<;>intros
      .next he=>rw[decide_eq_true he] at zB⊢;exact⟨rfl,rfl,_,⟨rfl,zB,rfl⟩,HQ⟩
      .next he=>rw[decide_eq_false he] at zB⊢;exact⟨rfl,rfl,_,⟨rfl,zB,rfl⟩,HQ⟩
   .rintro u ⟨z,bb⟩ E8 hw ot Uy;have hr:=DX (x:=x) (L:=L) (n:=3*x.r.ae.toNat) (k:=0) (z:=⟨y2,a2,r2.up,false⟩);rw[<-hw] at hr;obtain⟨n3,rfl⟩:∃k,n2=k+1:=⟨n2-1,am⟩;have h6:pC x L (3*x.r.ae.toNat) (n3+1) ⟨y2,a2,r2,b2⟩=if bb then(z,4) else if z.busy then pC x L (3*x.r.ae.toNat) n3 z else(z,0):=by show(if(rl x L (3*x.r.ae.toNat) 0 ⟨y2,a2,r2.up,false⟩).2 then _ else _)=_;rw[<-hw]
    obtain⟨y3,a3,r3,b3⟩:=z;unfold mA BA Uk;dsimp only at hr h6 ot⊢;simp only[gy.cs];cases bb with
    |true=>
     refine x1 ?_;rw[if_pos rfl] at h6;exact qn (z:=⟨y3,a3,r3,b3⟩) (h5.symm.trans h6) ot am (by rw[hX,@lC Own];dsimp only;generalize ad m bl _ rest=MM;generalize lJ d sd dv L _=DD;exact HQ)
    |false=>
     rw[if_neg ac] at h6;cases b3 with
     |true=>
      refine x1 ?_;rw[if_pos rfl] at h6;have h7:=ih ⟨y3,a3,r3,true⟩ n3 am ⟨by dsimp only;rw[hr.1];unfold gy.up;dsimp only;omega,by dsimp only;rw[hr.1];unfold gy.up;dsimp only;omega,⟨E8,ot,Uy.1,by dsimp only;rw[hr.1];unfold gy.up;dsimp only;omega⟩,h6.symm.trans h5⟩;dsimp only at h7;refine Vx.aO ?_ h7;generalize ad m bl _ rest=MM;generalize lJ d sd dv L _=DD;exact HQ
     |false=>refine x1 ?_;rw[if_neg ac] at h6;exact qn (z:=⟨y3,a3,r3,false⟩) (h5.symm.trans h6) ot am (by rw[hX,@lC Own];dsimp only;generalize ad m bl _ rest=MM;generalize lJ d sd dv L _=DD;exact HQ)
  .obtain rfl:n2=0:=am;exact qn (z:=⟨y2,a2,r2,b2⟩) h5.symm hz am (by rw[hX,@lC Own];exact HQ)
 |cons s rm=>
  obtain⟨g1,g2,g3⟩:=cutAt hf.c;have du:=(List.getElem?_eq_some_iff.1 g1).1;refine Zx.ok (n:=false) ?_
  (repeat' first|refine Zx.aX (v:=vc) ?_|refine Zx.aK (v:=vc) ?_|constructor|exact ZQ|intro _)
  all_goals apply zL
  refine Zx.ok (n:=false) (Zx.Ud (List.Mem.head _) am (IJ (by rw[Int.toNat_natCast];exact g1)) ?_);cases s with
  |none=>
   (repeat' first|refine Zx.aX (v:=vc) ?_|refine Zx.aK (v:=vc) ?_|constructor|exact ZQ|intro _)
   all_goals apply zL
   have h2:=ih (dn++[none],rm,y1,r) (n-1) (by rw[hn];simp) ⟨by rw[hn];rfl,by rw[List.length_append];exact hf.nil,hd.app mS.no,λs hs=>hr s (List.mem_cons_of_mem _ hs)⟩;dsimp only at h2;rw[Uu,List.length_append] at h2;exact h2
  |some s=>
   (repeat' first|refine Zx.aX (v:=vc) ?_|refine Zx.aK (v:=vc) ?_|constructor|exact ZQ|intro _)
   all_goals apply zL
   have Bp:=hr s (List.Mem.head _);have rq:=hf.o;have Er:=rq.n;have Fk:=rq.s;have QZ:=hf.d;dsimp only at Er Fk;have qe:f_.ok x s.s.o ⟨s.s.σ,y1,s.s.b⟩ (y.n+dn.length*1000000) y.ws.length:=⟨Bp.2.k,Bp.2.w,rq.g,Er,rq.l⟩;have Ux:0<=y.n:=hy.1.2.2.1;refine Vx.aO (own:=s.lo++(ad m bl y1 rest++(.obj pm (.row [.ptr m 0])::.obj p3 (.row r.cs)::(.obj p8 (.row _)::.obj p4 (.row [I 0])::.obj p1 (.row _)::(gA dn++(gA rm++(gA (ls.drop x.r.ae.toNat)++(lJ d sd dv L a++R)))))))) (by rw[ub];simp only[so,gy.cs,@lC Own];exact HQ) ?_;refine Vx.spec (λB1 W1 S1 H=>IE (s:=⟨s.s.σ,y1,s.s.b⟩) hx Bp.2.z qe am am Bp.1 H) ?_;rintro _ _ ⟨k,s',l',e,rfl,h',aZ,rfl⟩;have hb:=iy (x:=x) (o:=s.s.o) (most:=100000) (n:=100000) (i:=0) (s:=⟨s.s.σ,y1,s.s.b⟩);rw[<-e] at hb;dsimp only at hb;by_cases ru:s'.σ.err=14
   .rw[show decide (s'.σ.err≠14)=false from decide_eq_false (λh=>h ru)];refine .z (.of (Vx.tl ?_));simp only[gy.cs,gy.plus];refine x1 ?_;refine⟨rfl,rfl,_,⟨_,_,_,tC.K4 (lo:=l') ha am hf e aZ ru,hd.app (λt ht=>?_),rfl,rfl⟩,?_⟩
    .rcases List.mem_cons.1 ht with ht|ht
     .cases ht;exact⟨h',aZ.k,aZ.w,Bp.2.z,Bp.2.t⟩
     .rcases List.mem_append.1 ht with ht|ht;.exact hr t (List.mem_cons_of_mem _ ht)
      .exact Uw t ht
    .dsimp only[gy.plus];rw[hX,ub,hX];simp only[so,@lC Own];exact HQ
   .rw[show decide (s'.σ.err≠14)=true from decide_eq_true ru];have h2:=ih (dn++[some ⟨⟨s.s.o,s'.σ,s'.b⟩,s.q,s.h,l'⟩],rm,s'.y,(r.plus k s').en) (n-1) (by rw[hn];simp) ⟨by rw[hn];rfl,by rw[List.length_append];exact hf.cons e aZ ru,hd.app (mS.one h' ⟨aZ.k,aZ.w,Bp.2.z,Bp.2.t⟩),λs hs=>hr s (List.mem_cons_of_mem _ hs)⟩;dsimp only at h2;rw[Uv,List.length_append,@lC Own] at h2;simp only[gy.cs,gy.plus];refine z1 ?_;exact Vx.aO HQ h2
end
end Go.cI
