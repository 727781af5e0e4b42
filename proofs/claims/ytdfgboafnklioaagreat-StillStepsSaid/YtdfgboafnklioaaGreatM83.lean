/- Contracts. Conditions: in each theorem. -/
import Derived.Test.YtdfgboafnklioaaGreatM81
import Derived.Test.YtdfgboafnklioaaGreatM82
set_option linter.all false
set_option maxRecDepth 100000
set_option maxHeartbeats 4000000
namespace Go.cI
open Go.Proofs
section
variable{M:dS}{own:List Own}{ro:List aF}{Φ:ma}{K:List Kf}
theorem Zx.Zy {a b:Int}{k}(e:0<=a/\0<b/\a<9223372036854775808)(h:Zx M false (k (I (a/b))) K own ro Φ):Zx M false (.op (.bin .quo (I a) (I b)) k) K own ro Φ:=.z (.of λB W S H=>GJ (c:=a/b) am (by
 rw[Int.tdiv_eq_ediv_of_nonneg e.1];have h1:0<=a/b:=Int.ediv_nonneg e.1 am;have h2:a/b<=a:=Int.ediv_le_self b e.1;exact wrap64 am am) (h.ok B W S H))
theorem Zx.ZA {v w}{i:Int}{L}{g:Bool}{k}(hv:aF.sl v 1 L∈ro)(hi:0<=i)(hc:L[i.toNat]?=some [w])(h:Zx M false (k w) K own ro Φ):Zx M false (.op (.dp 1 v (I i)) λp=>.rp (B g) g (.load 1 false p) k) K own ro Φ:=
 .z (.of (Vx.Nj hv hi hc λid off=>λB W S H=>cC (u_ H (List.Mem.head _) rfl (h.ok B W S H.tl))))
end
section
variable{B0 S:AH}{W:List Nat}{R:List Own}{ro:List aF}{m d a:Nat}{x:Xc}{v vm dv vo:AV}{l:List cX.Tk}{L:List Int}{y:Me}{N:Int}{ls:List (Option Sd)}
theorem Uz {k:Nat}:([[I 4],[I 2],[I 3]]:List (List AV))[((k:Int)%3).toNat]?=some [I (kd k)]:=by
 rw[show((k:Int)%3).toNat=k%3 by omega];unfold kd;rcases(show k%3=0\/k%3=1\/k%3=2 by omega) with h|h|h<;>rw[h]<;>rfl
section
variable{kv c3 c2 c1:Own}{mm dr sa sb lo R:List Own}
theorem dpA:Hs (kv::c3::c2::c1::(mm++(dr++(sa++(sb++R))))) (dr++(kv::c3::c2::c1::(mm++(sa++(sb++R))))):=HQ
theorem dpB:Hs (lo++(dr++(kv::c3::c2::c1::(mm++(sa++(sb++R)))))) (lo++(mm++(kv::c3::c2::c1::(dr++(sa++(sb++R)))))):=HQ
theorem Pw:Hs (lo++(mm++(kv::c3::c2::c1::(dr++(sa++(sb++R)))))) (kv::c3::c2::c1::(mm++(dr++(sa++(sb++R))))):=HQ
theorem dpD:Hs (lo++(mm++(kv::c3::c2::c1::(dr++(sa++(sb++R)))))) (sa++(sb++(mm++(dr++R)))):=HQ
theorem dpE:Hs (kv::c3::c2::c1::(mm++(dr++(sa++(sb++R))))) (sa++(sb++(mm++(dr++R)))):=HQ
theorem dpF:Hs (kv::c3::c2::c1::(sa++([]++(sb++(mm++(dr++R)))))) (kv::c3::c2::c1::(mm++(dr++(sa++(sb++R))))):=HQ
end
theorem ZB (hx:x.ok)(hv:aF.sl v 4 (cX.dm l)∈ro)(hs:x.ex.ok l)(ha:a<=L.length)(hl:L.length<=4096){k:Nat}(H:Cx B0 W S (pJ d dv L a++R) ro):
  aG EM (zF 121) [.agg (x.cs++[v]),I (kd k),I ((k:Int)/3),.ptr d 0] S λu S'=>∃ab,(∃q lo,u=.ptr q 0/\bH x (jG x L k a).o v (jG x L k a).h q 0 (jG x L k a).σ lo/\ab=lo++(pJ d dv L (jG x L k a).a++R))/\Cx B0 W S' ab ro:=by
 have e3:(k:Int)/3=((k/3:Nat):Int):=am;rw[e3];rcases(show k=3*(k/3)\/k=3*(k/3)+1\/k=3*(k/3)+2 by omega) with h|h|h
 .rw[Uh h,show kd k=4 from by unfold kd;rw[show k%3=0 by omega];rfl];exact Zn hx hv hs ha hl H
 .rw[Ui h,show kd k=2 from by unfold kd;rw[show k%3=1 by omega];rfl];exact Zo hx hv hs ha hl H
 .rw[Uj h,show kd k=3 from by unfold kd;rw[show k%3=2 by omega];rfl];exact Zp hx hv hs H
theorem K7 (hx:x.ok)(hC:x.r.ae<=4)(hv:aF.sl v 4 (cX.dm l)∈ro)(hs:x.ex.ok l)(H:Cx B0 W S R ro):
  aG EM (zF 120) [.agg (x.cs++[v])] S λu S'=>∃ab,(u=I (2*x.r.ae*x.j.f.size+x.room+4)/\ab=R)/\Cx B0 W S' ab ro:=by
 obtain⟨ov,cv,bv⟩:=bx (H.eT hv).1;have hb:=zk hx hC;rw[<-hb.2.1];simp only[Xc.cs,Tw.cs,Lb.cs,Ar.cs,Ep.cs,lA,lB];refine y1 H rfl ?_;intros;refine Vx.spec (Ψ:=λu ab=>u=B true/\ab=_) (λB1 W1 S1 H=>ar (X.eC (e:=x.ex) hv H) λr S' h=>⟨_,⟨h.1.trans (congrArg B (decide_eq_true hs)),rfl⟩,H.grow h.2⟩) ?_;rintro _ _ ⟨rfl,rfl⟩;refine z1 ?_;exact⟨rfl,rfl,_,⟨rfl,rfl⟩,HQ⟩
theorem K8 (hx:x.ok)(hC:x.r.ae<=4)(hv:aF.sl v 4 (cX.dm l)∈ro)(hs:x.ex.ok l)(ha:a<=L.length)(hl:L.length<=4096)(uF:aF.sl vo 1 (zj ls)∈ro)(Wu:ls.length<=8)(hD:Bo x v ro ls)(hy:y.gd)(hN:y.n<=1000000000)(H:Cx B0 W S (gA ls++(ai m vm y++(pJ d dv L a++R))) ro):
  aG EM (zF 40) [.agg (x.cs++[v]),.ptr m 0,vo,.ptr d 0] S λu S'=>∃ab,(∃l' z e,tC x L ls y a l' z e/\Bo x v ro l'/\u=.dh [.agg z.r.cs,I e]/\ab=gA l'++(ai m vm z.y++(pJ d dv L z.a++R)))/\Cx B0 W S' ab ro:=by
 obtain⟨ov,cv,bv⟩:=bx (H.eT hv).1;obtain⟨wk,zq,hb3,hb4,hb5,hb6,hb7⟩:=zk hx hC;simp only[Xc.cs,Tw.cs,Lb.cs,Ar.cs,Ep.cs,pJ,lA,lB] at H⊢;refine Vx.fm H rfl ?_
 (repeat' first|refine Zx.aX (v:=vo) ?_|refine Zx.aK (v:=vo) ?_|constructor|exact ZQ|intro _)
 all_goals apply zL
 refine Vx.spec (Ψ:=λu ab=>u=B true/\ab=_) (λB1 W1 S1 H=>ar (X.eC (e:=x.ex) hv H) λr S' h=>⟨_,⟨h.1.trans (congrArg B (decide_eq_true hs)),rfl⟩,H.grow h.2⟩) ?_;rintro _ _ ⟨rfl,rfl⟩
 (repeat' first|refine Zx.aX (v:=vo) ?_|refine Zx.aK (v:=vo) ?_|constructor|exact ZQ|intro _)
 all_goals apply zL
 rename_i p1 p2 p3;have Zu:gA ls=gA (ls.take x.r.ae.toNat)++gA (ls.drop x.r.ae.toNat):=by rw[<-hX,List.take_append_drop]
 rw[Zu,@lC Own];have Qo:Bo x v ro (ls.take x.r.ae.toNat):=λs hs=>hD s (List.mem_of_mem_take hs);have Uw:Bo x v ro (ls.drop x.r.ae.toNat):=λs hs=>hD s (List.mem_of_mem_drop hs);have du:(ls.take x.r.ae.toNat).length=min x.r.ae.toNat ls.length:=List.length_take;refine Vx.inv (α:=List (Option Sd)×List (Option Sd)×Me×gy) (P:=λz n=>n=z.2.1.length/\zA x (ls.take x.r.ae.toNat) y y.n y.ws.length L.length z.1.length z.1 z.2.1 z.2.2.1 z.2.2.2/\Bo x v ro z.1/\Bo x v ro z.2.1) (λz=>[I (z.1.length:Int),I 0])
  (λz=>.obj p3 (.row z.2.2.2.cs)::.obj p2 (.row [I 0,I 0,I 0,I 0,B false])::.obj p1 (.row (x.cs++[v]))::(gA z.1++(gA z.2.1++(gA (ls.drop x.r.ae.toNat)++(ai m vm z.2.2.1++(pJ d dv L a++R)))))) ?_ (a0:=([],ls.take x.r.ae.toNat,y,⟨0,0,0,0,false⟩)) (n0:=(ls.take x.r.ae.toNat).length) ⟨rfl,zA.zero hy (Int.le_refl _),(λs hs=>by cases hs),Qo⟩
 rintro⟨dn,rm,y1,r⟩ n ⟨hn,hf,hd,hr⟩ ih;dsimp only at hn hf hd hr ih⊢;simp only[Xc.cs,Tw.cs,Lb.cs,Ar.cs,Ep.cs,gy.cs,lA,lB] at ih⊢;refine Vx.E0 uF ?_;rw[uc];cases rm with
 |nil=>
  clear ih;have Fc:(ls.take x.r.ae.toNat).length<=dn.length:=List.drop_eq_nil_iff.1 hf.c
  (repeat' first|refine Zx.aX (v:=vo) ?_|refine Zx.aK (v:=vo) ?_|constructor|exact ZQ|intro _)
  all_goals apply zL
  all_goals(
   rename_i pk;refine Vx.Pp (n:=3) (es:=1) (L:=[[I 4],[I 2],[I 3]]) rfl rfl ac ?_;generalize Qk:AV.sl pk 0 3 3=kv;obtain⟨ρ,JA⟩:∃ρ,ρ=2*x.r.ae*x.j.f.size+x.room+4:=⟨_,rfl⟩;have Zv:5<=ρ/\ρ<=532:=am;have rq:=hf.o;have Er:=rq.n;have Fk:=rq.s;have Zw:=rq.p;have QZ:=hf.d;have we:=hf.u;dsimp only at Er Fk Zw;have hdl:dn.length<=8:=by have:=congrArg List.length hf.q;rw[List.length_map,List.length_map,List.length_take] at this;omega
   have Ux:0<=y.n:=hy.1.2.2.1;have qn:∀{z:RS} {e κ:Int} {own:List Own},pC x L (3*x.r.ae.toNat) ρ.toNat ⟨y1,a,r,false⟩=(z,e)->z.ok y.n y.ws.length L.length κ->κ<=900000->Hs own (gA dn++(gA (ls.drop x.r.ae.toNat)++(ai m vm z.y++(pJ d dv L z.a++R))))->gQ ro (λu ab=>∃l' z e,tC x L ls y a l' z e/\Bo x v ro l'/\u=.dh [.agg z.r.cs,I e]/\ab=gA l'++(ai m vm z.y++(pJ d dv L z.a++R))) .ret [.agg z.r.cs,I e] own ro:=by intro z e κ own e1 hz hk hh;exact⟨rfl,rfl,_,⟨_,z,e,tC.rest hf (by rw[<-JA];exact e1) hz.g hz.l (by have:=hz.n;omega) hz.a,λs hs=>(List.mem_append.1 hs).elim (hd s) (Uw s),rfl,rfl⟩,by rw[hX,@lC Own];exact hh⟩
   refine Vx.aO dpF ?_;refine Vx.inv (α:=RS×Bool×AV) (P:=λz n=>0<=z.1.r.rounds/\(∃κ,z.1.ok y.n y.ws.length L.length κ/\0<=κ/\κ<=8+12*z.1.r.rounds)/\z.1.r.rounds<=ρ/\(if z.2.1 then(n:Int)+z.1.r.rounds=ρ/\pC x L (3*x.r.ae.toNat) n z.1=pC x L (3*x.r.ae.toNat) ρ.toNat ⟨y1,a,r,false⟩ else pC x L (3*x.r.ae.toNat) ρ.toNat ⟨y1,a,r,false⟩=(z.1,0)))
    (λz=>[z.2.2,B z.2.1,I 0]) (λz=>.sl kv 1 [[I 4],[I 2],[I 3]]::.obj p3 (.row z.1.r.cs)::.obj p2 (.row [I 0,I 0,I 0,I 0,B false])::.obj p1 (.row (x.cs++[v]))::(ai m vm z.1.y++(pJ d dv L z.1.a++(gA dn++(gA (ls.drop x.r.ae.toNat)++R))))) ?_ (a0:=(⟨y1,a,r,false⟩,true,.no)) (n0:=ρ.toNat)
    ⟨by dsimp only;omega,⟨dn.length,⟨rq.g,rq.l,by dsimp only;omega,by dsimp only;omega,by dsimp only;omega,ha⟩,am,by dsimp only;omega⟩,by dsimp only;omega,by dsimp only;rw[if_pos rfl];exact⟨am,rfl⟩⟩
   rintro⟨⟨y2,a2,r2,b2⟩,bz,av⟩ n2 ⟨h2,⟨κ,hz,h3,h4⟩,h1,h5⟩ ih;dsimp only at h1 h2 h4 h5 ih⊢;simp only[Xc.cs,Tw.cs,Lb.cs,Ar.cs,Ep.cs,gy.cs,lA,lB] at ih⊢;cases bz with
   |false=>
    rw[if_neg ac] at h5;refine x1 ?_;exact qn (z:=⟨y2,a2,r2,b2⟩) h5 hz am dpE
   |true=>
    rw[if_pos rfl] at h5;obtain⟨h5,h6⟩:=h5;refine x1 ?_;refine Vx.spec (λB1 W1 S1 H=>K7 hx hC hv hs H) ?_;rintro _ _ ⟨rfl,rfl⟩;rw[<-JA];refine z2 ?_ ?_<;>intros
    .next heq=>obtain rfl:n2=0:=am;exact qn (z:=⟨y2,a2,r2,b2⟩) h6.symm hz am dpE
    refine Vx.inv (α:=Nat×RS) (P:=λc n=>n+c.1=3*x.r.ae.toNat/\rl x L (3*x.r.ae.toNat) 0 ⟨y2,a2,r2.up,false⟩=rl x L n c.1 c.2/\∃nS:Int,c.2.ok y.n y.ws.length L.length nS/\0<=nS/\nS<=κ+c.1) (λc=>[I (c.1:Int),B c.2.busy,I 0])
     (λc=>.sl kv 1 [[I 4],[I 2],[I 3]]::.obj p3 (.row c.2.r.cs)::.obj p2 (.row [I 0,I 0,I 0,I 0,B false])::.obj p1 (.row (x.cs++[v]))::(ai m vm c.2.y++(pJ d dv L c.2.a++(gA dn++(gA (ls.drop x.r.ae.toNat)++R))))) ?_ (a0:=(0,⟨y2,a2,r2.up,false⟩)) (n0:=3*x.r.ae.toNat)
     ⟨by dsimp only;omega,rfl,κ,⟨hz.g,hz.l,hz.n,hz.s,hz.p,hz.a⟩,h3,by dsimp only;omega⟩
    rintro⟨k,z⟩ n3 ⟨hn3,UA,E8,ot,h7,h8⟩ ZC;dsimp only at hn3 UA ot h8 ZC⊢;simp only[Xc.cs,Tw.cs,Lb.cs,Ar.cs,Ep.cs,lA,lB] at ZC⊢;refine Zx.ok (n:=false) ?_
    (repeat' first|refine Zx.aX (v:=kv) ?_|refine Zx.aK (v:=kv) ?_|constructor|exact ZQ|intro _)
    all_goals apply zL
    .next JN=>
     refine Zx.ok (n:=false) (Zx.Zj (L:=[[I 4],[I 2],[I 3]]) (w:=I (kd k)) ac am Uz ?_);refine z1 ?_;refine Zx.ok (n:=false) (Zx.Zy am ?_);refine z1 ?_;refine Vx.aO dpA ?_;refine Vx.spec (λB1 W1 S1 H=>ZB (k:=k) hx hv hs ot.a hl H) ?_;rintro _ _ ⟨q,lo,rfl,ho,rfl⟩;refine z1 ?_;refine Vx.aO dpB ?_;have hk:=zf (x:=x) (L:=L) (k:=k) (a:=z.a);have Qp:=ot.n;have Js:=ot.s;have V5:=ot.p;have qe:f_.ok x (jG x L k z.a).o ⟨(jG x L k z.a).σ,z.y,0⟩ (y.n+E8*1000000) y.ws.length:=⟨hk.1,hk.2.1,ot.g,Qp,ot.l⟩;refine Vx.spec (λB1 W1 S1 H=>Is (s:=⟨(jG x L k z.a).σ,z.y,0⟩) hx (λ_ h=>absurd h hk.2.2.2) qe am am ho H) ?_;rintro _ _ ⟨n4,s',l',e,rfl,h',aZ,rfl⟩;have e:(n4,s')=f_.alone x (jG x L k z.a).o 100000 100000 0 ⟨(jG x L k z.a).σ,z.y,0⟩:=e;have hb:=iy (x:=x) (o:=(jG x L k z.a).o) (most:=100000) (n:=100000) (i:=0) (s:=⟨(jG x L k z.a).σ,z.y,0⟩);rw[<-e] at hb;dsimp only at hb;have zB:=IG (z:=⟨z.y,(jG x L k z.a).a,z.r,z.busy⟩) (x:=x) ⟨ot.g,ot.l,Qp,Js,V5,Ug ot.a⟩ e aZ;obtain⟨n5,rfl⟩:∃j,n3=j+1:=⟨n3-1,am⟩;have oS:iz x L k z=sW x (jG x L k z.a).o (jG x L k z.a).σ ⟨z.y,(jG x L k z.a).a,z.r,z.busy⟩:=rfl;have V6:=DX (x:=x) (L:=L) (n:=3*x.r.ae.toNat) (k:=0) (z:=⟨y2,a2,r2.up,false⟩);have PS:∀{zr:gy},zr.cs=[I zr.ended,I zr.rounds,I zr.ops,I zr.steps,B zr.iJ]:=rfl;generalize(jG x L k z.a).a=za at zB oS⊢;generalize(jG x L k z.a).o=o at hk qe e zB oS h' aZ;generalize(jG x L k z.a).σ=σ at hk qe e zB oS aZ;obtain⟨zy,za0,⟨r0,r1,r3,r4,r5⟩,zb⟩:=z;dsimp only at e Qp Js V5 zB oS UA⊢;rw[PS];dsimp only;generalize hM:ai m vm s'.y=MM;by_cases ru:s'.σ.err=14
     .have ey:sW x o σ ⟨zy,za,⟨r0,r1,r3,r4,r5⟩,zb⟩=(⟨s'.y,za,⟨r0,r1,r3,r4+n4,r5⟩,zb⟩,true):=by unfold sW;rw[<-e];refine(if_pos ru).trans ?_;unfold gy.plus;dsimp only;rw[ru,show decide ((14:Int)=12)=false from rfl,Bool.or_false]
      rw[ey] at zB oS;rw[show decide (s'.σ.err≠14)=false from decide_eq_false (λh=>h ru)];refine z1 ?_;subst hM;have I8:rl x L (3*x.r.ae.toNat) 0 ⟨y2,a2,r2.up,false⟩=(⟨s'.y,za,⟨r0,r1,r3,r4+n4,r5⟩,zb⟩,true):=(UA.trans (zi (by rw[oS]))).trans oS;obtain⟨n6,rfl⟩:∃j,n2=j+1:=⟨n2-1,am⟩;have h9:pC x L (3*x.r.ae.toNat) (n6+1) ⟨y2,a2,r2,b2⟩=(⟨s'.y,za,⟨r0,r1,r3,r4+n4,r5⟩,zb⟩,4):=by show(if(rl x L (3*x.r.ae.toNat) 0 ⟨y2,a2,r2.up,false⟩).2 then _ else _)=_;rw[I8];rfl
      exact qn (z:=⟨s'.y,za,⟨r0,r1,r3,r4+n4,r5⟩,zb⟩) (h6.symm.trans h9) zB am dpD
     .have ey:sW x o σ ⟨zy,za,⟨r0,r1,r3,r4,r5⟩,zb⟩=(⟨s'.y,za,⟨r0,r1,r3+1,r4+n4,r5||decide (s'.σ.err=12)⟩,zb||decide (s'.σ.err=0)⟩,false):=by unfold sW;rw[<-e];exact if_neg ru
      rw[ey] at zB oS;rw[show decide (s'.σ.err≠14)=true from decide_eq_true ru];have BB:=ZC (k+1,⟨s'.y,za,⟨r0,r1,r3+1,r4+n4,r5||decide (s'.σ.err=12)⟩,zb||decide (s'.σ.err=0)⟩) n5 am ⟨by dsimp only;omega,(UA.trans (zh (by rw[oS]))).trans (by rw[oS]),E8+1,zB,am,by dsimp only;omega⟩;dsimp only at BB;rw[PS,hM] at BB;dsimp only at BB;cases r5<;>cases zb
      all_goals((repeat' first|refine Zx.an 47 ?_|constructor|exact ZQ|intro _);all_goals apply zL)
      all_goals try(refine Vx.spec (λB1 W1 S1 H=>rj h' H) ?_;rintro _ _ ⟨rfl,rfl⟩;(repeat' first|refine Zx.an 47 ?_|constructor|exact ZQ|intro _);all_goals apply zL)
      all_goals try(refine Vx.spec (λB1 W1 S1 H=>rj h' H) ?_;rintro _ _ ⟨rfl,rfl⟩;(repeat' first|constructor|exact ZQ|intro _);all_goals apply zL)
      all_goals first
       |exact Vx.aO Pw BB
       |(rename_i he;rw[decide_eq_true he] at BB;exact Vx.aO Pw BB)
       |(rename_i he;rw[decide_eq_false he] at BB;exact Vx.aO Pw BB)
       |(rename_i Px Py;rw[decide_eq_true Px,decide_eq_true Py] at BB;exact Vx.aO Pw BB)
       |(rename_i Px Py;rw[decide_eq_true Px,decide_eq_false Py] at BB;exact Vx.aO Pw BB)
       |(rename_i Px Py;rw[decide_eq_false Px,decide_eq_true Py] at BB;exact Vx.aO Pw BB)
       |(rename_i Px Py;rw[decide_eq_false Px,decide_eq_false Py] at BB;exact Vx.aO Pw BB)
    .next JN=>
     obtain rfl:n3=0:=am;obtain⟨n6,rfl⟩:∃j,n2=j+1:=⟨n2-1,am⟩;have I8:rl x L (3*x.r.ae.toNat) 0 ⟨y2,a2,r2.up,false⟩=(z,false):=UA;have h9:pC x L (3*x.r.ae.toNat) (n6+1) ⟨y2,a2,r2,b2⟩=if z.busy then pC x L (3*x.r.ae.toNat) n6 z else(z,0):=by show(if(rl x L (3*x.r.ae.toNat) 0 ⟨y2,a2,r2.up,false⟩).2 then _ else _)=_;rw[I8];rfl
     have V6:=DX (x:=x) (L:=L) (n:=3*x.r.ae.toNat) (k:=0) (z:=⟨y2,a2,r2.up,false⟩);rw[I8] at V6;unfold gy.up at V6;dsimp only at V6;refine ih (z,z.busy,I (k:Int)) n6 am ⟨by dsimp only;omega,⟨E8,ot,h7,by dsimp only;omega⟩,by dsimp only;omega,?_⟩;dsimp only;cases hzb:z.busy with
     |true=>
      rw[if_pos rfl];rw[hzb,if_pos rfl] at h9;exact⟨am,h9.symm.trans h6⟩
     |false=>
      rw[if_neg ac];rw[hzb,if_neg ac] at h9;exact h6.symm.trans h9)
 |cons s rm=>
  obtain⟨g1,g2,g3⟩:=cutAt hf.c;have acq:=(List.getElem?_eq_some_iff.1 g1).1;have g4:(zj ls)[(dn.length:Int).toNat]?=some [pv s]:=IJ (by
   rw[Int.toNat_natCast];rw[List.getElem?_take,if_pos am] at g1;exact g1)
  (repeat' first|refine Zx.aX (v:=vo) ?_|refine Zx.aK (v:=vo) ?_|constructor|exact ZQ|intro _)
  all_goals apply zL
  refine Zx.ok (n:=false) (Zx.Ud uF am g4 ?_);cases s with
  |none=>
   (repeat' first|refine Zx.aX (v:=vo) ?_|refine Zx.aK (v:=vo) ?_|constructor|exact ZQ|intro _)
   all_goals apply zL
   have h2:=ih (dn++[none],rm,y1,r) (n-1) (by rw[hn];simp) ⟨by rw[hn];rfl,by rw[List.length_append];exact hf.nil,λs hs=>(List.mem_append.1 hs).elim (hd s) (λh=>by cases List.mem_singleton.1 h),λs hs=>hr s (List.mem_cons_of_mem _ hs)⟩;dsimp only at h2;rw[Uu,List.length_append] at h2;exact h2
  |some s=>
   (repeat' first|refine Zx.aX (v:=vo) ?_|refine Zx.aK (v:=vo) ?_|constructor|exact ZQ|intro _)
   all_goals apply zL
   refine Zx.ok (n:=false) (Zx.Ud uF am g4 ?_)
   (repeat' first|refine Zx.aX (v:=vo) ?_|refine Zx.aK (v:=vo) ?_|constructor|exact ZQ|intro _)
   all_goals apply zL
   have Bp:=hr s (List.Mem.head _);have rq:=hf.o;have Er:=rq.n;have Fk:=rq.s;have QZ:=hf.d;dsimp only at Er Fk;have qe:f_.ok x s.s.o ⟨s.s.σ,y1,s.s.b⟩ (y.n+dn.length*1000000) y.ws.length:=⟨Bp.2.k,Bp.2.w,rq.g,Er,rq.l⟩;have Ux:0<=y.n:=hy.1.2.2.1;refine Vx.aO (own:=s.lo++(ai m vm y1++(.obj p3 (.row r.cs)::.obj p2 (.row [_,_,_,_,_])::.obj p1 (.row _)::(gA dn++(gA rm++(gA (ls.drop x.r.ae.toNat)++(pJ d dv L a++R))))))) (by rw[ub];simp only[so,gy.cs,@lC Own];exact HQ) ?_;refine Vx.spec (λB1 W1 S1 H=>Is (s:=⟨s.s.σ,y1,s.s.b⟩) hx Bp.2.t qe am am Bp.1 H) ?_;rintro _ _ ⟨k,s',l',e,rfl,h',aZ,rfl⟩;have hb:=iy (x:=x) (o:=s.s.o) (most:=100000) (n:=100000) (i:=0) (s:=⟨s.s.σ,y1,s.s.b⟩);have e:(k,s')=f_.alone x s.s.o 100000 100000 0 ⟨s.s.σ,y1,s.s.b⟩:=e;rw[<-e] at hb;dsimp only at hb;generalize hM:ai m vm s'.y=MM;simp only[gy.cs];by_cases ru:s'.σ.err=14
   .rw[show decide (s'.σ.err≠14)=false from decide_eq_false (λh=>h ru)];refine z1 ?_;subst hM;refine⟨rfl,rfl,_,⟨_,_,_,tC.K4 (lo:=l') ha am hf e aZ ru,λt ht=>?_,by
     unfold gy.plus;dsimp only;rw[ru,show decide ((14:Int)=12)=false from rfl,Bool.or_false];rfl,rfl⟩,?_⟩
    .rcases List.mem_append.1 ht with ht|ht;.exact hd t ht
     rcases List.mem_cons.1 ht with ht|ht
     .cases ht;exact⟨h',aZ.k,aZ.w,Bp.2.z,Bp.2.t⟩
     .rcases List.mem_append.1 ht with ht|ht;.exact hr t (List.mem_cons_of_mem _ ht)
      .exact Uw t ht
    .dsimp only[gy.plus];rw[hX,ub,hX];simp only[so,@lC Own];generalize ai m vm s'.y=MM;exact HQ
   .rw[show decide (s'.σ.err≠14)=true from decide_eq_true ru];have h2:=ih (dn++[some ⟨⟨s.s.o,s'.σ,s'.b⟩,s.q,s.h,l'⟩],rm,s'.y,(r.plus k s').en) (n-1) (by rw[hn];simp) ⟨by rw[hn];rfl,by rw[List.length_append];exact hf.cons e aZ ru,λt ht=>(List.mem_append.1 ht).elim (hd t) (λh=>by
     cases List.mem_singleton.1 h;exact⟨h',aZ.k,aZ.w,Bp.2.z,Bp.2.t⟩),λs hs=>hr s (List.mem_cons_of_mem _ hs)⟩
    dsimp only at h2;rw[Uv,List.length_append,@lC Own,hM] at h2;obtain⟨r0,r1,r2,r3,r4⟩:=r;simp only[gy.plus,gy.en] at h2;cases r4 with
    |true=>
     refine z1 ?_;exact Vx.aO HQ h2
    |false=>
     (repeat' first|refine Zx.aX (v:=vo) ?_|refine Zx.aK (v:=vo) ?_|constructor|exact ZQ|intro _)
     all_goals apply zL
     refine Zx.ok (n:=false) (Zx.ZA uF am g4 ?_)
     (repeat' first|refine Zx.an 47 ?_|constructor|exact ZQ|intro _)
     all_goals apply zL
     refine Vx.spec (λB1 W1 S1 H=>rj (q:=s.q) h' H) ?_;rintro _ _ ⟨rfl,rfl⟩;refine z2 ?_ ?_<;>intros
     .next he=>rw[decide_eq_true he] at h2;exact Vx.aO HQ h2
     .next he=>rw[decide_eq_false he] at h2;exact Vx.aO HQ h2
end
end Go.cI
