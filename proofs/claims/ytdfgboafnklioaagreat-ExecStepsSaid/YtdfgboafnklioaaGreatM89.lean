/- Contracts. Conditions: in each theorem. -/
import Derived.Test.YtdfgboafnklioaaGreatM88
import Derived.Test.YtdfgboafnklioaaGreatM83
set_option linter.all false
set_option maxRecDepth 100000
set_option maxHeartbeats 4000000
noncomputable section
namespace Go.cG
open Go.Proofs
theorem CU {N:Int}{p q:Prop}[Decidable p][Decidable q](h:¬(N<1\/4096<N)->(p↔q)):eC N p=eC N q:=by
 by_cases hr:N<1\/4096<N;.rw[bY hr,bY hr]
 .by_cases hp:p;.rw[bG hr hp,bG hr ((h hr).1 hp)]
  .rw[bC hr hp,bC hr λg=>hp ((h hr).2 g)]
theorem P4 {e:X.Ex}{l:List dA.Tk}{N:Int}(hN:N<=4096)(hg:Az e.t.an=e.t.an/\-9223372036854775808<=e.t.an)(h:I_ e l N):(Xc.of e).ok:=by
 have hz:=Jk hN hg h;have hb:=zB.of hz.ok;have hk:=hz.ok;obtain⟨⟨a1,a2,a3,a4,a5,a6,a7,a8⟩,_,b1,b2,b3,b4,b5,b6,b7,b8,b9,UI,c1,c2,c3,c4,c5,c6,c7,c8,c9,dS⟩:=hk;have s1:=hz.st;have s2:=hz.ep;have s3:=hz.x7 (x:=e.t.an) (n:=e.t.aH) hb.1.1 (λa=>by unfold lP;omega);have s4:=hz.x7 (x:=e.t.aF) (n:=1) am (λa=>by unfold lP;omega);have s5:=hz.x7 (x:=e.t.aL) (n:=3) am (λa=>by unfold lP;omega);have s6:=hz.fJ;have h5:=hb.5;unfold sA at s1;unfold zk at s2;unfold X.dF at*
 unfold Xc.ok Tw.ok Lb.ok Ar.ok Sk.ok Ep.ok Jb.ok Sk.ok Rs.ok Xc.of;dsimp only;omega
theorem Z1 {α:Type}{M:cP}{ro:List aI}{Φ:gz}{m:AC}{own:List Own}{id:Option Nat}{k:List AV->AC}{outs:List AV->List AV}{K:List Kf}(P:α->Prop)(vs:List AV)(ow:α->List Own)(h2:∀z,P z->Vx M (k vs) K (ow z) ro Φ)(h1:(∀z,P z->Vx M (k vs) K (ow z) ro Φ)->Vx M m (.bind id k outs::K) own ro Φ):Vx M m (.bind id k outs::K) own ro Φ:=h1 h2
theorem Vx.UX {own:List Own}{ro:List aI}{Φ:gz}{K:List Kf}{a b c d:Int}{e:Bool}{k:AV->AC}(h:Zx EM false (k (B false)) K own ro Φ):Vx EM (.op (.eq 71 true (.agg [I a,I b,U c,U d,B e]) (.agg [I a,I b,U c,U d,B e])) k) K own ro Φ:=
 λ_ W S H=>by obtain⟨fs,hu⟩:=nY UG;have hk:aE [some .i64,some .i64,some .u64,some .u64,none] [.int .i64 a,.int .i64 b,.int .u64 c,.int .u64 d,.bool e]=true:=rfl;refine ah (L7 PK am hu UF (ra hk) (ra hk) hk hk) ?_;simpa[se hk] using h.ok _ W S H
instance We:VC EM (zF 11) [] True (B true) where
 ok:=λ_ S=>GZ rfl ⟨rfl,bn.refl _⟩
def Bt (M:cP)(es:Nat)(v:AV)(i:Int)(id off:Nat):Prop:=∀S,evalOp M.P (.cC es v (I i)) S=some (.ptr id off,S)
section
variable{M:cP}{own:List Own}{ro:List aI}{Φ:gz}{K:List Kf}{v w:AV}{L:List (List AV)}{c:List AV}{i:Int}{es f:Nat}
theorem Zx.slp {k:AV->AC}(hm:Own.sl v es L∈own)(hi:0<=i)(hc:L[i.toNat]?=some c)(h:∀id off,Bt M es v i id off->Zx M false (k (.ptr id off)) K own ro Φ):Zx M false (.op (.cC es v (I i)) k) K own ro Φ:=.z (.of λB W S H=>by
 obtain⟨n,rfl⟩:∃n:Nat,i=n:=⟨i.toNat,am⟩;rw[Int.toNat_natCast] at hc;have de:n<L.length:=(List.getElem?_eq_some_iff.1 hc).1;rcases jW (H.oh _ hm) with⟨_,rfl⟩|⟨id,off,c',h1,_⟩;.simp at hc
 .exact ah (q_ h1 de) ((h id (off+n*es) λS=>q_ h1 de).ok B W S H))
theorem Bt.at {B S:AH}{W:List Nat}{id off:Nat}(hp:Bt M es v i id off)(H:Cx B W S own ro)(hm:Own.sl v es L∈own)(hi:0<=i)(hc:L[i.toNat]?=some c):(aI.pt id off c).holds S:=by obtain⟨n,rfl⟩:∃n:Nat,i=n:=⟨i.toNat,am⟩;rw[Int.toNat_natCast] at hc;obtain⟨id',adp,h1,h2,_⟩:=oJ (M:=M) (jW (H.oh _ hm)) hc;have:=hp S;rw[h1] at this;cases this;exact h2
theorem Zx.ldP {k:AV->AC}{id off:Nat}(hp:Bt M es v i id off)(hm:Own.sl v es L∈own)(hi:0<=i)(hc:L[i.toNat]?=some c)(hw:c[f]?=some w)(h:Zx M false (k w) K own ro Φ):Zx M false (.op (.load 1 false (.ptr id (off+f))) k) K own ro Φ:=.z (.of λB W S H=>nV (hp.at H hm hi hc) hw (h.ok B W S H))
theorem Vx.Z2 {k:AC}{id off:Nat}(hp:Bt M es v i id off)(hm:Own.sl v es L∈own)(hi:0<=i)(hc:L[i.toNat]?=some c)(hw:c[f]?=some w)(hb:AV.beq w w=true)(h:Zx M false k K own ro Φ):Vx M (.rN (.load 1 false (.ptr id (off+f))) w k) K own ro Φ:=λB W S H=>by obtain⟨c',h1,h2⟩:=pO (hp.at H hm hi hc) hw;refine yD (v':=w) ?_ hb (h.ok B W S H);show(match S.cells? id with|some c=>gh false c (off+f) 1|none=>none)=_;rw[h1];exact mD h2
end
section
open dA (Tk gK oZ)
theorem yH {S:AH}{v ui u:AV}{x:Xc}{size:Int}{l:List Tk}{ws:List Int}{a:List Ks}(hg:Az x.t.l.a.an=x.t.l.a.an/\-9223372036854775808<=x.t.l.a.an)(hv:oW S v 4 (gK l))(hi:oW S ui 1 (aW ws))(hw:∀w∈ws,Me.aC w)(hu:oW S u 5 (vD a)):
  aN EM (zF 3) [.agg (x.cs++[v]),I size,ui,u] S λr _=>r=B true:=by
 have H:=Cx.ro2 hv hi;replace H:=H.qX (φ:=.sl u 5 (vD a)) hu.1 λj hj=>⟨hu.2 j hj,λx hx=>by cases hx⟩;have mu:aI.sl u 5 (vD a)∈[.sl u 5 (vD a),.sl v 4 (gK l),.sl ui 1 (aW ws)]:=List.Mem.head _;have mv:aI.sl v 4 (gK l)∈[.sl u 5 (vD a),.sl v 4 (gK l),.sl ui 1 (aW ws)]:=List.Mem.tail _ (List.Mem.head _);have mi:aI.sl ui 1 (aW ws)∈[.sl u 5 (vD a),.sl v 4 (gK l),.sl ui 1 (aW ws)]:=List.Mem.tail _ (List.Mem.tail _ (List.Mem.head _));generalize[aI.sl u 5 (vD a),.sl v 4 (gK l),.sl ui 1 (aW ws)]=ro at H mv mu mi;obtain⟨ov,cv,bv⟩:=eI (H.ku mv).1;have hE:eC size (wy x.ex l size)=eC size (I_ x.ex l size):=CU λh=>Jl (e:=x.ex) am hg;have Nr:AV.beq (.agg (x.cs++[v])) (.agg (x.cs++[v]))=true:=by simp only[Xc.cs,Tw.cs,Lb.cs,Ar.cs,Ep.cs,lA,lB];simp[AV.beq,rO,aV,gl,bv]
 refine PF rfl rfl (b:=Tryz.a3) ?_ H;simp only[Xc.cs,Tw.cs,Lb.cs,Ar.cs,Ep.cs,lA,lB] at Nr⊢
 (repeat' first|refine Zx.aA 7 ?_|refine Zx.aA 8 ?_|constructor|exact ZQ|intro _)
 all_goals apply zL
 rename_i p1;refine Vx.spec (λB1 W1 S1 H=>UW (e:=x.ex) mv H) ?_;rintro _ _ ⟨rfl,rfl⟩
 (repeat' first|refine Zx.aA 7 ?_|refine Zx.aA 8 ?_|constructor|exact ZQ|intro _)
 all_goals apply zL
 refine Vx.spec (λB1 W1 S1 H=>UJ (e:=x.ex) mv H) ?_;rintro _ _ ⟨rfl,rfl⟩;rw[hE]
 (repeat' first|refine Zx.aA 9 ?_|refine Zx.aA 10 ?_|constructor|exact ZQ|intro _)
 all_goals apply zL
 refine Vx.spec (Ψ:=λu ab=>u=B (decide (x.ex.ok l))/\ab=_) (λB1 W1 S1 H=>az (X.oT (e:=x.ex) mv H) λr S' h=>⟨_,⟨h.1,rfl⟩,H.grow h.2⟩) ?_;rintro _ _ ⟨rfl,rfl⟩
 (repeat' first|refine Zx.aA 9 ?_|refine Zx.aA 10 ?_|constructor|exact ZQ|intro _)
 all_goals apply zL
 refine Vx.spec (Ψ:=λu ab=>u=B (decide (x.ex.ok l))/\ab=_) (λB1 W1 S1 H=>az (X.fS (e:=x.ex) mv H) λr S' h=>⟨_,⟨h.1,rfl⟩,H.grow h.2⟩) ?_;rintro _ _ ⟨rfl,rfl⟩;repeat' first|refine Zx.UE ?_ ?_|refine Zx.aA 8 ?_|constructor|exact ZQ|intro _
 all_goals apply zL
 refine Vx.spec (λB1 W1 S1 H=>UJ (e:=x.ex) mv H) ?_;rintro _ _ ⟨rfl,rfl⟩;by_cases hr:size<1\/4096<size
 .rw[bY hr]
  (repeat' first|constructor|exact ZQ|intro _)
  all_goals apply zL
 by_cases hf:I_ x.ex l size;case neg=>
  rw[bC hr hf]
  (repeat' first|constructor|exact ZQ|intro _)
  all_goals apply zL
 rw[bG hr hf]
 (repeat' first|refine Zx.av (v:=ui) ?_|refine Zx.av (v:=u) ?_|refine Zx.av (v:=v) ?_|refine Zx.au (v:=ui) ?_|refine Zx.au (v:=u) ?_|refine Zx.au (v:=v) ?_|constructor|exact ZQ|intro _)
 all_goals apply zL
 have hz:=Jk (e:=x.ex) am hg hf;have QL:x.ex.ok l:=hf.1;have MF:x.ok:=P4 (e:=x.ex) am hg hf;obtain⟨N,rfl⟩:∃M:Nat,size=M:=⟨size.toNat,am⟩;have TH:1<=N:=am;have CK:N<=4096:=am;refine Vx.FL mi ?_;rw[di]
 (repeat' first|refine Zx.av (v:=ui) ?_|refine Zx.av (v:=u) ?_|refine Zx.av (v:=v) ?_|refine Zx.au (v:=ui) ?_|refine Zx.au (v:=u) ?_|refine Zx.au (v:=v) ?_|constructor|exact ZQ|intro _)
 all_goals apply zL
 refine Vx.FL mu ?_;rw[Bk]
 (repeat' first|refine Zx.av (v:=ui) ?_|refine Zx.av (v:=u) ?_|refine Zx.av (v:=v) ?_|refine Zx.au (v:=ui) ?_|refine Zx.au (v:=u) ?_|refine Zx.au (v:=v) ?_|constructor|exact ZQ|intro _)
 all_goals apply zL
 clear hE hz hf;have Z3:1<=x.r.ad/\x.r.ad<=4:=by have h1:=zB.of QL;have h2:=h1.4;have h3:=h1.7;have h4:=h1.8;have e1:x.ex.aq=x.aq:=rfl;have e2:x.ex.dU=x.r.ad:=rfl;omega
 have Jo:bN 100000000 (Me.fresh N):=⟨IW TH CK,by unfold Me.fresh;dsimp only;omega⟩;have Wf:=Xc.bk MF (Me.fresh N) Jo.1 (by have:=Jo.2;omega);have hfn:=Wf.2.1;have hf2:=Jo.2;have Qh:(Me.fresh N).n=0:=rfl;have uM:∀i:Nat,i<=ws.length->(rep (Ux ws) i (x.fill (Me.fresh N))).gd:=λi hi=>(I0 hw hi _ Wf.1 am).1;have hwl:ws.length<=250:=am;refine Vx.spec (Ψ:=λu ab=>∃m bl,u=.ed [.ptr m 0,I 0]/\ab=ae m bl (Me.fresh N) (List.replicate (4096-N) (U 0))++_) (λB1 W1 S1 H=>az (Lq TH CK H) λr S' ⟨m,bl,h,H'⟩=>⟨_,⟨m,bl,h,rfl⟩,H'⟩) ?_;rintro _ _ ⟨m,bl,rfl,rfl⟩
 (repeat' first|refine Zx.aA 14 ?_|refine Zx.aA 15 ?_|constructor|exact ZQ|intro _)
 all_goals apply zL
 refine Vx.spec (Ψ:=λu ab=>∃w vm,u=.ed [.ptr w 0,I 0]/\ab=ai w vm (Me.fresh N)++_) (λB1 W1 S1 H=>az (Lt TH CK H) λr S' ⟨m,bl,h,H'⟩=>⟨_,⟨m,bl,h,rfl⟩,H'⟩) ?_;rintro _ _ ⟨w,vw,rfl,rfl⟩
 (repeat' first|refine Zx.aA 14 ?_|refine Zx.aA 15 ?_|constructor|exact ZQ|intro _)
 all_goals apply zL
 refine Vx.perm D2 ?_;refine Vx.spec (λB1 W1 S1 H=>PC MF mv QL Jo H) ?_;rintro _ _ ⟨rfl,rfl⟩
 (repeat' first|refine Zx.aA 14 ?_|refine Zx.aA 15 ?_|constructor|exact ZQ|intro _)
 all_goals apply zL
 refine Vx.perm D2 ?_;refine Vx.spec (λB1 W1 S1 H=>Lp MF mv QL Jo H) ?_;rintro _ _ ⟨rfl,rfl⟩
 (repeat' first|refine Zx.av (v:=ui) ?_|refine Zx.av (v:=u) ?_|refine Zx.av (v:=v) ?_|refine Zx.au (v:=ui) ?_|refine Zx.au (v:=u) ?_|refine Zx.au (v:=v) ?_|constructor|exact ZQ|intro _)
 all_goals apply zL
 have zw:(x.fill (Me.fresh N)).ws.length=N:=by rw[Wf.2.2];unfold Me.fresh;dsimp only;rw[List.length_replicate]
 obtain⟨Wg,na,Gq⟩:(Uy ws (x.fill (Me.fresh N))).gd/\(Uy ws (x.fill (Me.fresh N))).n<=2000000/\(Uy ws (x.fill (Me.fresh N))).ws.length=N:=by have:=I0 hw (Nat.le_refl _) (x.fill (Me.fresh N)) Wf.1 am;exact⟨this.1,by have h:=this.2.1;unfold Uy;omega,this.2.2.trans zw⟩
 unfold Uy at Wg na Gq;generalize x.fill (Me.fresh N)=y0 at uM Wg na Gq;rw[<-List.append_assoc];refine Vx.forM (C:=λl=>l) (mm:=λy=>ai w vw y++ae m bl y (List.replicate (4096-N) (U 0))) (f:=Ux ws) ws.length (λi=>[I (i:Int)]) ?_ ?_
 .intro i hi hX;have lO:=uM i am;have jd:(aW ws)[(i:Int).toNat]?=some [U (ws[i]?.getD 0)]:=by rw[Int.toNat_natCast];exact iC (by rw[List.getElem?_eq_getElem hi];rfl)
  rw[@List.append_assoc Own] at hX⊢;refine .z (.of (Vx.FL mi ?_));rw[di]
  (repeat' first|refine Zx.av (v:=ui) ?_|refine Zx.av (v:=u) ?_|refine Zx.av (v:=v) ?_|refine Zx.au (v:=ui) ?_|refine Zx.au (v:=u) ?_|refine Zx.au (v:=v) ?_|constructor|exact ZQ|intro _)
  all_goals apply zL
  refine Zx.ok (n:=false) (Zx.QI mi am jd ?_)
  (repeat' first|refine Zx.av (v:=ui) ?_|refine Zx.av (v:=u) ?_|refine Zx.av (v:=v) ?_|refine Zx.au (v:=ui) ?_|refine Zx.au (v:=u) ?_|refine Zx.au (v:=v) ?_|constructor|exact ZQ|intro _)
  all_goals apply zL
  refine Zx.ok (n:=false) (Zx.QI mi am jd ?_)
  (repeat' first|constructor|exact ZQ|intro _)
  all_goals apply zL
 rw[@List.append_assoc Own];refine .z (.of (Vx.FL mi ?_));rw[di]
 (repeat' first|refine Zx.av (v:=ui) ?_|refine Zx.av (v:=u) ?_|refine Zx.av (v:=v) ?_|refine Zx.au (v:=ui) ?_|refine Zx.au (v:=u) ?_|refine Zx.au (v:=v) ?_|constructor|exact ZQ|intro _)
 all_goals apply zL
 generalize rep (Ux ws) ws.length y0=y0 at Wg na Gq;rename_i p8;refine Vx.Lw (n:=4) (es:=2) (L:=List.replicate 4 [Np,Np]) rfl rfl (by intro x hx;rw[(List.mem_replicate.1 hx).2];rfl) ?_;generalize hvb:AV.sl p8 0 4 4=vb;refine Vx.inv (α:=Nat×Me×List (Option um)) (P:=λz n=>n+z.1=a.length/\z.2.1.gd/\z.2.1.ws.length=N/\z.2.1.n<=2000000+z.1/\z.2.2.length=4/\kX x v ro z.2.2) (λz=>[I (z.1:Int),B false])
  (λz=>.sl vb 2 (z.2.2.map zy)::(ae m bl z.2.1 (List.replicate (4096-N) (U 0))++(ai w vw z.2.1++(kj z.2.2++[.obj p1 (.row (x.cs++[v]))])))) ?_ (a0:=(0,y0,List.replicate 4 none)) (n0:=a.length) ⟨by dsimp only;omega,Wg,Gq,by dsimp only;omega,rfl,kX.nil⟩|>λh=>Vx.bQ (by simp only[Xc.cs,Tw.cs,Lb.cs,Ar.cs,Ep.cs,lA,lB];exact HQ) h
 rintro⟨i,y,sl⟩ n ⟨na,JG,Ev,Wh,P5,tN⟩ ih;dsimp only at na JG Ev Wh P5 tN ih⊢;simp only[Xc.cs,Tw.cs,Lb.cs,Ar.cs,Ep.cs,X.Su.cs,lA,lB] at ih⊢;refine Vx.FL mu ?_;rw[Bk]
 (repeat' first|refine Zx.av (v:=u) ?_|refine Zx.au (v:=u) ?_|constructor|exact ZQ|intro _)
 all_goals apply zL
 next de=>
 have JA:i<a.length:=am;obtain⟨b,hb⟩:∃b,b=a[i]:=⟨_,rfl⟩;have jd:(vD a)[(i:Int).toNat]?=some b.cs:=by rw[Int.toNat_natCast,hb];unfold vD;rw[List.getElem?_map,List.getElem?_eq_getElem JA];rfl
 have hc4:=Lv (a:=b.core) (n:=4) am;generalize W3:pick b.core 4=c at hc4;refine Zx.ok (n:=false) (Zx.V_ mu am jd (w:=I b.core) rfl ?_)
 (repeat' first|refine Zx.av (v:=u) ?_|refine Zx.au (v:=u) ?_|constructor|exact ZQ|intro _)
 all_goals apply zL
 rw[W3];refine Z1 (α:=Me×List (Option um)) (P:=λz=>z.1.gd/\z.1.ws.length=N/\z.1.n<=2000000+(i+1)/\z.2.length=4/\kX x v ro z.2) (vs:=[B false])
  (ow:=λz=>.sl vb 2 (z.2.map zy)::(ae m bl z.1 (List.replicate (4096-N) (U 0))++(ai w vw z.1++(kj z.2++[.obj p1 (.row (x.cs++[v]))])))) ?_ λtail=>?_
 .rintro⟨y,sl⟩ ⟨JG,Ev,Wh,P5,tN⟩;dsimp only at JG Ev Wh P5 tN ih⊢;refine Zx.ok (n:=false) ?_
  (repeat' first|refine Zx.av (v:=u) ?_|refine Zx.au (v:=u) ?_|constructor|exact ZQ|intro _)
  all_goals apply zL
  obtain⟨os,BA⟩:∃os,sl[c.toNat]?=some os:=⟨_,List.getElem?_eq_getElem am⟩;have h2:=ih (i+1,y,sl) (n-1) am ⟨by dsimp only;omega,JG,Ev,by dsimp only;omega,P5,tN⟩;dsimp only at h2;rw[uo BA,PJ os] at h2⊢;simp only[@List.append_assoc Own] at h2⊢;refine Zx.ok (n:=false) (Zx.sla (List.Mem.head _) am (oC BA) rfl ?_);refine Zx.bQ (own:=so (My os)++(so (Mz os)++(ae m bl y (List.replicate (4096-N) (U 0))++(ai w vw y++(.sl vb 2 (sl.map zy)::(kj (sl.take c.toNat)++(kj (sl.drop (c.toNat+1))++[.obj p1 (.row (x.cs++[v]))]))))))) HQ ?_;refine .z (.of (Vx.spec (λB1 W1 S1 H=>I6 (UD os) (ZA os) (ZB os) (λt ht=>tN.P t (by rw[<-ht];exact List.mem_map_of_mem (List.mem_of_getElem? BA))) (λt ht=>tN.D t (by rw[<-ht];exact List.mem_map_of_mem (List.mem_of_getElem? BA))) H) ?_));rintro _ _ ⟨rfl,rfl⟩;simp only[ae,ai,lA,lB,Me.sj,Me.HK,Me.last]
  (repeat' first|constructor|exact ZQ|intro _)
  all_goals apply zL
  refine Vx.UX ?_
  (repeat' first|constructor|exact ZQ|intro _)
  all_goals apply zL
  have hzr:y.ws.length+(List.replicate (4096-N) (U 0)).length=4096:=by rw[List.length_replicate];omega
  refine Vx.bQ (own:=ae m bl y (List.replicate (4096-N) (U 0))++(ai w vw y++(so (My os)++(so (Mz os)++(.sl vb 2 (sl.map zy)::(kj (sl.take c.toNat)++(kj (sl.drop (c.toNat+1))++[.obj p1 (.row (x.cs++[v]))]))))))) (by simp only[ae,ai,Xc.cs,Tw.cs,Lb.cs,Ar.cs,Ep.cs,lA,lB,Me.sj,Me.HK,Me.last];exact HQ) ?_;refine Vx.spec (Ψ:=λu ab=>ab=.sl u 1 (aW y.ws)::_) (λB1 W1 S1 H=>az (IQ JG hzr H) λr S' h=>⟨_,rfl,h⟩) ?_;rintro r1 _ rfl
  (repeat' first|constructor|exact ZQ|intro _)
  all_goals apply zL
  refine Vx.bQ (own:=ai w vw y++(.sl r1 1 (aW y.ws)::(ae m bl y (List.replicate (4096-N) (U 0))++(so (My os)++(so (Mz os)++(.sl vb 2 (sl.map zy)::(kj (sl.take c.toNat)++(kj (sl.drop (c.toNat+1))++[.obj p1 (.row (x.cs++[v]))])))))))) ?_ ?_
  .generalize ae m bl _ _=MM;generalize ai w vw _=RR;exact HQ
  refine Vx.spec (λB1 W1 S1 H=>Fs am H) ?_;rintro r2 _ rfl
  (repeat' first|constructor|exact ZQ|intro _)
  all_goals apply zL
  refine Vx.bQ (own:=.sl r1 1 (aW y.ws)::.sl r2 1 (aW y.ws)::(ai w vw y++(ae m bl y (List.replicate (4096-N) (U 0))++(so (My os)++(so (Mz os)++(.sl vb 2 (sl.map zy)::(kj (sl.take c.toNat)++(kj (sl.drop (c.toNat+1))++[.obj p1 (.row (x.cs++[v]))])))))))) ?_ ?_
  .generalize ae m bl _ _=MM;generalize ai w vw _=RR;exact HQ
  refine Vx.spec (λB1 W1 S1 H=>IV am H) ?_;rintro _ _ ⟨rfl,rfl⟩
  (repeat' first|constructor|exact ZQ|intro _)
  all_goals apply zL
  refine Vx.bQ ?_ h2;simp only[Xc.cs,Tw.cs,Lb.cs,Ar.cs,Ep.cs,lA,lB];generalize ae m bl _ _=MM;generalize ai w vw _=RR;exact HQ
 .simp only[Xc.cs,Tw.cs,Lb.cs,Ar.cs,Ep.cs,lA,lB] at tail;refine Zx.ok (n:=false) (Zx.V_ mu am jd (w:=I b.what) rfl ?_)
  (repeat' first|refine Zx.av (v:=u) ?_|refine Zx.au (v:=u) ?_|constructor|exact ZQ|intro _)
  all_goals apply zL
  .refine Zx.ok (n:=false) (Zx.Zr mu am jd (w:=I b.what) rfl ?_)
   (repeat' first|refine Zx.av (v:=u) ?_|refine Zx.au (v:=u) ?_|constructor|exact ZQ|intro _)
   all_goals apply zL
   .refine Zx.ok (n:=false) (Zx.Wa mu am jd rfl ?_);refine .z (.of (Vx.spec (λB1 W1 S1 H=>IX (k:=b.core) (what:=b.what) (t:=b.t) (now:=b.now) (high:=b.high) MF mv QL H) ?_));rintro _ _ ⟨q,q',lo,jx,rfl,hP,hD,rfl⟩;obtain⟨g1,g2,g3⟩:=PD (c:=c) (what:=b.what) (t:=b.t) (now:=b.now) (high:=b.high) MF QL;have g4:=PE (c:=c) (what:=b.what) (t:=b.t) (now:=b.now) (high:=b.high) QL mv;generalize tM x l c b.what b.t b.now b.high=o at hP hD g1 g2 g3 g4;generalize CL x l c b.what b.t b.now b.high=σ at hP hD g1 g2 g3 g4;generalize Lu c b.what b.t b.now b.high=Qu at hD;obtain⟨os,BA⟩:∃os,sl[c.toNat]?=some os:=⟨_,List.getElem?_eq_getElem am⟩;rw[uo BA,@List.append_assoc Own,@List.append_assoc Own];refine Zx.bQ (own:=.sl vb 2 (sl.map zy)::(ae m bl y (List.replicate (4096-N) (U 0))++(ai w vw y++(kj (sl.take c.toNat)++(lo++(jx++(kj (sl.drop (c.toNat+1))++[_]))))))) HQ ?_;refine Zx.sls am (by rw[List.length_map];omega) rfl rfl ?_;rw[show(sl.map zy).set c.toNat (AV.agg [.ptr q 0,.ptr q' 0]).cells=(sl.set c.toNat (some ⟨o,σ,0,Qu,q,q',lo,jx⟩)).map zy from D3 (s:=⟨o,σ,0,Qu,q,q',lo,jx⟩)];have h2:=tail (y,sl.set c.toNat (some ⟨o,σ,0,Qu,q,q',lo,jx⟩)) ⟨JG,Ev,by dsimp only;omega,by dsimp only;rw[List.length_set];omega,tN.set ⟨hP,hD,g1,g2,g3,g4⟩⟩;dsimp only at h2;rw[Bl am] at h2;simp only[PG,@List.append_assoc Own] at h2
    (repeat' first|refine Zx.av (v:=u) ?_|refine Zx.au (v:=u) ?_|constructor|exact ZQ|intro _)
    all_goals apply zL
    all_goals skip
   .refine Zx.ok (n:=false) (Zx.V_ mu am jd (w:=I b.what) rfl ?_)
    (repeat' first|refine Zx.av (v:=u) ?_|refine Zx.au (v:=u) ?_|constructor|exact ZQ|intro _)
    all_goals apply zL
    exact tail (y,sl) ⟨JG,Ev,by dsimp only;omega,P5,tN⟩
  .refine Zx.ok (n:=false) (Zx.V_ mu am jd (w:=I b.what) rfl ?_)
   (repeat' first|refine Zx.av (v:=u) ?_|refine Zx.au (v:=u) ?_|constructor|exact ZQ|intro _)
   all_goals apply zL
   .obtain⟨os,BA⟩:∃os,sl[c.toNat]?=some os:=⟨_,List.getElem?_eq_getElem am⟩;cases os with
    |none=>
     refine Zx.ok (n:=false) (Zx.Uw (List.Mem.head _) am (oC BA) (w:=Np) rfl ?_)
     (repeat' first|refine Zx.av (v:=u) ?_|refine Zx.au (v:=u) ?_|constructor|exact ZQ|intro _)
     all_goals apply zL
     exact tail (y,sl) ⟨JG,Ev,by dsimp only;omega,P5,tN⟩
    |some z=>
     have hz:=tN.at BA;have uG:tj.ok x z.o ⟨z.σ,y,z.b⟩ (2000000+i) N:=⟨hz.k,hz.w,JG,Wh,Ev⟩;refine Zx.ok (n:=false) (Zx.Uw (List.Mem.head _) am (oC BA) (w:=.ptr z.q' 0) rfl ?_)
     (repeat' first|refine Zx.av (v:=u) ?_|refine Zx.au (v:=u) ?_|constructor|exact ZQ|intro _)
     all_goals apply zL
     refine Zx.ok (n:=false) (Zx.slf (List.Mem.head _) am (oC BA) (w:=.ptr z.q 0) rfl ?_);refine Zx.slp (List.Mem.head _) am (oC BA) λid off hpo=>?_;refine Zx.fad (Zx.ldP hpo (List.Mem.head _) am (oC BA) (f:=1) (w:=.ptr z.q' 0) rfl ?_);rw[uo BA,@List.append_assoc Own,@List.append_assoc Own];simp only[PG,@List.append_assoc Own];refine Zx.bQ (own:=z.lo++(ae m bl y (List.replicate (4096-N) (U 0))++(.sl vb 2 (sl.map zy)::(ai w vw y++(kj (sl.take c.toNat)++(z.jx++(kj (sl.drop (c.toNat+1))++[_]))))))) HQ ?_;refine .z (.of (Vx.spec (λB1 W1 S1 H=>Ue (s:=⟨z.σ,y,z.b⟩) MF uG hz.p H) ?_));rintro _ _ ⟨l1,rfl,hP1,rfl⟩;have QM:=uG.Zl MF am hz.p;refine .z (.of (Vx.Z2 hpo (L:=sl.map zy) ac am (oC BA) (f:=1) (w:=.ptr z.q' 0) rfl (by simp[AV.beq]) ?_));refine Zx.bQ (own:=z.jx++(ai w vw y++(.sl vb 2 (sl.map zy)::(l1++(ae m bl (tj.CJ x z.o ⟨z.σ,y,z.b⟩).y (List.replicate (4096-N) (U 0))++(kj (sl.take c.toNat)++(kj (sl.drop (c.toNat+1))++[_]))))))) HQ ?_;refine .z (.of (Vx.spec (λB1 W1 S1 H=>Uf (s:=⟨z.σ,y,z.b⟩) MF uG (λho=>hz.t (hz.k ho)) hz.d H) ?_));rintro _ _ ⟨l2,rfl,hD1,rfl⟩;generalize tj.CJ x z.o ⟨z.σ,y,z.b⟩=r at hP1 hD1 QM;have h2:=tail (r.y,sl.set c.toNat (some ⟨z.o,r.σ,r.b,z.hg,z.q,z.q',l1,l2⟩)) ⟨QM.y,QM.l,by have:=QM.n;dsimp only;omega,by dsimp only;rw[List.length_set];omega,tN.set ⟨hP1,hD1,QM.k,QM.w,hz.z,hz.t⟩⟩;dsimp only at h2;rw[<-D3 (s:=⟨z.o,r.σ,r.b,z.hg,z.q,z.q',l1,l2⟩),Bl am] at h2;simp only[PG,@List.append_assoc Own] at h2;rw[IZ BA] at h2;repeat' first|refine Zx.UE ?_ ?_|constructor|exact ZQ|intro _
     all_goals apply zL
     exact Vx.bQ HQ h2
   .exact tail (y,sl) ⟨JG,Ev,by dsimp only;omega,P5,tN⟩
end
end Go.cG
