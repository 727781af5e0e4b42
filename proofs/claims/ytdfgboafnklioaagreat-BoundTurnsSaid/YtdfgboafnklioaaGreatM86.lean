/- Contracts. Conditions: in each theorem. -/
import Derived.Test.YtdfgboafnklioaaGreatM85
import Derived.Test.YtdfgboafnklioaaGreatM81
set_option linter.all false
set_option maxRecDepth 100000
set_option maxHeartbeats 4000000
noncomputable section
namespace Go.cO
open Go.Proofs
section
open dZ (Tk ep kq)
instance VZ:VC EM (zF 44) [] True (B true) where
 ok:=λ_ S=>MX rfl ⟨rfl,aR.refl _⟩
theorem Cx.roL {S:AH}{ro:List aB}{l:List Tn}(H:Cx S [] S [] ro)(hp:∀a∈l,iU S a.pk 1 (ints a.p)):∃GM,Cx S [] S [] GM/\(∀φ∈ro,φ∈GM)/\∀a∈l,aB.sl a.pk 1 (ints a.p)∈GM:=by
 induction l with
 |nil=>exact⟨ro,H,λφ h=>h,λa h=>by cases h⟩
 |cons b l ih=>
  obtain⟨GM,h1,h2,h3⟩:=ih λa ha=>hp a (List.Mem.tail _ ha);have hb:=hp b (List.Mem.head _);refine⟨.sl b.pk 1 (ints b.p)::GM,h1.uP hb.1 λj hj=>⟨hb.2 j hj,λx hx=>by cases hx⟩,λφ h=>List.Mem.tail _ (h2 φ h),λa ha=>?_⟩;rcases List.mem_cons.1 ha with rfl|ha;.exact List.Mem.head _
  .exact List.Mem.tail _ (h3 a ha)
section
variable{x:Xc}{v r:AV}{L:List (List AV)}{ro:List aB}{l:List (Option Sd)}{φ:aB}{s:xD}
theorem si.less (h:si x v (.sl r 1 L::ro) s):si x v ro s:=⟨h.k,h.w,h.z,λho hk=>by
 obtain⟨M,c,h1,h2⟩:=h.t ho hk;rcases List.mem_cons.1 h1 with h|h;.cases h
 .exact⟨M,c,h,h2⟩⟩
theorem si.add (h:si x v ro s):si x v (φ::ro) s:=⟨h.k,h.w,h.z,λho hk=>by
 obtain⟨M,c,h1,h2⟩:=h.t ho hk;exact⟨M,c,List.Mem.tail _ h1,h2⟩⟩
theorem fS.less (h:fS x v (.sl r 1 L::ro) l):fS x v ro l:=λs hs=>⟨(h s hs).1,(h s hs).2.less⟩
theorem fS.add (h:fS x v ro l):fS x v (φ::ro) l:=λs hs=>⟨(h s hs).1,(h s hs).2.add⟩
theorem mP.less (h:mP x v (.sl r 1 L::ro) l):mP x v ro l:=λs hs=>⟨(h s hs).1,(h s hs).2.less⟩
theorem mP.add (h:mP x v ro l):mP x v (φ::ro) l:=λs hs=>⟨(h s hs).1,(h s hs).2.add⟩
end
section
variable{M:cQ}{own:List Own}{ro:List aB}{Φ:gn}{K:List Kf}
theorem Vx.Zo {a b:Int}{k:AV->AC}(hb:b≠0)(h:Zx M false (k (I (a.tmod b))) K own ro Φ):Vx M (.op (.bin .rem (I a) (I b)) k) K own ro Φ:=λB W S H=>yj hb (h.ok B W S H)
theorem Zx.Zp {v w:AV}{es f:Nat}{L:List (List AV)}{c:List AV}{i:Int}{g:Bool}{k:AV->AC}(hv:aB.sl v es L∈ro)(hi:0<=i)(hc:L[i.toNat]?=some c)(hw:c[f]?=some w)(h:Zx M false (k w) K own ro Φ):Zx M false (.op (.da es v (I i)) λp=>.hZ (B g) g (.lG f p) λq=>.hZ (B g) g (.load 1 false q) k) K own ro Φ:=
 .z (.of (Vx.Ql hv hi hc λid off=>λB W S H=>cI (cV (cI (lU H (List.Mem.head _) hw (h.ok B W S H.tl))))))
end
structure Kept (A:Prop):Prop where
 it:A
theorem once {A B:Prop}(h:Kept A->B)(a:A):B:=h ⟨a⟩
theorem IU {x:Xc}{l:List Tk}{c what t now high:Int}:(y5 x l c what t now high).fC:=by
 have h1:∀{n:Nat} {t now:Int},(gg n t now).fC:=by
  intro n t now;unfold gg;split;.simp[an.fC]
  .trivial
 have h2:∀{k c h:Int},(aX x k c h).fC:=by
  intro k c h;unfold aX;split;.simp[an.fC]
  .exact an.KT
 unfold y5;repeat' split
 all_goals first|exact h1|exact h2
theorem wx {S:AH}{v u:AV}{nums:List Int}{ts:List Tn}(hv:iU S v 1 (ints nums))(hu:iU S u 7 (Cy ts))(hp:∀a∈ts,iU S a.pk 1 (ints a.p)):
  aG EM (zF 6) [v,u] S λr _=>r=B true:=by
 obtain⟨ro,H,i_,mp⟩:=(Cx.JM hv hu).roL hp;have mv:aB.sl v 1 (ints nums)∈ro:=i_ _ (List.Mem.head _);have mu:aB.sl u 7 (Cy ts)∈ro:=i_ _ (List.Mem.tail _ (List.Mem.head _));refine Pe rfl rfl (b:=Tryz.a6) ?_ H;refine .z (.of (Vx.spec (λB1 W1 S1 H=>KZ mu mp H) ?_));rintro _ _ ⟨⟨b,rfl,hb⟩,rfl⟩;cases b with
 |true=>
  (repeat' first|constructor|exact ZQ|intro _)
  all_goals apply zL
 |false=>
 obtain⟨ac1,Zq⟩:=hb rfl;clear hb
 (repeat' first|constructor|exact ZQ|intro _)
 all_goals apply zL
 refine Vx.Pf (P:=λr φ=>∃(s:X.Su) (u:AV) (tl:List Tk),r=.agg (s.cs u)/\s.small/\(∀x∈tl,Bb x)/\1<=tl.length/\tl.length<=3/\φ=.sl u 4 (ep tl)) (λB1 W1 S1 H=>aw (IL mv H) λr S' ⟨ab,⟨s,u,tl,h1,h2,h3,h4,h5,h6⟩,h⟩=>⟨_,⟨s,u,tl,h1,h2,h3,h4,h5,rfl⟩,by subst h6;exact h.A9 (i:=0) rfl⟩) ?_;rintro _ _ ⟨s,u0,tl,rfl,UG,CR,ht1,ht3,rfl⟩;have FY:=E7 UG CR ht1 ht3;have hsj:-9223372036854775808<=s.mN:=by unfold X.Su.small at UG;omega
 have Lg:1<=s.ah/\s.ah<=4:=by unfold X.Su.small at UG;omega
 obtain⟨C_,IV⟩:∃r,r=(aB.sl u0 4 (ep tl)::ro):=⟨_,rfl⟩;have mt:aB.sl u0 4 (ep tl)∈C_:=by rw[IV];exact List.Mem.head _
 replace mu:aB.sl u 7 (Cy ts)∈C_:=by rw[IV];exact List.Mem.tail _ mu
 replace mp:∀a∈ts,aB.sl a.pk 1 (ints a.p)∈C_:=λa ha=>by rw[IV];exact List.Mem.tail _ (mp a ha)
 rw[<-IV];clear IV;unfold X.Su.cs;refine Zx.ok (n:=false) ?_
 (repeat' first|refine Zx.dK 46 ?_|constructor|exact ZQ|intro _)
 all_goals apply zL
 refine Vx.Pf (P:=λr φ=>∃e,X.OH s tl e r/\φ=.sl e 4 (if s.lH tl=0 then ep tl else [])/\(odd e=false/\e.cells=[e]/\AV.beq e e=true)) (λB1 W1 S1 H=>aw (X.ES (s:=s) (l:=tl) hsj (H.hH mt)) λr S' ⟨e,h,K⟩=>⟨_,⟨e,h,rfl,dB ((H.DK K).hH (List.Mem.head _)).1⟩,H.DK K⟩) ?_;rintro r φ ⟨e,hr,rfl,oe,ce,be⟩;rcases hr with⟨hc,rfl,rfl⟩|⟨hc,rfl⟩;.exact absurd FY hc
 rw[if_pos hc];obtain⟨K0,QD,YJ,EW⟩:=KQ hc;rw[<-Xc.Ul];generalize hx:Xc.of (X.tt s tl.length)=x;rw[show X.tt s tl.length=x.ex from by rw[<-hx];rfl] at QD;rw[hx] at K0;generalize X.Cp s tl.length=N at YJ EW;obtain⟨N,rfl⟩:∃M:Nat,N=M:=⟨N.toNat,am⟩;obtain⟨JM,IW⟩:∃r,r=(aB.sl e 4 (ep tl)::C_):=⟨_,rfl⟩;have me:aB.sl e 4 (ep tl)∈JM:=by rw[IW];exact List.Mem.head _
 replace mu:aB.sl u 7 (Cy ts)∈JM:=by rw[IW];exact List.Mem.tail _ mu
 replace mp:∀a∈ts,aB.sl a.pk 1 (ints a.p)∈JM:=λa ha=>by rw[IW];exact List.Mem.tail _ (mp a ha)
 rw[<-IW];clear IW;have hxx:=K0;have PM:1<=N:=am;have E_:N<=4096:=am;have Fa:bP 100000000 (Me.fresh N):=⟨Iu PM E_,by unfold Me.fresh;dsimp only;omega⟩;have V0:=Xc.ba K0 (Me.fresh N) Fa.1 (by have:=Fa.2;omega);have WW:=V0.2.1;have hf2:=Fa.2;have U1:(Me.fresh N).n=0:=rfl;simp only[Xc.cs,Tw.cs,Lb.cs,Ar.cs,Ep.cs,lA,lB];refine Zx.ok (n:=false) ?_
 (repeat' first|refine Zx.dK 12 ?_|refine Zx.dK 13 ?_|constructor|exact ZQ|intro _)
 all_goals apply zL
 refine Vx.spec (Ψ:=λu ab=>∃m bl,u=.dD [.ptr m 0,I 0]/\ab=ad m bl (Me.fresh N) (List.replicate (4096-N) (U 0))++_) (λB1 W1 S1 H=>aw (KO PM E_ H) λr S' ⟨m,bl,h,H'⟩=>⟨_,⟨m,bl,h,rfl⟩,H'⟩) ?_;rintro _ _ ⟨m,bl,rfl,rfl⟩
 (repeat' first|refine Zx.dK 12 ?_|refine Zx.dK 13 ?_|constructor|exact ZQ|intro _)
 all_goals apply zL
 refine Vx.spec (Ψ:=λu ab=>∃w vm,u=.dD [.ptr w 0,I 0]/\ab=ai w vm (Me.fresh N)++_) (λB1 W1 S1 H=>aw (KP PM E_ H) λr S' ⟨m,bl,h,H'⟩=>⟨_,⟨m,bl,h,rfl⟩,H'⟩) ?_;rintro _ _ ⟨w,vw,rfl,rfl⟩
 (repeat' first|refine Zx.dK 14 ?_|refine Zx.dK 15 ?_|constructor|exact ZQ|intro _)
 all_goals apply zL
 refine Vx.perm DJ ?_;refine Vx.spec (λB1 W1 S1 H=>O_ K0 me QD Fa H) ?_;rintro _ _ ⟨rfl,rfl⟩
 (repeat' first|refine Zx.dK 14 ?_|refine Zx.dK 15 ?_|constructor|exact ZQ|intro _)
 all_goals apply zL
 refine Vx.perm DJ ?_;refine Vx.spec (λB1 W1 S1 H=>KN K0 me QD Fa H) ?_;rintro _ _ ⟨rfl,rfl⟩;have wu:(x.fill (Me.fresh N)).ws.length=N:=by rw[V0.2.2];unfold Me.fresh;dsimp only;rw[List.length_replicate]
 have Bc:=V0.1;have L9:(x.fill (Me.fresh N)).n<=1000000:=am;generalize x.fill (Me.fresh N)=y0 at wu Bc L9;repeat' first|refine Zx.y7 ?_|constructor|exact ZQ|intro _
 all_goals apply zL
 rename_i p1 p7;obtain⟨C,hC⟩:∃C:Nat,s.ah=C:=⟨s.ah.toNat,am⟩;have hC4:1<=C/\C<=4:=am;rw[hC];refine Vx.Uv (n:=C) am am λva=>?_;refine Zx.ok (n:=false) ?_;repeat' first|refine Zx.y7 ?_|constructor|exact ZQ|intro _
 all_goals apply zL
 refine Vx.Uv (n:=C) am am λvb=>?_;have Zr:List.replicate C [AV.sc (Value.pointer none)]=dj (List.replicate C none):=by unfold dj;rw[List.map_replicate];rfl
 rw[Zr];refine Zx.ok (n:=false) ?_
 (repeat' first|constructor|exact ZQ|intro _)
 try all_goals apply zL
 refine Vx.bB (own:=.sl va 1 (dj (List.replicate C none))::.sl vb 1 (dj (List.replicate C none))::(eF (List.replicate C none)++(eF (List.replicate C none)++(ad m bl y0 (List.replicate (4096-N) (U 0))++(ai w vw y0++[.obj p7 (.row (x.cs++[e])),.obj p1 (.row (s.cs u0))]))))) ?_ ?_
 .have Ze:eF (List.replicate C none)=[]:=by
   unfold eF;rw[List.map_replicate];clear Zr;generalize C=k;induction k with
   |zero=>rfl
   |succ k ih=>rw[List.replicate_succ,List.flatten_cons,ih];rfl
  rw[Ze];simp only[Xc.cs,Tw.cs,Lb.cs,Ar.cs,Ep.cs,X.Su.cs,hC,lA,lB];generalize ad m bl _ _=MM;generalize ai w vw _=RR;exact HQ
 have UM:∀{t:Sd},some t∈List.replicate C (none:Option Sd)->False:=λh=>by have:=(List.mem_replicate.1 h).2;cases this
 refine Vx.inv (α:=Nat×Me×List (Option Sd)×List (Option Sd)) (P:=λz n=>n+z.1=ts.length/\z.2.1.gd/\z.2.1.ws.length=N/\z.2.1.n<=1000000+1000*z.1/\z.2.2.1.length=C/\z.2.2.2.map co=z.2.2.1.map co/\fS x e JM z.2.2.1/\mP x e JM z.2.2.2/\(∀s,some s∈z.2.2.1->s.s.σ.fC)/\(∀s,some s∈z.2.2.2->s.s.σ.fC)) (λz=>[I (z.1:Int),B false])
  (λz=>.sl va 1 (dj z.2.2.1)::.sl vb 1 (dj z.2.2.2)::(eF z.2.2.1++(eF z.2.2.2++(ad m bl z.2.1 (List.replicate (4096-N) (U 0))++(ai w vw z.2.1++[.obj p7 (.row (x.cs++[e])),.obj p1 (.row (s.cs u0))]))))) ?_ (a0:=(0,y0,List.replicate C none,List.replicate C none)) (n0:=ts.length) ⟨by dsimp only;omega,Bc,wu,by dsimp only;omega,List.length_replicate ..,rfl,λt h=>(UM h).elim,λt h=>(UM h).elim,λt h=>(UM h).elim,λt h=>(UM h).elim⟩
 clear UM Zr Bc wu L9 V0 WW Fa;rintro⟨i,y,a,b⟩ n ⟨oK,Bc,Bf,L9,UN,DN,hP,hD,xE,Fb⟩ ih;dsimp only at oK Bc Bf L9 UN DN hP hD xE Fb ih⊢;have LU:b.length=C:=by have:=congrArg List.length DN;rw[List.length_map,List.length_map] at this;omega
 simp only[Xc.cs,Tw.cs,Lb.cs,Ar.cs,Ep.cs,X.Su.cs,lA,lB] at ih⊢;refine Zx.ok (n:=false) ?_
 (repeat' first|refine Zx.bV (v:=u) ?_|refine Zx.aA (v:=u) ?_|constructor|exact ZQ|intro _)
 all_goals apply zL
 refine Vx.A1 mu ?_;rw[oH]
 (repeat' first|refine Zx.bV (v:=u) ?_|refine Zx.aA (v:=u) ?_|constructor|exact ZQ|intro _)
 all_goals apply zL
 next cA=>
 have Pz:i<ts.length:=am;have ha:=List.getElem?_eq_getElem Pz;have I3:=mp ts[i] (List.getElem_mem Pz);have Va:=Zq ts[i] (List.getElem_mem Pz);generalize Jy:ts[i]=d at ha I3 Va;have gZ:=IM ha;refine Zx.ok (n:=false) (Zx.Ft mu am gZ (w:=I d.core) rfl ?_)
 (repeat' first|refine Zx.bV (v:=u) ?_|refine Zx.aA (v:=u) ?_|constructor|exact ZQ|intro _)
 all_goals apply zL
 rw[show pick d.core s.ah=pick d.core (C:Int) from by rw[hC]];have L_:=ry (a:=d.core) (n:=(C:Int)) am;generalize pick d.core (C:Int)=c at L_;refine Vx.cut (α:=Me×List (Option Sd)×List (Option Sd)) (P:=λz=>z.1.gd/\z.1.ws.length=N/\z.1.n<=1000000+1000*(i+1)/\z.2.1.length=C/\z.2.2.map co=z.2.1.map co/\fS x e JM z.2.1/\mP x e JM z.2.2/\(∀s,some s∈z.2.1->s.s.σ.fC)/\(∀s,some s∈z.2.2->s.s.σ.fC)) (vs:=[B false])
  (ow:=λz=>.sl va 1 (dj z.2.1)::.sl vb 1 (dj z.2.2)::(eF z.2.1++(eF z.2.2++(ad m bl z.1 (List.replicate (4096-N) (U 0))++(ai w vw z.1++[.obj p7 (.row (x.cs++[e])),.obj p1 (.row (s.cs u0))]))))) ?_ λtail=>?_
 .rintro⟨y,a,b⟩ ⟨Bc,Bf,L9,UN,DN,hP,hD,xE,Fb⟩;have h2:=ih (i+1,y,a,b) (n-1) am ⟨by dsimp only;omega,Bc,Bf,by dsimp only at L9⊢;omega,UN,DN,hP,hD,xE,Fb⟩;simp only[Xc.cs,Tw.cs,Lb.cs,Ar.cs,Ep.cs,X.Su.cs,lA,lB] at h2⊢;refine Zx.ok (n:=false) ?_
  (repeat' first|constructor|exact ZQ|intro _)
  all_goals apply zL
 simp only[Xc.cs,Tw.cs,Lb.cs,Ar.cs,Ep.cs,X.Su.cs,lA,lB] at tail;obtain⟨sb,E9⟩:∃s,b[c.toNat]?=some s:=⟨_,List.getElem?_eq_getElem am⟩;refine@once ?S _ (λskip=>?_) ?_
 rotate_left
 .refine Zx.ok (n:=false) (Zx.Ft mu am gZ (f:=0) (w:=I d.what) rfl ?_)
  (repeat' first|refine Zx.bV (v:=u) ?_|refine Zx.aA (v:=u) ?_|constructor|exact ZQ|intro _)
  all_goals apply zL
  .refine@once ?G _ (λbeg=>?_) ?_
   rotate_left
   .refine Zx.ok (n:=false) (Zx.Y4 mu am gZ (f:=0) (w:=I d.what) rfl ?_);repeat' first|refine Zx.aA (v:=vb) ?_|refine Zx.aA (v:=u) ?_|constructor|exact ZQ|intro _
    all_goals apply zL
    .refine Zx.ok (n:=false) (Zx.E1 (v:=vb) (L:=dj b) ac L_.1 (jk E9) ?_);cases sb with
     |none=>
      show Zx EM false (.hZ _ true (.eq _ false Np Np) _) _ _ _ _
      (repeat' first|refine Zx.bV (v:=u) ?_|refine Zx.aA (v:=u) ?_|constructor|exact ZQ|intro _)
      all_goals apply zL
      exact beg.it
     |some tb=>
      show Zx EM false (.hZ _ true (.eq _ false (.ptr tb.q 0) Np) _) _ _ _ _;repeat' first|refine Zx.aA (v:=vb) ?_|refine Zx.aA (v:=u) ?_|constructor|exact ZQ|intro _
      all_goals apply zL
      refine Zx.ok (n:=false) (Zx.E1 (v:=vb) (L:=dj b) ac L_.1 (jk E9) ?_);refine .G8 (.z (.of (Vx.bB (own:=tb.lo++(.sl va 1 (dj a)::.sl vb 1 (dj b)::(eF a++(eF (b.take c.toNat)++(eF (b.drop (c.toNat+1))++(ad m bl y (List.replicate (4096-N) (U 0))++(ai w vw y++[.obj p7 (.row (x.cs++[e])),.obj p1 (.row (s.cs u0))]))))))) ?_ ?_)))
      .rw[gX E9];simp only[@List.append_assoc Own,so,Xc.cs,Tw.cs,Lb.cs,Ar.cs,Ep.cs,X.Su.cs,lA,lB];generalize ad m bl _ _=MM;generalize ai w vw _=RR;exact HQ
      refine Vx.spec (λB1 W1 S1 H=>DH (hD tb (List.mem_of_getElem? E9)).1 H) ?_;rintro _ _ ⟨rfl,rfl⟩;refine Zx.bB (own:=.sl va 1 (dj a)::.sl vb 1 (dj b)::(eF a++(eF b++(ad m bl y (List.replicate (4096-N) (U 0))++(ai w vw y++[.obj p7 (.row (x.cs++[e])),.obj p1 (.row (s.cs u0))]))))) ?_ ?_
      .rw[gX E9];simp only[@List.append_assoc Own,so];generalize ad m bl _ _=MM;generalize ai w vw _=RR;exact HQ
      simp only[Xc.cs,Tw.cs,Lb.cs,Ar.cs,Ep.cs,X.Su.cs,lA,lB];by_cases he:tb.s.σ.err=14
      .rw[he]
       (repeat' first|refine Zx.bV (v:=u) ?_|refine Zx.aA (v:=u) ?_|constructor|exact ZQ|intro _)
       all_goals apply zL
       exact skip.it
      ·(repeat' first|refine Zx.bV (v:=u) ?_|refine Zx.aA (v:=u) ?_|constructor|exact ZQ|intro _)
       all_goals apply zL
       all_goals first|(exfalso;omega)|exact beg.it
    .exact skip.it
   .skip
    refine Zx.ok (n:=false) (Zx.Ft mu am gZ (f:=0) (w:=I d.what) rfl ?_)
    (repeat' first|refine Zx.bV (v:=u) ?_|refine Zx.aA (v:=u) ?_|constructor|exact ZQ|intro _)
    all_goals apply zL
    refine Zx.ok (n:=false) (Zx.Ft mu am gZ (f:=2) (w:=I d.t) rfl ?_)
    (repeat' first|refine Zx.bV (v:=u) ?_|refine Zx.aA (v:=u) ?_|constructor|exact ZQ|intro _)
    all_goals apply zL
    refine Zx.ok (n:=false) (Zx.Ft mu am gZ (f:=3) (w:=I d.now) rfl ?_)
    (repeat' first|refine Zx.bV (v:=u) ?_|refine Zx.aA (v:=u) ?_|constructor|exact ZQ|intro _)
    all_goals apply zL
    refine Zx.ok (n:=false) (Zx.Ft mu am gZ (f:=4) (w:=I d.high) rfl ?_)
    (repeat' first|refine Zx.dK 19 ?_|constructor|exact ZQ|intro _)
    all_goals apply zL
    refine Vx.spec (λB1 W1 S1 H=>Iv (x:=x) (v:=e) (k:=0) (what:=d.what) (t:=d.t) (now:=d.now) (high:=d.high) K0 me QD H) ?_;rintro _ _ ⟨q,q',lo,ki,rfl,V1,IF,rfl⟩;obtain⟨g1,g2,g3⟩:=Pc (c:=c) (what:=d.what) (t:=d.t) (now:=d.now) (high:=d.high) K0 QD;have g4:=Pd (c:=c) (what:=d.what) (t:=d.t) (now:=d.now) (high:=d.high) QD me;have g5:=IU (x:=x) (l:=tl) (c:=c) (what:=d.what) (t:=d.t) (now:=d.now) (high:=d.high);generalize tx x tl c d.what d.t d.now d.high=o at V1 IF g1 g2 g3 g4;generalize y5 x tl c d.what d.t d.now d.high=σ at V1 IF g1 g2 g3 g4 g5;generalize KR c d.what d.t d.now d.high=I4 at IF;repeat' first|refine Zx.aA (v:=va) ?_|constructor|exact ZQ|intro _
    all_goals apply zL
    obtain⟨sa,PL⟩:∃s,a[c.toNat]?=some s:=⟨_,List.getElem?_eq_getElem am⟩;rename_i pq;refine Vx.bB (own:=.sl va 1 (dj a)::.obj pq (.row [.ptr q 0,.ptr q' 0])::.sl vb 1 (dj b)::(eF (a.take c.toNat)++(eF (a.drop (c.toNat+1))++(eF (b.take c.toNat)++(eF (b.drop (c.toNat+1))++(lo++(ki++(ad m bl y (List.replicate (4096-N) (U 0))++(ai w vw y++[.obj p7 (.row (x.cs++[e])),.obj p1 (.row (s.cs u0))]))))))))) ?_ ?_
    .rw[gX PL,gX E9];simp only[@List.append_assoc Own,Xc.cs,Tw.cs,Lb.cs,Ar.cs,Ep.cs,X.Su.cs,hC,lA,lB];generalize ad m bl _ _=MM;generalize ai w vw _=RR;exact HQ
    refine Zx.ok (n:=false) (Zx.Uq (y:=.ptr q 0) L_.1 (by rw[jC];omega) rfl rfl ?_);rw[DO (s:=⟨⟨o,σ,0⟩,q,I4,lo⟩) rfl];repeat' first|refine Zx.aA (v:=vb) ?_|constructor|exact ZQ|intro _
    all_goals apply zL
    refine Vx.bB (own:=.sl vb 1 (dj b)::.sl va 1 (dj (a.set c.toNat (some ⟨⟨o,σ,0⟩,q,I4,lo⟩)))::(eF (a.take c.toNat)++(eF (a.drop (c.toNat+1))++(eF (b.take c.toNat)++(eF (b.drop (c.toNat+1))++(lo++(ki++(ad m bl y (List.replicate (4096-N) (U 0))++(ai w vw y++[.obj p7 (.row (x.cs++[e])),.obj p1 (.row (s.cs u0))]))))))))) ?_ ?_
    .generalize ad m bl _ _=MM;generalize ai w vw _=RR;exact HQ
    refine Zx.ok (n:=false) (Zx.Uq (y:=.ptr q' 0) L_.1 (by rw[jC];omega) rfl rfl ?_);rw[DO (s:=⟨⟨o,σ,0⟩,q',I4,ki⟩) rfl]
    (repeat' first|refine Zx.bV (v:=u) ?_|refine Zx.aA (v:=u) ?_|constructor|exact ZQ|intro _)
    all_goals apply zL
    refine Zx.ok (n:=false) (Zx.Ft mu am gZ (f:=0) (w:=I d.what) rfl ?_);repeat' first|refine Zx.aA (v:=vb) ?_|constructor|exact ZQ|intro _
    all_goals apply zL
    all_goals try(exfalso;omega)
    have h2:=tail (y,a.set c.toNat (some ⟨⟨o,σ,0⟩,q,I4,lo⟩),b.set c.toNat (some ⟨⟨o,σ,0⟩,q',I4,ki⟩)) ⟨Bc,Bf,by dsimp only;omega,by dsimp only;rw[List.length_set];exact UN,by
     dsimp only;rw[pX,pX,DN],hP.set ⟨V1,g1,g2,g3,g4⟩,hD.set ⟨IF,g1,g2,g3,g4⟩,λt ht=>by
     rcases List.mem_or_eq_of_mem_set ht with ht|ht;.exact xE t ht
     .cases ht;exact g5,λt ht=>by
     rcases List.mem_or_eq_of_mem_set ht with ht|ht;.exact Fb t ht
     .cases ht;exact g5⟩
    dsimp only at h2;refine Vx.bB ?_ (Vx.IQ (c:=c) ⟨L_.1,by rw[List.length_set];omega⟩ (by rw[pX,pX,DN]) (hP.set ⟨V1,g1,g2,g3,g4⟩) (hD.set ⟨IF,g1,g2,g3,g4⟩) Bc Bf E_ h2);rw[rB (l:=a) am,rB (l:=b) am];simp only[@List.append_assoc Own,so,Xc.cs,Tw.cs,Lb.cs,Ar.cs,Ep.cs,X.Su.cs,lA,lB];generalize ad m bl _ _=MM;generalize ai w vw _=RR;exact HQ
  .exact skip.it
 .refine Zx.ok (n:=false) (Zx.Ft mu am gZ (f:=0) (w:=I d.what) rfl ?_);repeat' first|refine Zx.aA (v:=vb) ?_|refine Zx.aA (v:=u) ?_|constructor|exact ZQ|intro _
  all_goals apply zL
  .refine Zx.ok (n:=false) (Zx.Ft mu am gZ (f:=6) (w:=d.pk) rfl ?_)
   (repeat' first|refine Zx.dK 48 ?_|constructor|exact ZQ|intro _)
   all_goals apply zL
   refine Vx.UH I3 am λr o1 o2 o3=>?_;refine Zx.ok (n:=false) ?_
   (repeat' first|refine Zx.bV (v:=u) ?_|refine Zx.aA (v:=u) ?_|constructor|exact ZQ|intro _)
   all_goals apply zL
   refine Zx.ok (n:=false) (Zx.Ft (List.Mem.tail _ mu) am gZ (f:=5) (w:=I d.most) rfl ?_);repeat' first|refine Zx.y9 ?_|constructor|exact ZQ|intro _
   all_goals apply zL
   refine Vx.Zo am ?_;have hmo:-301<d.most.tmod 301/\d.most.tmod 301<301:=by
    have e:=Int.tmod_eq_emod (a:=d.most) (b:=301);have e1:=Int.emod_nonneg d.most (by omega:(301:Int)≠0);have e2:=Int.emod_lt_of_pos d.most (by omega:0<(301:Int));have e3:((301:Int).natAbs:Int)=301:=rfl;split at e<;>omega
   generalize d.most.tmod 301=mo at hmo
   (repeat' first|refine Zx.dK 49 ?_|constructor|exact ZQ|intro _)
   all_goals apply zL
   refine Vx.bB (own:=.sl va 1 (dj a)::(eF a++(ad m bl y (List.replicate (4096-N) (U 0))++(.sl vb 1 (dj b)::(eF b++(ai w vw y++[.obj p7 (.row (x.cs++[e])),.obj p1 (.row (s.cs u0))])))))) ?_ ?_
   .simp only[Xc.cs,Tw.cs,Lb.cs,Ar.cs,Ep.cs,X.Su.cs,lA,lB];generalize ad m bl _ _=MM;generalize ai w vw _=RR;exact HQ
   refine Vx.spec (λB1 W1 S1 H=>E6 (x:=x) (v:=e) (N:=1000000+1000*i) (Ln:=N) K0 am hP.add xE Bc L9 Bf ⟨am,am,am⟩ (List.Mem.head _) am H) ?_;rintro _ _ ⟨a',rfl,ea,hPa,Zs,eva,rfl⟩
   (repeat' first|refine Zx.bV (v:=u) ?_|refine Zx.aA (v:=u) ?_|constructor|exact ZQ|intro _)
   all_goals apply zL
   refine Zx.ok (n:=false) (Zx.Ft (List.Mem.tail _ mu) am gZ (f:=6) (w:=d.pk) rfl ?_)
   (repeat' first|refine Zx.dK 50 ?_|constructor|exact ZQ|intro _)
   all_goals apply zL
   refine Vx.bB (own:=.sl vb 1 (dj b)::(eF b++(ai w vw y++(.sl va 1 (dj a)::(eF a'++(ad m bl (dm x d.p mo ⟨y,a.map co⟩).2.2.y (List.replicate (4096-N) (U 0))++[.obj p7 (.row (x.cs++[e])),.obj p1 (.row (s.cs u0))])))))) ?_ ?_
   .generalize ad m bl _ _=MM;generalize ai w vw _=RR;exact HQ
   refine Vx.spec (λB1 W1 S1 H=>E2 (x:=x) (v:=e) (N:=1000000+1000*i) (Ln:=N) K0 am hD.add Fb Bc L9 Bf ⟨am,am,am⟩ (List.Mem.tail _ I3) am H) ?_;rintro _ _ ⟨b',rfl,eb,hDb,Zt,evb,hG,rfl⟩;rw[DN] at hG eb⊢;generalize dm x d.p mo ⟨y,a.map co⟩=T at ea eb hG⊢;obtain⟨hG1,hG2,hG3⟩:=hG
   (repeat' first|refine Zx.bV (v:=u) ?_|refine Zx.aA (v:=u) ?_|constructor|exact ZQ|intro _)
   all_goals apply zL
   refine Zx.ok (n:=false) (Zx.Zp (List.Mem.tail _ mu) am gZ (f:=6) (w:=d.pk) rfl ?_);refine .G8 (.z (.of (Vx.spec (λB1 W1 S1 H=>UI (List.Mem.head _) (List.Mem.tail _ I3) am H) ?_)));rintro _ _ ⟨rfl,rfl⟩;repeat' first|refine Zx.aA (v:=vb) ?_|constructor|exact ZQ|intro _
   all_goals apply zL
   refine Vx.tl ?_;have hla:a'.length=C:=by have:=congrArg List.length eva;rw[jC,jC] at this;omega
   have UO:b'.map co=a'.map co:=eb.trans ea.symm;have h2:=tail (T.2.2.y,a',b') ⟨hG1,hG3,by dsimp only;omega,hla,UO,hPa.less,hDb.less,Zs,Zt⟩;dsimp only at h2;refine Vx.bB ?_ (Vx.IQ (c:=c) ⟨L_.1,am⟩ UO hPa.less hDb.less hG1 hG3 E_ h2);rw[eva,evb];simp only[Xc.cs,Tw.cs,Lb.cs,Ar.cs,Ep.cs,X.Su.cs,lA,lB];generalize ad m bl _ _=MM;generalize ai w vw _=RR;exact HQ
  .have h2:=tail (y,a,b) ⟨Bc,Bf,by dsimp only;omega,UN,DN,hP,hD,xE,Fb⟩;dsimp only at h2;exact Vx.IQ (c:=c) ⟨L_.1,am⟩ DN hP hD Bc Bf E_ h2
end
section
variable[kg]
open Go.ChangeShapes Go.WideShapes
section
variable{H:Type}{enc:TypeId×Value->H}{P:Program}{W:World}{base:Nat}
theorem PN {vs:List Value}(h:aE [some .i64] vs=true):∃n:Int,vs=[.int .i64 n]:=by
 match vs,h with
 |[v0],h=>
  simp only[aE,Bool.and_true] at h;cases v0<;>simp[qM] at h
  subst h;exact⟨_,rfl⟩
 |_::_::_,h=>simp[aE] at h
theorem yp:∀{L:List (List Value)},(∀vs∈L,aE [some .i64] vs=true)->∃l:List Int,L.map yo=ints l
 |[],_=>⟨[],rfl⟩
 |v::L,hL=>by obtain⟨n,rfl⟩:=PN (hL v ac);obtain⟨l,hl⟩:=yp (L:=L) λvs JR=>hL vs (by simp[JR]);exact⟨n::l,by simp only[List.map_cons,hl];rfl⟩
def UP (W:World)(v:Value):Prop:=
 (∃a,v=.slice a 0 0)\/∃(b off len cap:Nat) (C:Nat->List Value),v=.slice (some ⟨b,off,none⟩) len cap/\len<=cap/\cap<=maxLen/\b<W.heap.size/\
   ∀i,i<cap->aE [some .i64] (C i)=true/\(∀y∈C i,Fo y=true)/\∀(j:Nat) y,(C i)[j]?=some y->W.cell? ⟨b,off+i*1+j,none⟩=some y
theorem PO (a:Addr):a.add 0=a:=by unfold Addr.add;rw[if_pos rfl]
theorem K1 {a:Addr}{y:Value}(h:W.cell? a=some y):a.spot=none/\a.block<W.heap.size:=by
 unfold World.cell? at h;split at h
 .rename_i hh;split at h;.cases h
  .rename_i hs;refine⟨?_,(Array.getElem?_eq_some_iff.1 hh).1⟩;cases e:a.spot with
   |none=>rfl
   |some s=>rw[e] at hs;simp at hs
 .cases h
theorem IX {t e:TypeId}{d fuel:Nat}{cs:List Value}{x:DataW H×List MemPlace}(ht:P.underlying t=some (.slice e))(hf:fx P d e=some [some .i64])(hs:aQ P e=some 1)
  (h:DataW.trod enc P W 0 (λ_=>true) true fuel t cs=some x):∃v,cs=[v]/\UP W v:=by
 have dc:=jx hs;rcases DataW.trod_slice ht h with⟨rfl,_⟩|⟨a,len,cap,elems,rest,n,_,rfl,_,_,h2,h3,h4,h5,h6,_⟩;.exact⟨_,rfl,.inl ⟨none,rfl⟩⟩
 .refine⟨_,rfl,?_⟩;by_cases QB:cap=0
  .obtain rfl:len=0:=am;subst QB;exact .inl ⟨some a,rfl⟩
  obtain⟨h7,h8⟩:=h6 rfl;have gT:∀i,i<cap->∃y,(W.cells? 0 (a.add (i*P.cellsOf e)) (P.cellsOf e)).bind (DataW.trod enc P W 0 (λ_=>true) true n e)=some y:=by
   intro i hi;by_cases hl:i<len
   .rw[h5 i hl];exact⟨elems[i]' am,List.getElem?_eq_getElem am⟩
   .have:=h8 (i-len) am;rw[show len+(i-len)=i by omega] at this;rw[this];exact⟨rest[i-len]' am,List.getElem?_eq_getElem am⟩
  have WY:a.spot=none/\a.block<W.heap.size:=by obtain⟨y,hy⟩:=gT 0 am;rw[dc,Nat.zero_mul,PO] at hy;obtain⟨cs,hc,Qh⟩:=Option.bind_eq_some_iff.1 hy;obtain⟨_,M1,BW⟩:=World.cells?_some hc;have h0:=BW 0 am;rw[PO] at h0;rw[List.getElem?_eq_getElem am] at h0;exact K1 h0
  obtain⟨b,off,s⟩:=a;obtain⟨sL,hb⟩:=WY;dsimp only at sL hb;subst sL;have hex:∀i,∃C:List Value,i<cap->aE [some .i64] C=true/\(∀y∈C,Fo y=true)/\∀(j:Nat) y,C[j]?=some y->W.cell? ⟨b,off+i*1+j,none⟩=some y:=by
   intro i;by_cases hi:i<cap
   .obtain⟨y,hy⟩:=gT i hi;rw[dc] at hy;obtain⟨cs,hc,Qh⟩:=Option.bind_eq_some_iff.1 hy;obtain⟨_,M1,BW⟩:=World.cells?_some hc;obtain⟨q1,q2⟩:=rR d e [some .i64] hf hs n cs y Qh;refine⟨cs,λ_=>⟨q1,q2,λj z hz=>?_⟩⟩;have hj:j<1:=by have:=(List.getElem?_eq_some_iff.1 hz).1;omega
    rw[<-hz,<-BW j hj];obtain rfl:j=0:=am;rw[PO];unfold Addr.add;split;.next z=>rw[z];rfl
    .rfl
   .exact⟨[],λh=>absurd h hi⟩
  exact .inr ⟨b,off,len,cap,λi=>(hex i).choose,rfl,h2,h3,hb,λi hi=>(hex i).choose_spec hi⟩
theorem VL.at {ρ:Ren}:∀{bs:List AV} {xs:List Value},VL ρ bs xs->∀{i:Nat} {a:AV} {x:Value},bs[i]?=some a->xs[i]?=some x->V ρ a x
 |[],[],_,i,_,_,h,_=>by simp at h
 |a::bs,x::xs,.cons h1 h2,0,_,_,h3,h4=>by cases h3;cases h4;exact h1
 |a::bs,x::xs,.cons h1 h2,i+1,_,_,h3,h4=>VL.at h2 (i:=i) h3 h4
theorem VL.behind {ρ:Ren}:∀{a:List AV} {x:List Value} {bs:List AV} {xs:List Value},a.length=x.length->VL ρ (a++bs) (x++xs)->VL ρ bs xs
 |[],[],_,_,_,h=>h
 |_::a,_::x,_,_,hl,.cons _ h=>VL.behind (by simpa using hl) h
 |[],_::_,_,_,hl,_=>by simp at hl
 |_::_,[],_,_,hl,_=>by simp at hl
theorem Open.ko {S:AH}{ρ:Ren}{bs:List AV}{xs:List Value}(h:Open P W S ρ bs xs){v:Value}(hv:UP W v):∃(a:AV) (S':AH) (aT:Ren) (l:List Int),Open P W S' aT (a::bs) (v::xs)/\aR S S'/\iU S' a 1 (ints l):=by
 rcases hv with⟨a,rfl⟩|hv;.exact⟨.sc (.slice a 0 0),S,ρ,[],h.one (.sc rfl),aR.refl S,⟨.inl ⟨⟨_,rfl⟩,rfl⟩,by simp[dQ]⟩⟩
 .obtain⟨a,S',aT,L,h1,h2,h3,_,h5⟩:=h.slice (ks:=[some .i64]) (.inr hv);obtain⟨l,hl⟩:=yp λvs JR=>(h5 vs JR).1;rw[hl] at h3;exact⟨a,S',aT,l,h1,h2,h3⟩
theorem Open.many {S:AH}{ρ:Ren}{bs:List AV}{xs:List Value}(h:Open P W S ρ bs xs):∀{ws:List Value},(∀w∈ws,UP W w)->∃(S':AH) (aT:Ren) (A:List (AV×List Int)),Open P W S' aT (A.map (·.1)++bs) (ws++xs)/\aR S S'/\A.length=ws.length/\∀a∈A,iU S' a.1 1 (ints a.2)
 |[],_=>⟨S,ρ,[],h,aR.refl S,rfl,ac⟩
 |w::ws,hw=>by
  obtain⟨S1,jH,A,h1,h2,h3,h4⟩:=Open.many h (ws:=ws) λx hx=>hw x (by simp[hx]);obtain⟨a,S2,x9,l,g1,g2,g3⟩:=h1.ko (hw w ac);refine⟨S2,x9,(a,l)::A,g1,h2.trans g2,by simp[h3],λx hx=>?_⟩;rcases List.mem_cons.1 hx with rfl|hx;.exact g3
  .exact(h4 x hx).grow g2
def K3 (P:Program)(f:Field)(i:Nat):Bool:=f.offset==i&&P.cellsOf f.type==1&&(match P.underlying f.type with|some (.int .i64)=>true|_=>false)
def w8 (P:Program)(t tl:TypeId):Bool:=match P.underlying t with
 |some (.struct fs)=>(match fs.toList with
  |[f0,f1,f2,f3,f4,f5,f6]=>K3 P f0 0&&K3 P f1 1&&K3 P f2 2&&K3 P f3 3&&K3 P f4 4&&K3 P f5 5&&f6.offset==6&&f6.type==tl&&P.cellsOf tl==1&&P.cellsOf t==7
  |_=>false)
 |_=>false
theorem PR {f:Field}{i:Nat}(h:K3 P f i=true):f.offset=i/\P.cellsOf f.type=1/\P.underlying f.type=some (.int .i64):=by
 unfold K3 at h;simp only[Bool.and_eq_true,beq_iff_eq] at h;obtain⟨⟨h1,h2⟩,h3⟩:=h;refine⟨h1,h2,?_⟩;split at h3
 .assumption
 .cases h3
theorem Cz {t tl:TypeId}(hB:w8 P t tl=true):P.cellsOf t=7:=by
 unfold w8 at hB;split at hB
 .split at hB
  .simp only[Bool.and_eq_true,beq_iff_eq] at hB;exact hB.2
  .cases hB
 .cases hB
theorem Fc {t tl:TypeId}{fuel:Nat}{cs:List Value}{x:DataW H×List MemPlace}(hB:w8 P t tl=true)(h:DataW.trod enc P W 0 (λ_=>true) true fuel t cs=some x):
  ∃(N:List Int) (w:Value) (n:Nat) (y:DataW H×List MemPlace),cs=N.map (λn=>Value.int .i64 n)++[w]/\N.length=6/\DataW.trod enc P W 0 (λ_=>true) true n tl [w]=some y:=by
 unfold w8 at hB;split at hB;case h_2=>cases hB
 rename_i fs hu;split at hB;case h_2=>cases hB
 rename_i f0 f1 f2 f3 f4 f5 f6 hfs;simp only[Bool.and_eq_true,beq_iff_eq] at hB;obtain⟨⟨⟨⟨⟨⟨⟨⟨⟨g0,g1⟩,g2⟩,g3⟩,g4⟩,g5⟩,g6⟩,g7⟩,g8⟩,g9⟩:=hB;obtain⟨xs,n,_,_,hlen,hxl,wu⟩:=DataW.trod_struct hu h;rw[g9] at hlen;have dC:fs.size=7:=by rw[<-Array.length_toList,hfs];rfl
 have gZ:∀(i:Nat) (f:Field),[f0,f1,f2,f3,f4,f5,f6][i]?=some f->i<7->∃y,DataW.trod enc P W 0 (λ_=>true) true n f.type ((cs.drop f.offset).take (P.cellsOf f.type))=some y:=by intro i f hf hi;rw[wu i f (by rw[<-Array.getElem?_toList,hfs];exact hf)];exact⟨xs[i]' am,List.getElem?_eq_getElem am⟩
 match cs,hlen with
 |[c0,c1,c2,c3,c4,c5,c6],_=>
  have num:∀(i:Nat) (f:Field) (c:Value),K3 P f i=true->[f0,f1,f2,f3,f4,f5,f6][i]?=some f->i<7->([c0,c1,c2,c3,c4,c5,c6].drop i).take 1=[c]->∃n,c=.int .i64 n:=by intro i f c hk hf hi hc;obtain⟨k1,k2,k3⟩:=PR hk;obtain⟨y,hy⟩:=gZ i f hf hi;rw[k1,k2,hc] at hy;obtain⟨n,h1,_⟩:=DataW.trod_int k3 hy;exact⟨n,by cases h1;rfl⟩
  obtain⟨n0,rfl⟩:=num 0 f0 c0 g0 rfl am rfl;obtain⟨n1,rfl⟩:=num 1 f1 c1 g1 rfl am rfl;obtain⟨n2,rfl⟩:=num 2 f2 c2 g2 rfl am rfl;obtain⟨n3,rfl⟩:=num 3 f3 c3 g3 rfl am rfl;obtain⟨n4,rfl⟩:=num 4 f4 c4 g4 rfl am rfl;obtain⟨n5,rfl⟩:=num 5 f5 c5 g5 rfl am rfl;obtain⟨y,hy⟩:=gZ 6 f6 rfl am;rw[g6,g7,g8] at hy;exact⟨[n0,n1,n2,n3,n4,n5],c6,n,y,rfl,rfl,hy⟩
def Ma (W:World)(v:Value):Prop:=
 v=.slice none 0 0\/∃(b off len cap:Nat) (N:Nat->List Int) (w:Nat->Value),v=.slice (some ⟨b,off,none⟩) len cap/\len<=cap/\cap<=maxLen/\b<W.heap.size/\
  ∀i,i<cap->(N i).length=6/\UP W (w i)/\∀(j:Nat) y,((N i).map (λn=>Value.int .i64 n)++[w i])[j]?=some y->W.cell? ⟨b,off+i*7+j,none⟩=some y
theorem BZ {t e tl ti:TypeId}{d:Nat}{v:Value}{x:DataW H}{p:List MemPlace}(ht:P.underlying t=some (.slice e))(hB:w8 P e tl=true)(E3:P.underlying tl=some (.slice ti))(hf:fx P d ti=some [some .i64])(hs:aQ P ti=some 1)
  (gY:Value.okWide P W .any base t v) (h:DataW.Trod enc P W 0 (λ_=>true) true t v x p):Ma W v:=by
 obtain⟨fuel,hr⟩:=h;have dc:=Cz hB;rcases DataW.trod_slice ht hr with⟨h1,_⟩|⟨a,len,cap,elems,rest,n,_,h1,_,_,h2,h3,h4,h5,h6,_⟩
 .left;cases v<;>simp[Value.cells] at h1
  .obtain⟨rfl,rfl,rfl⟩:=h1;rfl
  .simp[Value.okWide,ht,Cell.okWide,Cell.ok] at gY
 .right;have hv:v=.slice (some a) len cap:=by
   cases v<;>simp[Value.cells] at h1
   .obtain⟨rfl,rfl,rfl⟩:=h1;rfl
   .simp[Value.okWide,ht,Cell.okWide,Cell.ok] at gY
  subst hv;have M0:W.has P .any base a e cap:=by simp only[Value.okWide,ht,Cell.okWide,Cell.ok] at gY;exact gY.2.2
  obtain⟨_,sL,row,cells,pJ,_⟩:=M0;obtain⟨b,off,s⟩:=a;simp only at sL;subst sL;have hb:b<W.heap.size:=by
   unfold World.shape? at pJ;split at pJ
   .rename_i hh;exact(Array.getElem?_eq_some_iff.1 hh).1
   .cases pJ
  obtain⟨h7,h8⟩:=h6 rfl;have gT:∀i,i<cap->∃y,(W.cells? 0 (Addr.add ⟨b,off,none⟩ (i*P.cellsOf e)) (P.cellsOf e)).bind (DataW.trod enc P W 0 (λ_=>true) true n e)=some y:=by
   intro i hi;by_cases hl:i<len
   .rw[h5 i hl];exact⟨elems[i]' am,List.getElem?_eq_getElem am⟩
   .have:=h8 (i-len) am;rw[show len+(i-len)=i by omega] at this;rw[this];exact⟨rest[i-len]' am,List.getElem?_eq_getElem am⟩
  have hex:∀i,∃q:List Int×Value,i<cap->q.1.length=6/\UP W q.2/\∀(j:Nat) y,(q.1.map (λn=>Value.int .i64 n)++[q.2])[j]?=some y->W.cell? ⟨b,off+i*7+j,none⟩=some y:=by
   intro i;by_cases hi:i<cap
   .obtain⟨y,hy⟩:=gT i hi;rw[dc] at hy;obtain⟨cs,hc,Qh⟩:=Option.bind_eq_some_iff.1 hy;obtain⟨_,M1,BW⟩:=World.cells?_some hc;obtain⟨N,w,n',y',rfl,hN,hw⟩:=Fc hB Qh;obtain⟨v,hv,hI⟩:=IX E3 hf hs hw;obtain rfl:w=v:=by cases hv;rfl
    refine⟨(N,w),λ_=>⟨hN,hI,λj z hz=>?_⟩⟩;have hj:j<7:=by have:=(List.getElem?_eq_some_iff.1 hz).1;simp[hN] at this;omega
    rw[<-hz,<-BW j hj];have e1:Addr.add (Addr.add ⟨b,off,none⟩ (i*7)) j=⟨b,off+i*7+j,none⟩:=by
     unfold Addr.add;by_cases z1:i*7=0
     .rw[if_pos z1];by_cases z2:j=0;.rw[if_pos z2,z1,z2];rfl
      .rw[if_neg z2,z1];rfl
     .rw[if_neg z1];by_cases z2:j=0;.rw[if_pos z2,z2];rfl
      .rw[if_neg z2]
    rw[e1]
   .exact⟨([],.slice none 0 0),λh=>absurd h hi⟩
  exact⟨b,off,len,cap,λi=>(hex i).choose.1,λi=>(hex i).choose.2,rfl,h2,h3,hb,λi hi=>(hex i).choose_spec hi⟩
def PS (N:List Int)(q:AV×List Int):Tn:=⟨N[0]?.getD 0,N[1]?.getD 0,N[2]?.getD 0,N[3]?.getD 0,N[4]?.getD 0,N[5]?.getD 0,q.1,q.2⟩
theorem K4 {N:List Int}{q:AV×List Int}(h:N.length=6):(PS N q).cs=N.map (λn=>AV.sc (.int .i64 n))++[q.1]:=by
 match N,h with
 |[_,_,_,_,_,_],_=>rfl
theorem Open.turns {S:AH}{ρ:Ren}{bs:List AV}{xs:List Value}(h:Open P W S ρ bs xs){v:Value}(hv:Ma W v):
  ∃(a:AV) (S':AH) (aT:Ren) (ts:List Tn),Open P W S' aT (a::bs) (v::xs)/\aR S S'/\iU S' a 7 (Cy ts)/\∀t∈ts,iU S' t.pk 1 (ints t.p):=by
 rcases hv with rfl|⟨b,off,len,cap,N,w,rfl,hle,hm,hb,hC⟩;.exact⟨Ns,S,ρ,[],h.one (.sc rfl),aR.refl S,⟨.inl ⟨⟨_,rfl⟩,rfl⟩,by simp[dQ]⟩,ac⟩
 .obtain⟨S1,jH,A,O1,Qi,hA,hAr⟩:=h.many (ws:=(List.range cap).map w) λx hx=>by obtain⟨i,hi,rfl⟩:=List.mem_map.1 hx;exact(hC i (List.mem_range.1 hi)).2.1
  rw[List.length_map,List.length_range] at hA;let f:Nat->Tn:=λi=>PS (N i) (A[i]?.getD (.no,[]))
  have hf:∀i,f i=PS (N i) (A[i]?.getD (.no,[])):=λi=>rfl;have hfc:∀i,i<cap->∃q,A[i]?=some q/\(f i).cs=(N i).map (λn=>AV.sc (.int .i64 n))++[q.1]:=λi hi=>by have L8:=List.getElem?_eq_getElem (l:=A) (i:=i) am;refine⟨A[i],L8,?_⟩;rw[hf,L8,K4 (hC i hi).1];rfl
  let c:List AV:=((List.range cap).map λi=>(f i).cs).flatten
  have hlen:∀x∈(List.range cap).map (λi=>(f i).cs),x.length=7:=by intro x hx;obtain⟨i,hi,rfl⟩:=List.mem_map.1 hx;rfl
  have dc:c.length=cap*7:=by show(List.flatten _).length=_;rw[bm hlen,List.length_map,List.length_range]
  have gZ:∀i,i<cap->((c.drop (i*7)).take 7)=(f i).cs:=λi hi=>iv hlen (by simp[hi]);obtain⟨h1,h2⟩:=O1.lay (l:=cap*7) hb (c:=c) (off:=off) λq v L8=>by
   have Z3:q<c.length:=(List.getElem?_eq_some_iff.1 L8).1;have hdm:=Nat.div_add_mod q 7;have BX:=Nat.mod_lt q (show 0<7 by omega);have hi:q/7<cap:=am;have hg:=gZ (q/7) hi;have zb:((f (q/7)).cs)[q%7]?=some v:=by rw[<-hg,List.getElem?_take,if_pos BX,List.getElem?_drop,<-L8];congr 1;omega
   obtain⟨u,hu,Lg⟩:=hfc (q/7) hi;rw[Lg] at zb;obtain⟨q1,q2,q3⟩:=hC _ hi;by_cases hj:q%7<6
   .rw[List.getElem?_append_left (by rw[List.length_map];omega),List.getElem?_map] at zb;obtain⟨x,hx,rfl⟩:=Option.map_eq_some_iff.1 zb;refine⟨.int .i64 x,?_,.sc rfl,rfl⟩;have:=q3 (q%7) (.int .i64 x) (by rw[List.getElem?_append_left (by rw[List.length_map];omega),List.getElem?_map,hx];rfl);rw[show off+q/7*7+q%7=off+q by omega] at this;exact this
   .have h6:q%7=6:=am;rw[h6,List.getElem?_append_right (by rw[List.length_map];omega),List.length_map,q1] at zb;cases zb;have hx:=q3 6 (w (q/7)) (by rw[List.getElem?_append_right (by rw[List.length_map];omega),List.length_map,q1];rfl);rw[show off+q/7*7+6=off+q by omega] at hx;have hV:=O1.v.at (i:=q/7) (a:=u.1) (x:=w (q/7)) (by rw[List.getElem?_append_left (by rw[List.length_map];omega),List.getElem?_map,hu];rfl) (by rw[List.getElem?_append_left (by rw[List.length_map,List.length_range];omega),List.getElem?_map,List.getElem?_range hi];rfl);refine⟨w (q/7),hx,hV,?_⟩;rcases q2 with⟨a,e⟩|⟨b',o',l',c',C',e,_⟩;.rw[e];rfl
    .rw[e];rfl
  have hV2:=VL.behind (by rw[List.length_map,List.length_map,List.length_range,hA]) h1.v;refine⟨.sl S1.next 0 len cap,_,_,(List.range len).map f,⟨h1.r,.cons (.sl (off:=0) (Ren.bG _ _ _)) hV2,h1.ro⟩,Qi.trans (aR.new S1 _),⟨.inr ⟨S1.next,0,c,.inl ⟨cap,?_,?_,?_⟩,?_,?_,?_⟩,?_⟩,?_⟩;.simpa[Cy] using hle
  .rw[dc];omega
  .simp[Cy]
  .unfold AH.cells?;rw[bk];rfl
  .rw[List.drop_zero,oH,List.length_map,List.length_range];have e1:(List.range cap).map (λi=>(f i).cs)=Cy ((List.range len).map f)++((List.range (cap-len)).map λj=>(f (len+j)).cs):=by
    have:List.range cap=List.range len++(List.range (cap-len)).map (λj=>len+j):=by rw[<-List.range_add];congr 1;omega
    unfold Cy;rw[this,List.map_append,List.map_map,List.map_map];rfl
   have Af:∀x∈Cy ((List.range len).map f),x.length=7:=λx hx=>hlen x (by rw[e1];exact List.mem_append.2 (.inl hx));show List.take (len*7) (List.flatten _)=_;rw[e1,List.flatten_append,List.take_append];have oS:(Cy ((List.range len).map f)).flatten.length=len*7:=by rw[bm Af,oH];simp
   rw[oS,Nat.sub_self,List.take_zero,List.append_nil,List.take_of_length_le am]
  .intro x hx;obtain⟨t,ht,rfl⟩:=List.mem_map.1 hx;rfl
  .intro id bQ;simp only[dQ,List.mem_singleton] at bQ;subst bQ;simp
  .intro t ht;obtain⟨i,hi,rfl⟩:=List.mem_map.1 ht;have hi:=List.mem_range.1 hi;have L8:=List.getElem?_eq_getElem (l:=A) (i:=i) am;have:=hAr A[i] (List.getElem_mem _);rw[hf,L8];exact this.grow (aR.new S1 _)
end
end
end Go.cO
