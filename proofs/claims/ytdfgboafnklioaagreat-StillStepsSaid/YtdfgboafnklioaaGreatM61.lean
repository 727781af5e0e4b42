/- Contracts. Conditions: in each theorem. -/
import Derived.Test.YtdfgboafnklioaaGreatM32
import Derived.Test.YtdfgboafnklioaaGreatM60
import Derived.Test.YtdfgboafnklioaaGreatM52
set_option linter.all false
set_option maxRecDepth 100000
set_option maxHeartbeats 4000000
namespace Go.cI
open Go.Proofs
def Xc.ex (x:Xc):X.Ex:=⟨⟨x.t.nd,x.t.hd,x.t.ht,x.t.l.a.f.top,x.t.l.a.f.eI,x.t.l.a.f.size,x.t.l.a.iY,x.t.l.a.iJ,x.t.l.a.Dk,x.t.l.e.cg,x.t.l.e.pins,x.t.l.e.ae,x.t.l.rP⟩,x.b5,x.many,x.j.bs,x.j.keys,x.j.f.top,x.j.f.eI,x.j.f.size,x.fZ,x.aI,x.room,x.r.runs,x.r.flags,x.r.ae,x.own,x.seq⟩
theorem Vx.E0 {M own ro Φ K v L}{es:Nat}{k}(hv:aF.sl v es L∈ro)(h:Zx M false (k (I L.length)) K own ro Φ):Vx M (.op (.len false v) k) K own ro Φ:=
 λB W S H=>gO H hv (h.ok B W S H)
theorem Vx.Y5 {M own ro Φ K v L c}{i:Int}{k}(hv:aF.sl v 4 L∈ro)(hi:0<=i)(hc:L[i.toNat]?=some c)(h4:c.length=4)(h:Zx M false (k (.agg c)) K own ro Φ):Vx M (.op (.dp 4 v (I i)) λp=>.op (.load 4 true p) k) K own ro Φ:=λB W S H=>by obtain⟨n,rfl⟩:∃n:Nat,i=n:=⟨i.toNat,am⟩;refine nA H hv (by simpa using hc) λid off H1=>?_;refine qz (off:=off) (j:=0) H1 (List.Mem.head _) am ?_;rw[List.drop_zero,List.take_of_length_le am];exact h.ok B W S H1.tl
theorem Zx.aX {M own ro Φ K v k}(h:bL (Vx M (.op (.len false v) k) K own ro Φ)):Zx M false (.op (.len false v) k) K own ro Φ:=.z h
section
variable{B0 S:AH}{W:List Nat}{R:List Own}{ro:List aF}{x:Xc}{v:AV}{l:List cX.Tk}{k c t now high:Int}{bad:Bool}
theorem jE (hv:aF.sl v 4 (cX.dm l)∈ro)(hs:x.ex.ok l)(H:Cx B0 W S R ro):
  aG EM (zF 173) [.agg (x.cs++[v]),I k,I c,B bad] S λu S'=>∃ab,(∃q,u=.ptr q 0/\ab=.obj q (.row (x.row k c Ns Ns 0 0 0 false 0 (if bad=true then 3 else 0)))::R)/\Cx B0 W S' ab ro:=by
 have hl:gl S v 4 (cX.dm l):=(H.eT hv).1;obtain⟨ov,cv⟩:=X.dC hl;simp only[Xc.cs,Tw.cs,Lb.cs,Ar.cs,Ep.cs,lA,lB,lC];refine y1 H rfl ?_;intros;refine Vx.spec (Ψ:=λu ab=>u=B true/\ab=_) (λB1 W1 S1 H=>ar (X.lG (e:=x.ex) hv H) λr S' h=>⟨_,⟨h.1.trans (congrArg B (decide_eq_true hs)),rfl⟩,H.grow h.2⟩) ?_;rintro _ _ ⟨rfl,rfl⟩;cases bad<;>(repeat' first|constructor|exact ZQ|intro _)<;>(all_goals first|exact ZM|try refine zL ?_)<;>exact⟨rfl,rfl,_,⟨_,rfl,rfl⟩,by simp only[Xc.row,Xc.cs,Tw.cs,Lb.cs,Ar.cs,Ep.cs,lA,lB,lC];exact HQ⟩
def dI (n:Nat)(t now:Int):Prop:=t<0\/n<=t\/now<0\/1099511627776<now
instance acg {n:Nat}{t now:Int}:Decidable (dI n t now):=inferInstanceAs (Decidable (_\/_))
theorem Zx.vR {M own ro Φ K args k}(h:bL (Vx M (.call (zF 174) args k) K own ro Φ)):Zx M false (.call (zF 174) args k) K own ro Φ:=.z h
instance ach:cA 175 where
def E1 (x:Xc)(o:Od)(σ:az)(R:List Own):AV->List Own->Prop:=λu ab=>∃q lo,u=.ptr q 0/\dR x o q 0 σ lo/\ab=lo++R
theorem lH {x o σ R own ro}{q:Nat}{lo}(h:dR x o q 0 σ lo)(hs:Hs own (lo++R)):gQ ro (E1 x o σ R) .ret [.ptr q 0] own ro:=⟨rfl,rfl,_,⟨q,lo,rfl,h,rfl⟩,hs⟩
def gx (n:Nat)(t now:Int):az:=if dI n t now then .d 0 0 3 false else .r1 .a
def r9 (l:List cX.Tk)(t:Int):cX.Tk:=l[t.toNat]?.getD ⟨0,0,0,0⟩
def mJ (l:List cX.Tk)(t now:Int):Od:=⟨1,0,t,(r9 l t).prio,(r9 l t).every,now,1⟩
theorem vS {l}{t:Int}(h0:0<=t)(h1:t<l.length):(cX.dm l)[t.toNat]?=some (r9 l t).cs:=by unfold cX.dm r9;rw[List.getElem?_map,List.getElem?_eq_getElem am];rfl
theorem E2 (hv:aF.sl v 4 (cX.dm l)∈ro)(hs:x.ex.ok l)(H:Cx B0 W S R ro):
  aG EM (zF 81) [.agg (x.cs++[v]),I t,I now] S λu S'=>∃ab,E1 x (mJ l t now) (gx l.length t now) R u ab/\Cx B0 W S' ab ro:=by
 have hl:gl S v 4 (cX.dm l):=(H.eT hv).1;obtain⟨ov,cv⟩:=X.dC hl;simp only[Xc.cs,Tw.cs,Lb.cs,Ar.cs,Ep.cs,lA,lB];refine Vx.fm H rfl ?_
 (repeat' first|refine Zx.aX (v:=v) ?_|constructor|exact ZQ|intro _)
 all_goals apply zL
 ·(
   have hb:dI l.length t now:=by unfold dI;omega
   refine Vx.spec (λB1 W1 S1 H=>jE hv hs H) ?_;rintro _ _ ⟨q,rfl,rfl⟩;simp only[Xc.row,Xc.cs,Tw.cs,Lb.cs,Ar.cs,Ep.cs,lA,lB,if_true];refine z1 ?_;rw[show gx l.length t now=.d 0 0 3 false from if_pos hb];exact lH (.d (aw:=0) .n (λh=>by cases h)) (by simp only[Xc.row,Xc.cs,Tw.cs,Lb.cs,Ar.cs,Ep.cs,lA,lB];exact HQ))
 refine Vx.E0 hv ?_;rw[cX.eB];refine z4 ?_ ?_ ?_ ?_<;>intros
 ·(
   have hb:dI l.length t now:=by unfold dI;omega
   refine Vx.spec (λB1 W1 S1 H=>jE hv hs H) ?_;rintro _ _ ⟨q,rfl,rfl⟩;simp only[Xc.row,Xc.cs,Tw.cs,Lb.cs,Ar.cs,Ep.cs,lA,lB,if_true];refine z1 ?_;rw[show gx l.length t now=.d 0 0 3 false from if_pos hb];exact lH (.d (aw:=0) .n (λh=>by cases h)) (by simp only[Xc.row,Xc.cs,Tw.cs,Lb.cs,Ar.cs,Ep.cs,lA,lB];exact HQ))
 ·(
   have hb:dI l.length t now:=by unfold dI;omega
   refine Vx.spec (λB1 W1 S1 H=>jE hv hs H) ?_;rintro _ _ ⟨q,rfl,rfl⟩;simp only[Xc.row,Xc.cs,Tw.cs,Lb.cs,Ar.cs,Ep.cs,lA,lB,if_true];refine z1 ?_;rw[show gx l.length t now=.d 0 0 3 false from if_pos hb];exact lH (.d (aw:=0) .n (λh=>by cases h)) (by simp only[Xc.row,Xc.cs,Tw.cs,Lb.cs,Ar.cs,Ep.cs,lA,lB];exact HQ))
 ·(
   have hb:dI l.length t now:=by unfold dI;omega
   refine Vx.spec (λB1 W1 S1 H=>jE hv hs H) ?_;rintro _ _ ⟨q,rfl,rfl⟩;simp only[Xc.row,Xc.cs,Tw.cs,Lb.cs,Ar.cs,Ep.cs,lA,lB,if_true];refine z1 ?_;rw[show gx l.length t now=.d 0 0 3 false from if_pos hb];exact lH (.d (aw:=0) .n (λh=>by cases h)) (by simp only[Xc.row,Xc.cs,Tw.cs,Lb.cs,Ar.cs,Ep.cs,lA,lB];exact HQ))
 have hb:¬dI l.length t now:=by unfold dI;omega
 refine Vx.spec (λB1 W1 S1 H=>jE hv hs H) ?_;rintro _ _ ⟨q,rfl,rfl⟩;simp only[Xc.row,Xc.cs,Tw.cs,Lb.cs,Ar.cs,Ep.cs,lA,lB,Bool.false_eq_true,if_false];refine z1 ?_;refine Vx.Y5 hv am (vS am am) rfl ?_;generalize hT:r9 l t=T;simp only[cX.Tk.cs]
 (repeat' first|refine Zx.vR ?_|constructor|exact ZQ|intro _)
 all_goals apply zL
 rename_i a b c d;refine Vx.aO (own:=.obj q (.row (x.row 1 0 Ns Ns 0 0 0 false 0 0))::.obj a (.row [.ptr q 0])::.obj c (.row [I t])::.obj b (.row [I T.kind,I T.prio,I T.every,I T.first])::.obj d (.row [I now])::R) (by simp only[Xc.row,Xc.cs,Tw.cs,Lb.cs,Ar.cs,Ep.cs,lA,lB];exact HQ) ?_;refine Vx.spec (λB1 W1 S1 H=>EP H) ?_;rintro _ _ ⟨sv,L,lo,rfl,hf,hc,rfl⟩;cases hc with
 |@mk yP sK Kg cls yR sL Ki YI p1 hp ht hl aZ=>
 refine z1 ?_;rw[show gx l.length t now=.r1 .a from if_neg hb];refine lH (lo:=_::_::_) (dR.r1 (t0:=T.kind) (t3:=T.first) (sv:=sv) (uv:=Ns) (i:=0) (key:=0) (aw:=0) (vx:=a) (vn:=c) (vt:=b) (vw:=d) hf rfl (.f hp) (bm.cons (p:=LU a q) ht (bm.cons (p:=NJ a b) ⟨p1,rfl,rfl⟩ (bm.cons (p:=DG a q) hl (bm.cons (p:=A8 a c q) aZ .nil))))) ?_;unfold mJ;rw[hT];simp only[lA,lB,List.append_nil,lC];exact HQ
def bu (x:Xc)(c high:Int):Prop:=c<0\/x.t.l.e.ae<=c\/high<1\/x.t.ht<high
instance aci {x}{c high:Int}:Decidable (bu x c high):=inferInstanceAs (Decidable (_\/_))
def aM (x:Xc)(k c high:Int):az:=if bu x c high then .d 0 0 3 false else .first k
def aY (k c high:Int):Od:=⟨k,c,0,0,0,0,high⟩
theorem tY (hx:x.ok)(hv:aF.sl v 4 (cX.dm l)∈ro)(hs:x.ex.ok l)(H:Cx B0 W S R ro):
  aG EM (zF 177) [.agg (x.cs++[v]),I k,I c,I high] S λu S'=>∃ab,(∃q,u=.ptr q 0/\ab=.obj q (.row (x.row k c Ns Ns 0 0 0 false 0 (if bu x c high then 3 else 0)))::R)/\Cx B0 W S' ab ro:=by
 have hl:gl S v 4 (cX.dm l):=(H.eT hv).1;obtain⟨ov,cv⟩:=X.dC hl;simp only[Xc.cs,Tw.cs,Lb.cs,Ar.cs,Ep.cs,lA,lB];refine Vx.fm H rfl ?_;have hr:x.r.ae=x.t.l.e.ae:=hx.2.2.2.2.2.2.2.1
 (repeat' first|constructor|exact ZQ|intro _)
 all_goals apply zL
 all_goals first
  |(have hb:bu x c high:=by unfold bu;omega
    refine Vx.spec (λB1 W1 S1 H=>jE hv hs H) ?_;rintro _ _ ⟨q,rfl,rfl⟩;rw[if_pos hb];simp only[if_true];refine z1 ?_;exact⟨rfl,rfl,_,⟨_,rfl,rfl⟩,HQ⟩)
  |(have hb:¬bu x c high:=by unfold bu;omega
    refine Vx.spec (λB1 W1 S1 H=>jE hv hs H) ?_;rintro _ _ ⟨q,rfl,rfl⟩;rw[if_neg hb];simp only[Bool.false_eq_true,if_false];refine z1 ?_;exact⟨rfl,rfl,_,⟨_,rfl,rfl⟩,HQ⟩)
instance acj {n:Nat}[Mn n [178,182,183,184]]:cA n where
theorem vT (hx:x.ok)(hv:aF.sl v 4 (cX.dm l)∈ro)(hs:x.ex.ok l)(H:Cx B0 W S R ro):
  aG EM (zF 85) [.agg (x.cs++[v]),I c] S λu S'=>∃ab,E1 x (aY 3 c 1) (aM x 3 c 1) R u ab/\Cx B0 W S' ab ro:=by
 (
  have hl:gl S v 4 (cX.dm l):=(H.eT hv).1;obtain⟨ov,cv⟩:=X.dC hl;simp only[Xc.cs,Tw.cs,Lb.cs,Ar.cs,Ep.cs,lA,lB];refine y1 H rfl ?_;intros;refine Vx.spec (λB1 W1 S1 H=>tY hx hv hs H) ?_;rintro _ _ ⟨q,rfl,rfl⟩)
 by_cases hb:bu x c 1
 ·(
   rw[if_pos hb,show aM x _ c _=.d 0 0 3 false from if_pos hb];simp only[Xc.row,Xc.cs,Tw.cs,Lb.cs,Ar.cs,Ep.cs,lA,lB];refine z1 ?_;exact lH (.d (aw:=0) .n (λh=>by cases h)) (by simp only[Xc.row,Xc.cs,Tw.cs,Lb.cs,Ar.cs,Ep.cs,lA,lB];exact HQ))
 .rw[if_neg hb,show aM x 3 c 1=.p1 from if_neg hb];simp only[Xc.row,Xc.cs,Tw.cs,Lb.cs,Ar.cs,Ep.cs,lA,lB]
  (repeat' first|refine Zx.vR ?_|constructor|exact ZQ|intro _)
  all_goals apply zL
  rename_i a;refine Vx.aO (own:=.obj q (.row (x.row 3 c Ns Ns 0 0 0 false 0 0))::.obj a (.row [.ptr q 0])::R) (by simp only[Xc.row,Xc.cs,Tw.cs,Lb.cs,Ar.cs,Ep.cs,lA,lB];exact HQ) ?_;refine Vx.spec (λB1 W1 S1 H=>EK H) ?_;rintro _ _ ⟨sv,L,lo,rfl,hf,hc,rfl⟩;cases hc with
  |@mk p1 p2 p3=>
  refine z1 ?_;refine lH (lo:=_::_::_) (dR.p1 (o:=aY 3 c 1) (sv:=sv) (uv:=Ns) (i:=0) (key:=0) (aw:=0) (vx:=a) (p1:=p1) (a1:=p2) (b1:=p3) hf .nil) ?_;simp only[lA,lB,List.append_nil,lC];exact HQ
theorem sT (hx:x.ok)(hv:aF.sl v 4 (cX.dm l)∈ro)(hs:x.ex.ok l)(H:Cx B0 W S R ro):
  aG EM (zF 87) [.agg (x.cs++[v]),I c,I high] S λu S'=>∃ab,E1 x (aY 4 c high) (aM x 4 c high) R u ab/\Cx B0 W S' ab ro:=by
 (
  have hl:gl S v 4 (cX.dm l):=(H.eT hv).1;obtain⟨ov,cv⟩:=X.dC hl;simp only[Xc.cs,Tw.cs,Lb.cs,Ar.cs,Ep.cs,lA,lB];refine y1 H rfl ?_;intros;refine Vx.spec (λB1 W1 S1 H=>tY hx hv hs H) ?_;rintro _ _ ⟨q,rfl,rfl⟩)
 by_cases hb:bu x c high
 ·(
   rw[if_pos hb,show aM x _ c _=.d 0 0 3 false from if_pos hb];simp only[Xc.row,Xc.cs,Tw.cs,Lb.cs,Ar.cs,Ep.cs,lA,lB];refine z1 ?_;exact lH (.d (aw:=0) .n (λh=>by cases h)) (by simp only[Xc.row,Xc.cs,Tw.cs,Lb.cs,Ar.cs,Ep.cs,lA,lB];exact HQ))
 .rw[if_neg hb,show aM x 4 c high=.s1 from if_neg hb];simp only[Xc.row,Xc.cs,Tw.cs,Lb.cs,Ar.cs,Ep.cs,lA,lB];have uL:=hx;unfold Xc.ok Tw.ok Lb.ok Ep.ok Rs.ok at uL;have zp:=hb;unfold bu at zp
  (repeat' first|refine Zx.vR ?_|constructor|exact ZQ|intro _)
  all_goals apply zL
  rename_i a b d;refine Vx.aO (own:=.obj q (.row (x.row 4 c Ns Ns 0 0 0 false 0 0))::.obj a (.row [.ptr q 0])::.obj b (.row [I high])::.obj d (.row [I (x.r.flags+c)])::R) (by simp only[Xc.row,Xc.cs,Tw.cs,Lb.cs,Ar.cs,Ep.cs,lA,lB];exact HQ) ?_;refine Vx.spec (λB1 W1 S1 H=>EL ⟨am,am⟩ H) ?_;rintro _ _ ⟨sv,L,lo,rfl,hf,hc,rfl⟩;cases hc with
  |@mk p1 p2 p3 f1 s1 a1 w1=>
  refine z1 ?_;refine lH (lo:=_::_::_) (dR.s1 (o:=aY 4 c high) (sv:=sv) (uv:=Ns) (i:=0) (key:=0) (aw:=0) (vx:=a) (vh:=b) (vf:=d) (p1:=f1) hf (bm.cons (p:=b6 (x.r.flags+c) 0) ⟨s1,a1,w1,rfl,rfl⟩ (bm.cons (p:=Cr a b q) ⟨p1,p2,p3,rfl,rfl⟩ .nil))) ?_;simp only[lA,lB,List.append_nil,lC];exact HQ
theorem vU (hx:x.ok)(hv:aF.sl v 4 (cX.dm l)∈ro)(hs:x.ex.ok l)(H:Cx B0 W S R ro):
  aG EM (zF 89) [.agg (x.cs++[v]),I c] S λu S'=>∃ab,E1 x (aY 5 c 1) (aM x 5 c 1) R u ab/\Cx B0 W S' ab ro:=by
 (
  have hl:gl S v 4 (cX.dm l):=(H.eT hv).1;obtain⟨ov,cv⟩:=X.dC hl;simp only[Xc.cs,Tw.cs,Lb.cs,Ar.cs,Ep.cs,lA,lB];refine y1 H rfl ?_;intros;refine Vx.spec (λB1 W1 S1 H=>tY hx hv hs H) ?_;rintro _ _ ⟨q,rfl,rfl⟩)
 by_cases hb:bu x c 1
 ·(
   rw[if_pos hb,show aM x _ c _=.d 0 0 3 false from if_pos hb];simp only[Xc.row,Xc.cs,Tw.cs,Lb.cs,Ar.cs,Ep.cs,lA,lB];refine z1 ?_;exact lH (.d (aw:=0) .n (λh=>by cases h)) (by simp only[Xc.row,Xc.cs,Tw.cs,Lb.cs,Ar.cs,Ep.cs,lA,lB];exact HQ))
 .rw[if_neg hb,show aM x 5 c 1=.c1 from if_neg hb];simp only[Xc.row,Xc.cs,Tw.cs,Lb.cs,Ar.cs,Ep.cs,lA,lB]
  (repeat' first|refine Zx.vR ?_|constructor|exact ZQ|intro _)
  all_goals apply zL
  rename_i a;refine Vx.aO (own:=.obj q (.row (x.row 5 c Ns Ns 0 0 0 false 0 0))::.obj a (.row [.ptr q 0])::R) (by simp only[Xc.row,Xc.cs,Tw.cs,Lb.cs,Ar.cs,Ep.cs,lA,lB];exact HQ) ?_;have zp:=hb;unfold bu at zp;have uL:=hx;unfold Xc.ok Tw.ok Lb.ok Ep.ok Rs.ok at uL;refine Vx.spec (λB1 W1 S1 H=>Cp ⟨am,am,am,am⟩ H) ?_;rintro _ _ ⟨sv,L,lo,rfl,hf,hc,rfl⟩;cases hc with
  |@mk I5 sK NH yO I6 sL log yQ s1 a1 w1 s2 a2 w2 p1 p2 p3 ha ht hg zq=>
  refine z1 ?_;refine lH (lo:=_::_::_) (dR.c1 (o:=aY 5 c 1) (sv:=sv) (uv:=Ns) (i:=0) (key:=0) (aw:=0) (vx:=a) (p1:=p1) (a1:=p2) (b1:=p3) hf (bm.cons (p:=So q) ha (bm.cons (p:=dg 4 5 q) ht (bm.cons (p:=b6 (x.own+c) 0) ⟨s1,a1,w1,rfl,rfl⟩ (bm.cons (p:=b6 (x.r.runs+c) 18446744073709551615) ⟨s2,a2,w2,rfl,rfl⟩ (bm.cons (p:=oH q) hg (bm.cons (p:=iw q) zq .nil))))))) ?_;simp only[lA,lB,List.append_nil,lC];exact HQ
theorem vV (hx:x.ok)(hv:aF.sl v 4 (cX.dm l)∈ro)(hs:x.ex.ok l)(H:Cx B0 W S R ro):
  aG EM (zF 83) [.agg (x.cs++[v]),I c,I high] S λu S'=>∃ab,E1 x (aY 2 c high) (aM x 2 c high) R u ab/\Cx B0 W S' ab ro:=by
 (
  have hl:gl S v 4 (cX.dm l):=(H.eT hv).1;obtain⟨ov,cv⟩:=X.dC hl;simp only[Xc.cs,Tw.cs,Lb.cs,Ar.cs,Ep.cs,lA,lB];refine y1 H rfl ?_;intros;refine Vx.spec (λB1 W1 S1 H=>tY hx hv hs H) ?_;rintro _ _ ⟨q,rfl,rfl⟩)
 by_cases hb:bu x c high
 ·(
   rw[if_pos hb,show aM x _ c _=.d 0 0 3 false from if_pos hb];simp only[Xc.row,Xc.cs,Tw.cs,Lb.cs,Ar.cs,Ep.cs,lA,lB];refine z1 ?_;exact lH (.d (aw:=0) .n (λh=>by cases h)) (by simp only[Xc.row,Xc.cs,Tw.cs,Lb.cs,Ar.cs,Ep.cs,lA,lB];exact HQ))
 .rw[if_neg hb,show aM x 2 c high=.t1 .a from if_neg hb];simp only[Xc.row,Xc.cs,Tw.cs,Lb.cs,Ar.cs,Ep.cs,lA,lB];have uL:=hx;unfold Xc.ok Tw.ok Lb.ok Ep.ok Rs.ok at uL;have zp:=hb;unfold bu at zp
  (repeat' first|refine Zx.vR ?_|constructor|exact ZQ|intro _)
  all_goals apply zL
  rename_i a b d;refine Vx.aO (own:=.obj q (.row (x.row 2 c Ns Ns 0 0 0 false 0 0))::.obj a (.row [.ptr q 0])::.obj d (.row [I (x.ring c).head,I (x.ring c).tail,I (x.ring c).eK,I (x.ring c).size])::.obj b (.row [I high])::R) (by simp only[Xc.ring,Xc.row,Xc.cs,Tw.cs,Lb.cs,Ar.cs,Ep.cs,lA,lB];exact HQ) ?_;refine Vx.spec (λB1 W1 S1 H=>EO (r:=x.ring c) H) ?_;rintro _ _ ⟨sv,uv,L,U',lo,rfl,hf,hc,rfl⟩;cases hc with
  |@mk YE I5 sK yP YF yO Kh YG I6 sL yR YH yQ Kj hf1 ha ht hp hd zq hu=>
  refine z1 ?_;refine lH (lo:=_::_::_) (dR.t1 (o:=aY 2 c high) (sv:=sv) (uv:=uv) (i:=0) (key:=0) (aw:=0) (vx:=a) (vb:=d) hf (.f hf1) (bm.cons (p:=dg 3 2 q) hu .nil) (bm.cons (p:=LV a q) ha (bm.cons (p:=dg 2 3 q) ht (bm.cons (p:=DH a high q) hp (bm.cons (p:=vF d a q) hd (bm.cons (p:=iw q) zq .nil)))))) ?_;simp only[lA,lB,List.append_nil,lC];exact HQ
end
theorem vW:∀{l} {i:Nat} {T},cX.jD l=0->l[i]?=some T->cX.wY T=0
 |[],i,T,_,h=>by simp at h
 |y::l,0,T,h0,h=>by
  injection h with h;subst h;unfold cX.jD at h0;split at h0
  .assumption
  .exact h0
 |y::l,i+1,T,h0,h=>by
  unfold cX.jD at h0;split at h0;.exact vW h0 h
  .exact absurd h0 ci
theorem L4 {e:X.Ex}{l:List cX.Tk}{t:Int}(hs:e.ok l)(h0:0<=t)(h1:t<l.length):(0<=(r9 l t).prio/\(r9 l t).prio<=254)/\0<=(r9 l t).every/\(r9 l t).every<=1099511627776:=by
 have hc:=hs.2.1;unfold cX.mR at hc;split at hc;.cases hc
 have hg:l[t.toNat]?=some (r9 l t):=by unfold r9;rw[List.getElem?_eq_getElem am];rfl
 have h2:=vW hc hg;unfold cX.wY at h2;split at h2;.cases h2
 split at h2;.cases h2
 .omega
theorem Xc.ra {x:Xc}{l:List cX.Tk}(hs:x.ex.ok l):x.many=l.length:=hs.2.2.2.1
theorem Ii {x:Xc}{l:List cX.Tk}{t now:Int}(hx:x.ok)(hs:x.ex.ok l)(hb:¬dI l.length t now):(mJ l t now).ok x:=by have hm:=Xc.ra hs;unfold dI at hb;have hT2:=L4 (t:=t) hs am am;unfold Xc.ok Tw.ok Lb.ok Ep.ok at hx;unfold Od.ok mJ;dsimp only;refine⟨am,am,λ_=>?_⟩;omega
theorem je {x}{k c high:Int}(hk:k≠1)(hb:¬bu x c high):(aY k c high).ok x:=by unfold bu at hb;unfold Od.ok aY;dsimp only;exact⟨am,am,λh=>absurd h hk⟩
instance ack:cA 179 where
section
variable{B0 S:AH}{W:List Nat}{R:List Own}{ro:List aF}{x:Xc}{v:AV}{l:List cX.Tk}{k c t now high:Int}{bad:Bool}
def xN (x:Xc)(o:Od)(tv:AV)(hg:Int)(σ:az)(R:List Own):AV->List Own->Prop:=λu ab=>∃q lo,u=.ptr q 0/\bH x o tv hg q 0 σ lo/\ab=lo++R
theorem jF {o tv}{hg:Int}{σ own}{q:Nat}{lo}(h:bH x o tv hg q 0 σ lo)(hs:Hs own (lo++R)):gQ ro (xN x o tv hg σ R) .ret [.ptr q 0] own ro:=⟨rfl,rfl,_,⟨q,lo,rfl,h,rfl⟩,hs⟩
theorem sU (hx:x.ok)(hv:aF.sl v 4 (cX.dm l)∈ro)(hs:x.ex.ok l)(H:Cx B0 W S R ro):
  aG EM (zF 86) [.agg (x.cs++[v]),I c] S λu S'=>∃ab,xN x (aY 3 c 1) v 1 (aM x 3 c 1) R u ab/\Cx B0 W S' ab ro:=by
 (
  have hl:gl S v 4 (cX.dm l):=(H.eT hv).1;obtain⟨ov,cv⟩:=X.dC hl;have hr:x.aI=x.t.l.e.ae:=hx.2.2.2.2.2.2.1;simp only[Xc.b7,Xc.ring,Xc.cs,Tw.cs,Lb.cs,Ar.cs,Ep.cs,lA,lB,lC];refine y1 H rfl ?_;intros;refine Vx.spec (Ψ:=λu ab=>u=B true/\ab=_) (λB1 W1 S1 H=>ar (X.eC (e:=x.ex) hv H) λr S' h=>⟨_,⟨h.1.trans (congrArg B (decide_eq_true hs)),rfl⟩,H.grow h.2⟩) ?_;rintro _ _ ⟨rfl,rfl⟩)
 refine z4 ?_ ?_ ?_ ?_<;>intros
 all_goals first
  |(
    have hb:bu x c 1:=by unfold bu;omega
    rw[show aM x 3 c 1=.d 0 0 3 false from if_pos hb];exact jF (.d (o:=aY 3 c 1) (i':=0) (w':=0) (λh=>by cases h)) (by simp only[Xc.b7,Xc.ring,Xc.cs,Tw.cs,Lb.cs,Ar.cs,Ep.cs,lA,lB,lC];exact HQ))
  |(have hb:¬bu x c 1:=by unfold bu;omega
    rw[show aM x 3 c 1=.p1 from if_neg hb];exact jF (.p1 (o:=aY 3 c 1) (i:=0) (w:=0) rfl) (by simp only[Xc.b7,Xc.ring,Xc.cs,Tw.cs,Lb.cs,Ar.cs,Ep.cs,lA,lB,lC];exact HQ))
theorem rb (hx:x.ok)(hv:aF.sl v 4 (cX.dm l)∈ro)(hs:x.ex.ok l)(H:Cx B0 W S R ro):
  aG EM (zF 88) [.agg (x.cs++[v]),I c,I high] S λu S'=>∃ab,xN x (aY 4 c high) v high (aM x 4 c high) R u ab/\Cx B0 W S' ab ro:=by
 (
  have hl:gl S v 4 (cX.dm l):=(H.eT hv).1;obtain⟨ov,cv⟩:=X.dC hl;have hr:x.aI=x.t.l.e.ae:=hx.2.2.2.2.2.2.1;simp only[Xc.b7,Xc.ring,Xc.cs,Tw.cs,Lb.cs,Ar.cs,Ep.cs,lA,lB,lC];refine y1 H rfl ?_;intros;refine Vx.spec (Ψ:=λu ab=>u=B true/\ab=_) (λB1 W1 S1 H=>ar (X.eC (e:=x.ex) hv H) λr S' h=>⟨_,⟨h.1.trans (congrArg B (decide_eq_true hs)),rfl⟩,H.grow h.2⟩) ?_;rintro _ _ ⟨rfl,rfl⟩)
 (repeat' first|constructor|exact ZQ|intro _)
 all_goals apply zL
 all_goals first
  |(
    have hb:bu x c high:=by unfold bu;omega
    rw[show aM x 4 c high=.d 0 0 3 false from if_pos hb];exact jF (.d (o:=aY 4 c high) (i':=0) (w':=0) (λh=>by cases h)) (by simp only[Xc.b7,Xc.ring,Xc.cs,Tw.cs,Lb.cs,Ar.cs,Ep.cs,lA,lB,lC];exact HQ))
  |(have hb:¬bu x c high:=by unfold bu;omega
    rw[show aM x 4 c high=.s1 from if_neg hb];exact jF (.s1 (o:=aY 4 c high) (i:=0) (w:=0) rfl rfl) (by simp only[Xc.b7,Xc.ring,Xc.cs,Tw.cs,Lb.cs,Ar.cs,Ep.cs,lA,lB,lC];exact HQ))
theorem tz (hx:x.ok)(hv:aF.sl v 4 (cX.dm l)∈ro)(hs:x.ex.ok l)(H:Cx B0 W S R ro):
  aG EM (zF 90) [.agg (x.cs++[v]),I c] S λu S'=>∃ab,xN x (aY 5 c 1) v 1 (aM x 5 c 1) R u ab/\Cx B0 W S' ab ro:=by
 (
  have hl:gl S v 4 (cX.dm l):=(H.eT hv).1;obtain⟨ov,cv⟩:=X.dC hl;have hr:x.aI=x.t.l.e.ae:=hx.2.2.2.2.2.2.1;simp only[Xc.b7,Xc.ring,Xc.cs,Tw.cs,Lb.cs,Ar.cs,Ep.cs,lA,lB,lC];refine y1 H rfl ?_;intros;refine Vx.spec (Ψ:=λu ab=>u=B true/\ab=_) (λB1 W1 S1 H=>ar (X.eC (e:=x.ex) hv H) λr S' h=>⟨_,⟨h.1.trans (congrArg B (decide_eq_true hs)),rfl⟩,H.grow h.2⟩) ?_;rintro _ _ ⟨rfl,rfl⟩)
 refine z4 ?_ ?_ ?_ ?_<;>intros
 all_goals first
  |(
    have hb:bu x c 1:=by unfold bu;omega
    rw[show aM x 5 c 1=.d 0 0 3 false from if_pos hb];exact jF (.d (o:=aY 5 c 1) (i':=0) (w':=0) (λh=>by cases h)) (by simp only[Xc.b7,Xc.ring,Xc.cs,Tw.cs,Lb.cs,Ar.cs,Ep.cs,lA,lB,lC];exact HQ))
  |(have hb:¬bu x c 1:=by unfold bu;omega
    rw[show aM x 5 c 1=.c1 from if_neg hb];exact jF (.c1 (o:=aY 5 c 1) (i:=0) (w:=0) rfl) (by simp only[Xc.b7,Xc.ring,Xc.cs,Tw.cs,Lb.cs,Ar.cs,Ep.cs,lA,lB,lC];exact HQ))
theorem sV (hx:x.ok)(hv:aF.sl v 4 (cX.dm l)∈ro)(hs:x.ex.ok l)(H:Cx B0 W S R ro):
  aG EM (zF 84) [.agg (x.cs++[v]),I c,I high] S λu S'=>∃ab,xN x (aY 2 c high) v high (aM x 2 c high) R u ab/\Cx B0 W S' ab ro:=by
 have uL:=hx;unfold Xc.ok Tw.ok Lb.ok Ep.ok Rs.ok at uL;have em:¬(0<=c/\c<x.aI)\/(0<=c*(x.room+2)/\c*(x.room+2)<=1134):=by
  by_cases h:0<=c/\c<x.aI
  .refine .inr ⟨Int.mul_nonneg am am,?_⟩;have:=Int.mul_le_mul (show c<=63 by omega) (show x.room+2<=18 by omega) am am;omega
  .exact .inl h
 (
  have hl:gl S v 4 (cX.dm l):=(H.eT hv).1;obtain⟨ov,cv⟩:=X.dC hl;have hr:x.aI=x.t.l.e.ae:=hx.2.2.2.2.2.2.1;simp only[Xc.b7,Xc.ring,Xc.cs,Tw.cs,Lb.cs,Ar.cs,Ep.cs,lA,lB,lC];refine y1 H rfl ?_;intros;refine Vx.spec (Ψ:=λu ab=>u=B true/\ab=_) (λB1 W1 S1 H=>ar (X.eC (e:=x.ex) hv H) λr S' h=>⟨_,⟨h.1.trans (congrArg B (decide_eq_true hs)),rfl⟩,H.grow h.2⟩) ?_;rintro _ _ ⟨rfl,rfl⟩)
 (repeat' first|constructor|exact ZQ|intro _)
 all_goals apply zL
 all_goals first
  |(
    have hb:bu x c high:=by unfold bu;omega
    rw[show aM x 2 c high=.d 0 0 3 false from if_pos hb];exact jF (.d (o:=aY 2 c high) (i':=0) (w':=0) (λh=>by cases h)) (by simp only[Xc.b7,Xc.ring,Xc.cs,Tw.cs,Lb.cs,Ar.cs,Ep.cs,lA,lB,lC];exact HQ))
  |skip
 have hb:¬bu x c high:=by unfold bu;omega
 rw[show aM x 2 c high=.t1 .a from if_neg hb];exact jF (lo:=_::_) (.t1 (o:=aY 2 c high) (i:=0) (w:=0) rfl rfl (.a (h:=0) (v:=0)) rfl) (by simp only[Xc.b7,Xc.ring,Xc.cs,Tw.cs,Lb.cs,Ar.cs,Ep.cs,lA,lB,lC];simp only[Rn.cs,aY,lA,lB];exact HQ)
theorem CF (hx:x.ok)(hv:aF.sl v 4 (cX.dm l)∈ro)(hs:x.ex.ok l)(H:Cx B0 W S R ro):
  aG EM (zF 82) [.agg (x.cs++[v]),I t,I now] S λu S'=>∃ab,xN x (mJ l t now) v 0 (gx l.length t now) R u ab/\Cx B0 W S' ab ro:=by
 (
  have hl:gl S v 4 (cX.dm l):=(H.eT hv).1;obtain⟨ov,cv⟩:=X.dC hl;have hr:x.aI=x.t.l.e.ae:=hx.2.2.2.2.2.2.1;simp only[Xc.b7,Xc.ring,Xc.cs,Tw.cs,Lb.cs,Ar.cs,Ep.cs,lA,lB,lC];refine y1 H rfl ?_;intros;refine Vx.spec (Ψ:=λu ab=>u=B true/\ab=_) (λB1 W1 S1 H=>ar (X.eC (e:=x.ex) hv H) λr S' h=>⟨_,⟨h.1.trans (congrArg B (decide_eq_true hs)),rfl⟩,H.grow h.2⟩) ?_;rintro _ _ ⟨rfl,rfl⟩)
 (repeat' first|refine Zx.aX (v:=v) ?_|constructor|exact ZQ|intro _)
 all_goals apply zL
 .have hb:dI l.length t now:=by unfold dI;omega
  rw[show gx l.length t now=.d 0 0 3 false from if_pos hb];exact jF (.d (o:=mJ l t now) (i':=0) (w':=0) (λh=>by cases h)) (by simp only[Xc.b7,Xc.ring,Xc.cs,Tw.cs,Lb.cs,Ar.cs,Ep.cs,lA,lB,lC];exact HQ)
 refine Vx.E0 hv ?_;rw[cX.eB];refine z4 ?_ ?_ ?_ ?_<;>intros
 all_goals first
  |(have hb:dI l.length t now:=by unfold dI;omega
    rw[show gx l.length t now=.d 0 0 3 false from if_pos hb];exact jF (.d (o:=mJ l t now) (i':=0) (w':=0) (λh=>by cases h)) (by simp only[Xc.b7,Xc.ring,Xc.cs,Tw.cs,Lb.cs,Ar.cs,Ep.cs,lA,lB,lC];exact HQ))
  |skip
 have hb:¬dI l.length t now:=by unfold dI;omega
 have hT2:=L4 (t:=t) hs am am;rw[show gx l.length t now=.r1 .a from if_neg hb];generalize hT:r9 l t=T at hT2;have hm:=Xc.ra hs;have uL:=hx;unfold Xc.ok Tw.ok Lb.ok Ep.ok Rs.ok at uL;unfold dI at hb;refine Vx.ldT hv am (vS am am) (z:=I T.every) (by rw[hT];rfl) ?_;refine z1 ?_;intros;rw[show T.every%18446744073709551616=T.every by omega,show now%18446744073709551616=now by omega];exact jF (lo:=_::_) (.r1 (o:=mJ l t now) (i:=0) (w:=0) rfl (.a (w:=0)) rfl) (by unfold mJ;rw[hT];simp only[Xc.b7,Xc.ring,Xc.cs,Tw.cs,Lb.cs,Ar.cs,Ep.cs,lA,lB,lC];exact HQ)
end
end Go.cI
