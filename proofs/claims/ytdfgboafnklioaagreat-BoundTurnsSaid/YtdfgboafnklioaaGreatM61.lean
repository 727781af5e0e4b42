/- Contracts. Conditions: in each theorem. -/
import Derived.Test.YtdfgboafnklioaaGreatM32
import Derived.Test.YtdfgboafnklioaaGreatM60
import Derived.Test.YtdfgboafnklioaaGreatM52
set_option linter.all false
set_option maxRecDepth 100000
set_option maxHeartbeats 4000000
namespace Go.cO
open Go.Proofs
def Xc.ex (x:Xc):X.Ex:=⟨⟨x.t.nd,x.t.hd,x.t.ht,x.t.l.a.f.top,x.t.l.a.f.gp,x.t.l.a.f.size,x.t.l.a.km,x.t.l.a.lW,x.t.l.a.Fq,x.t.l.e.cb,x.t.l.e.pins,x.t.l.e.ah,x.t.l.vd⟩,x.cn,x.many,x.j.bE,x.j.keys,x.j.f.top,x.j.f.gp,x.j.f.size,x.iW,x.aJ,x.room,x.r.runs,x.r.flags,x.r.ah,x.own,x.seq⟩
theorem Vx.A1 {M own ro Φ K v L}{es:Nat}{k}(hv:aB.sl v es L∈ro)(h:Zx M false (k (I L.length)) K own ro Φ):Vx M (.op (.len false v) k) K own ro Φ:=
 λB W S H=>iu H hv (h.ok B W S H)
theorem Vx.YS {M own ro Φ K v L c}{i:Int}{k}(hv:aB.sl v 4 L∈ro)(hi:0<=i)(hc:L[i.toNat]?=some c)(h4:c.length=4)(h:Zx M false (k (.agg c)) K own ro Φ):Vx M (.op (.da 4 v (I i)) λp=>.op (.load 4 true p) k) K own ro Φ:=λB W S H=>by obtain⟨n,rfl⟩:∃n:Nat,i=n:=⟨i.toNat,am⟩;refine nO H hv (by simpa using hc) λid off H1=>?_;refine uX (off:=off) (j:=0) H1 (List.Mem.head _) am ?_;rw[List.drop_zero,List.take_of_length_le am];exact h.ok B W S H1.tl
theorem Zx.bV {M own ro Φ K v k}(h:bL (Vx M (.op (.len false v) k) K own ro Φ)):Zx M false (.op (.len false v) k) K own ro Φ:=.z h
section
variable{B0 S:AH}{W:List Nat}{R:List Own}{ro:List aB}{x:Xc}{v:AV}{l:List dZ.Tk}{k c t now high:Int}{bad:Bool}
theorem ke (hv:aB.sl v 4 (dZ.ep l)∈ro)(hs:x.ex.ok l)(H:Cx B0 W S R ro):
  aG EM (zF 173) [.agg (x.cs++[v]),I k,I c,B bad] S λu S'=>∃ab,(∃q,u=.ptr q 0/\ab=.obj q (.row (x.row k c Ns Ns 0 0 0 false 0 (if bad=true then 3 else 0)))::R)/\Cx B0 W S' ab ro:=by
 have hl:g_ S v 4 (dZ.ep l):=(H.hH hv).1;obtain⟨ov,cv⟩:=X.ef hl;simp only[Xc.cs,Tw.cs,Lb.cs,Ar.cs,Ep.cs,lA,lB,lC];refine y1 H rfl ?_;intros;refine Vx.spec (Ψ:=λu ab=>u=B true/\ab=_) (λB1 W1 S1 H=>aw (X.xy (e:=x.ex) hv H) λr S' h=>⟨_,⟨h.1.trans (congrArg B (decide_eq_true hs)),rfl⟩,H.grow h.2⟩) ?_;rintro _ _ ⟨rfl,rfl⟩;cases bad<;>(repeat' first|constructor|exact ZQ|intro _)<;>(all_goals first|exact ZM|try refine zL ?_)<;>exact⟨rfl,rfl,_,⟨_,rfl,rfl⟩,by simp only[Xc.row,Xc.cs,Tw.cs,Lb.cs,Ar.cs,Ep.cs,lA,lB,lC];exact HQ⟩
def dR (n:Nat)(t now:Int):Prop:=t<0\/n<=t\/now<0\/1099511627776<now
instance ace {n:Nat}{t now:Int}:Decidable (dR n t now):=inferInstanceAs (Decidable (_\/_))
theorem Zx.vK {M own ro Φ K args k}(h:bL (Vx M (.call (zF 174) args k) K own ro Φ)):Zx M false (.call (zF 174) args k) K own ro Φ:=.z h
instance acf:cH 175 where
def ET (x:Xc)(o:Od)(σ:an)(R:List Own):AV->List Own->Prop:=λu ab=>∃q lo,u=.ptr q 0/\eP x o q 0 σ lo/\ab=lo++R
theorem l_ {x o σ R own ro}{q:Nat}{lo}(h:eP x o q 0 σ lo)(hs:Hs own (lo++R)):jy ro (ET x o σ R) .ret [.ptr q 0] own ro:=⟨rfl,rfl,_,⟨q,lo,rfl,h,rfl⟩,hs⟩
def gg (n:Nat)(t now:Int):an:=if dR n t now then .d 0 0 3 false else .r1 .a
def sf (l:List dZ.Tk)(t:Int):dZ.Tk:=l[t.toNat]?.getD ⟨0,0,0,0⟩
def mW (l:List dZ.Tk)(t now:Int):Od:=⟨1,0,t,(sf l t).prio,(sf l t).every,now,1⟩
theorem vL {l}{t:Int}(h0:0<=t)(h1:t<l.length):(dZ.ep l)[t.toNat]?=some (sf l t).cs:=by unfold dZ.ep sf;rw[List.getElem?_map,List.getElem?_eq_getElem am];rfl
theorem EU (hv:aB.sl v 4 (dZ.ep l)∈ro)(hs:x.ex.ok l)(H:Cx B0 W S R ro):
  aG EM (zF 81) [.agg (x.cs++[v]),I t,I now] S λu S'=>∃ab,ET x (mW l t now) (gg l.length t now) R u ab/\Cx B0 W S' ab ro:=by
 have hl:g_ S v 4 (dZ.ep l):=(H.hH hv).1;obtain⟨ov,cv⟩:=X.ef hl;simp only[Xc.cs,Tw.cs,Lb.cs,Ar.cs,Ep.cs,lA,lB];refine Vx.fm H rfl ?_
 (repeat' first|refine Zx.bV (v:=v) ?_|constructor|exact ZQ|intro _)
 all_goals apply zL
 ·(
   have hb:dR l.length t now:=by unfold dR;omega
   refine Vx.spec (λB1 W1 S1 H=>ke hv hs H) ?_;rintro _ _ ⟨q,rfl,rfl⟩;simp only[Xc.row,Xc.cs,Tw.cs,Lb.cs,Ar.cs,Ep.cs,lA,lB,if_true];refine z1 ?_;rw[show gg l.length t now=.d 0 0 3 false from if_pos hb];exact l_ (.d (au:=0) .n (λh=>by cases h)) (by simp only[Xc.row,Xc.cs,Tw.cs,Lb.cs,Ar.cs,Ep.cs,lA,lB];exact HQ))
 refine Vx.A1 hv ?_;rw[dZ.d_];refine z4 ?_ ?_ ?_ ?_<;>intros
 ·(
   have hb:dR l.length t now:=by unfold dR;omega
   refine Vx.spec (λB1 W1 S1 H=>ke hv hs H) ?_;rintro _ _ ⟨q,rfl,rfl⟩;simp only[Xc.row,Xc.cs,Tw.cs,Lb.cs,Ar.cs,Ep.cs,lA,lB,if_true];refine z1 ?_;rw[show gg l.length t now=.d 0 0 3 false from if_pos hb];exact l_ (.d (au:=0) .n (λh=>by cases h)) (by simp only[Xc.row,Xc.cs,Tw.cs,Lb.cs,Ar.cs,Ep.cs,lA,lB];exact HQ))
 ·(
   have hb:dR l.length t now:=by unfold dR;omega
   refine Vx.spec (λB1 W1 S1 H=>ke hv hs H) ?_;rintro _ _ ⟨q,rfl,rfl⟩;simp only[Xc.row,Xc.cs,Tw.cs,Lb.cs,Ar.cs,Ep.cs,lA,lB,if_true];refine z1 ?_;rw[show gg l.length t now=.d 0 0 3 false from if_pos hb];exact l_ (.d (au:=0) .n (λh=>by cases h)) (by simp only[Xc.row,Xc.cs,Tw.cs,Lb.cs,Ar.cs,Ep.cs,lA,lB];exact HQ))
 ·(
   have hb:dR l.length t now:=by unfold dR;omega
   refine Vx.spec (λB1 W1 S1 H=>ke hv hs H) ?_;rintro _ _ ⟨q,rfl,rfl⟩;simp only[Xc.row,Xc.cs,Tw.cs,Lb.cs,Ar.cs,Ep.cs,lA,lB,if_true];refine z1 ?_;rw[show gg l.length t now=.d 0 0 3 false from if_pos hb];exact l_ (.d (au:=0) .n (λh=>by cases h)) (by simp only[Xc.row,Xc.cs,Tw.cs,Lb.cs,Ar.cs,Ep.cs,lA,lB];exact HQ))
 have hb:¬dR l.length t now:=by unfold dR;omega
 refine Vx.spec (λB1 W1 S1 H=>ke hv hs H) ?_;rintro _ _ ⟨q,rfl,rfl⟩;simp only[Xc.row,Xc.cs,Tw.cs,Lb.cs,Ar.cs,Ep.cs,lA,lB,Bool.false_eq_true,if_false];refine z1 ?_;refine Vx.YS hv am (vL am am) rfl ?_;generalize hT:sf l t=T;simp only[dZ.Tk.cs]
 (repeat' first|refine Zx.vK ?_|constructor|exact ZQ|intro _)
 all_goals apply zL
 rename_i a b c d;refine Vx.bB (own:=.obj q (.row (x.row 1 0 Ns Ns 0 0 0 false 0 0))::.obj a (.row [.ptr q 0])::.obj c (.row [I t])::.obj b (.row [I T.kind,I T.prio,I T.every,I T.first])::.obj d (.row [I now])::R) (by simp only[Xc.row,Xc.cs,Tw.cs,Lb.cs,Ar.cs,Ep.cs,lA,lB];exact HQ) ?_;refine Vx.spec (λB1 W1 S1 H=>ED H) ?_;rintro _ _ ⟨sv,L,lo,rfl,hf,hc,rfl⟩;cases hc with
 |@mk yK sM J8 cls yM sN J_ Yv p1 hp ht hl bt=>
 refine z1 ?_;rw[show gg l.length t now=.r1 .a from if_neg hb];refine l_ (lo:=_::_::_) (eP.r1 (t0:=T.kind) (t3:=T.first) (sv:=sv) (uv:=Ns) (i:=0) (key:=0) (au:=0) (vx:=a) (vn:=c) (vt:=b) (vw:=d) hf rfl (.f hp) (bg.cons (p:=LM a q) ht (bg.cons (p:=NA a b) ⟨p1,rfl,rfl⟩ (bg.cons (p:=Dz a q) hl (bg.cons (p:=AN a c q) bt .nil))))) ?_;unfold mW;rw[hT];simp only[lA,lB,List.append_nil,lC];exact HQ
def bA (x:Xc)(c high:Int):Prop:=c<0\/x.t.l.e.ah<=c\/high<1\/x.t.ht<high
instance acg {x}{c high:Int}:Decidable (bA x c high):=inferInstanceAs (Decidable (_\/_))
def aX (x:Xc)(k c high:Int):an:=if bA x c high then .d 0 0 3 false else .first k
def bY (k c high:Int):Od:=⟨k,c,0,0,0,0,high⟩
theorem tU (hx:x.ok)(hv:aB.sl v 4 (dZ.ep l)∈ro)(hs:x.ex.ok l)(H:Cx B0 W S R ro):
  aG EM (zF 177) [.agg (x.cs++[v]),I k,I c,I high] S λu S'=>∃ab,(∃q,u=.ptr q 0/\ab=.obj q (.row (x.row k c Ns Ns 0 0 0 false 0 (if bA x c high then 3 else 0)))::R)/\Cx B0 W S' ab ro:=by
 have hl:g_ S v 4 (dZ.ep l):=(H.hH hv).1;obtain⟨ov,cv⟩:=X.ef hl;simp only[Xc.cs,Tw.cs,Lb.cs,Ar.cs,Ep.cs,lA,lB];refine Vx.fm H rfl ?_;have hr:x.r.ah=x.t.l.e.ah:=hx.2.2.2.2.2.2.2.1
 (repeat' first|constructor|exact ZQ|intro _)
 all_goals apply zL
 all_goals first
  |(have hb:bA x c high:=by unfold bA;omega
    refine Vx.spec (λB1 W1 S1 H=>ke hv hs H) ?_;rintro _ _ ⟨q,rfl,rfl⟩;rw[if_pos hb];simp only[if_true];refine z1 ?_;exact⟨rfl,rfl,_,⟨_,rfl,rfl⟩,HQ⟩)
  |(have hb:¬bA x c high:=by unfold bA;omega
    refine Vx.spec (λB1 W1 S1 H=>ke hv hs H) ?_;rintro _ _ ⟨q,rfl,rfl⟩;rw[if_neg hb];simp only[Bool.false_eq_true,if_false];refine z1 ?_;exact⟨rfl,rfl,_,⟨_,rfl,rfl⟩,HQ⟩)
instance ach {n:Nat}[Mn n [178,182,183,184]]:cH n where
theorem Cq (hx:x.ok)(hv:aB.sl v 4 (dZ.ep l)∈ro)(hs:x.ex.ok l)(H:Cx B0 W S R ro):
  aG EM (zF 85) [.agg (x.cs++[v]),I c] S λu S'=>∃ab,ET x (bY 3 c 1) (aX x 3 c 1) R u ab/\Cx B0 W S' ab ro:=by
 (
  have hl:g_ S v 4 (dZ.ep l):=(H.hH hv).1;obtain⟨ov,cv⟩:=X.ef hl;simp only[Xc.cs,Tw.cs,Lb.cs,Ar.cs,Ep.cs,lA,lB];refine y1 H rfl ?_;intros;refine Vx.spec (λB1 W1 S1 H=>tU hx hv hs H) ?_;rintro _ _ ⟨q,rfl,rfl⟩)
 by_cases hb:bA x c 1
 ·(
   rw[if_pos hb,show aX x _ c _=.d 0 0 3 false from if_pos hb];simp only[Xc.row,Xc.cs,Tw.cs,Lb.cs,Ar.cs,Ep.cs,lA,lB];refine z1 ?_;exact l_ (.d (au:=0) .n (λh=>by cases h)) (by simp only[Xc.row,Xc.cs,Tw.cs,Lb.cs,Ar.cs,Ep.cs,lA,lB];exact HQ))
 .rw[if_neg hb,show aX x 3 c 1=.p1 from if_neg hb];simp only[Xc.row,Xc.cs,Tw.cs,Lb.cs,Ar.cs,Ep.cs,lA,lB]
  (repeat' first|refine Zx.vK ?_|constructor|exact ZQ|intro _)
  all_goals apply zL
  rename_i a;refine Vx.bB (own:=.obj q (.row (x.row 3 c Ns Ns 0 0 0 false 0 0))::.obj a (.row [.ptr q 0])::R) (by simp only[Xc.row,Xc.cs,Tw.cs,Lb.cs,Ar.cs,Ep.cs,lA,lB];exact HQ) ?_;refine Vx.spec (λB1 W1 S1 H=>Ez H) ?_;rintro _ _ ⟨sv,L,lo,rfl,hf,hc,rfl⟩;cases hc with
  |@mk p1 p2 p3=>
  refine z1 ?_;refine l_ (lo:=_::_::_) (eP.p1 (o:=bY 3 c 1) (sv:=sv) (uv:=Ns) (i:=0) (key:=0) (au:=0) (vx:=a) (p1:=p1) (a1:=p2) (b1:=p3) hf .nil) ?_;simp only[lA,lB,List.append_nil,lC];exact HQ
theorem A3 (hx:x.ok)(hv:aB.sl v 4 (dZ.ep l)∈ro)(hs:x.ex.ok l)(H:Cx B0 W S R ro):
  aG EM (zF 87) [.agg (x.cs++[v]),I c,I high] S λu S'=>∃ab,ET x (bY 4 c high) (aX x 4 c high) R u ab/\Cx B0 W S' ab ro:=by
 (
  have hl:g_ S v 4 (dZ.ep l):=(H.hH hv).1;obtain⟨ov,cv⟩:=X.ef hl;simp only[Xc.cs,Tw.cs,Lb.cs,Ar.cs,Ep.cs,lA,lB];refine y1 H rfl ?_;intros;refine Vx.spec (λB1 W1 S1 H=>tU hx hv hs H) ?_;rintro _ _ ⟨q,rfl,rfl⟩)
 by_cases hb:bA x c high
 ·(
   rw[if_pos hb,show aX x _ c _=.d 0 0 3 false from if_pos hb];simp only[Xc.row,Xc.cs,Tw.cs,Lb.cs,Ar.cs,Ep.cs,lA,lB];refine z1 ?_;exact l_ (.d (au:=0) .n (λh=>by cases h)) (by simp only[Xc.row,Xc.cs,Tw.cs,Lb.cs,Ar.cs,Ep.cs,lA,lB];exact HQ))
 .rw[if_neg hb,show aX x 4 c high=.s1 from if_neg hb];simp only[Xc.row,Xc.cs,Tw.cs,Lb.cs,Ar.cs,Ep.cs,lA,lB];have uD:=hx;unfold Xc.ok Tw.ok Lb.ok Ep.ok Rs.ok at uD;have wQ:=hb;unfold bA at wQ
  (repeat' first|refine Zx.vK ?_|constructor|exact ZQ|intro _)
  all_goals apply zL
  rename_i a b d;refine Vx.bB (own:=.obj q (.row (x.row 4 c Ns Ns 0 0 0 false 0 0))::.obj a (.row [.ptr q 0])::.obj b (.row [I high])::.obj d (.row [I (x.r.flags+c)])::R) (by simp only[Xc.row,Xc.cs,Tw.cs,Lb.cs,Ar.cs,Ep.cs,lA,lB];exact HQ) ?_;refine Vx.spec (λB1 W1 S1 H=>EA ⟨am,am⟩ H) ?_;rintro _ _ ⟨sv,L,lo,rfl,hf,hc,rfl⟩;cases hc with
  |@mk p1 p2 p3 f1 s1 a1 w1=>
  refine z1 ?_;refine l_ (lo:=_::_::_) (eP.s1 (o:=bY 4 c high) (sv:=sv) (uv:=Ns) (i:=0) (key:=0) (au:=0) (vx:=a) (vh:=b) (vf:=d) (p1:=f1) hf (bg.cons (p:=cd (x.r.flags+c) 0) ⟨s1,a1,w1,rfl,rfl⟩ (bg.cons (p:=Ce a b q) ⟨p1,p2,p3,rfl,rfl⟩ .nil))) ?_;simp only[lA,lB,List.append_nil,lC];exact HQ
theorem vM (hx:x.ok)(hv:aB.sl v 4 (dZ.ep l)∈ro)(hs:x.ex.ok l)(H:Cx B0 W S R ro):
  aG EM (zF 89) [.agg (x.cs++[v]),I c] S λu S'=>∃ab,ET x (bY 5 c 1) (aX x 5 c 1) R u ab/\Cx B0 W S' ab ro:=by
 (
  have hl:g_ S v 4 (dZ.ep l):=(H.hH hv).1;obtain⟨ov,cv⟩:=X.ef hl;simp only[Xc.cs,Tw.cs,Lb.cs,Ar.cs,Ep.cs,lA,lB];refine y1 H rfl ?_;intros;refine Vx.spec (λB1 W1 S1 H=>tU hx hv hs H) ?_;rintro _ _ ⟨q,rfl,rfl⟩)
 by_cases hb:bA x c 1
 ·(
   rw[if_pos hb,show aX x _ c _=.d 0 0 3 false from if_pos hb];simp only[Xc.row,Xc.cs,Tw.cs,Lb.cs,Ar.cs,Ep.cs,lA,lB];refine z1 ?_;exact l_ (.d (au:=0) .n (λh=>by cases h)) (by simp only[Xc.row,Xc.cs,Tw.cs,Lb.cs,Ar.cs,Ep.cs,lA,lB];exact HQ))
 .rw[if_neg hb,show aX x 5 c 1=.c1 from if_neg hb];simp only[Xc.row,Xc.cs,Tw.cs,Lb.cs,Ar.cs,Ep.cs,lA,lB]
  (repeat' first|refine Zx.vK ?_|constructor|exact ZQ|intro _)
  all_goals apply zL
  rename_i a;refine Vx.bB (own:=.obj q (.row (x.row 5 c Ns Ns 0 0 0 false 0 0))::.obj a (.row [.ptr q 0])::R) (by simp only[Xc.row,Xc.cs,Tw.cs,Lb.cs,Ar.cs,Ep.cs,lA,lB];exact HQ) ?_;have wQ:=hb;unfold bA at wQ;have uD:=hx;unfold Xc.ok Tw.ok Lb.ok Ep.ok Rs.ok at uD;refine Vx.spec (λB1 W1 S1 H=>Cc ⟨am,am,am,am⟩ H) ?_;rintro _ _ ⟨sv,L,lo,rfl,hf,hc,rfl⟩;cases hc with
  |@mk I5 sM Ny yJ I6 sN log yL s1 a1 w1 s2 a2 w2 p1 p2 p3 ha ht hg tC=>
  refine z1 ?_;refine l_ (lo:=_::_::_) (eP.c1 (o:=bY 5 c 1) (sv:=sv) (uv:=Ns) (i:=0) (key:=0) (au:=0) (vx:=a) (p1:=p1) (a1:=p2) (b1:=p3) hf (bg.cons (p:=Sz q) ha (bg.cons (p:=dz 4 5 q) ht (bg.cons (p:=cd (x.own+c) 0) ⟨s1,a1,w1,rfl,rfl⟩ (bg.cons (p:=cd (x.r.runs+c) 18446744073709551615) ⟨s2,a2,w2,rfl,rfl⟩ (bg.cons (p:=o8 q) hg (bg.cons (p:=iY q) tC .nil))))))) ?_;simp only[lA,lB,List.append_nil,lC];exact HQ
theorem Cr (hx:x.ok)(hv:aB.sl v 4 (dZ.ep l)∈ro)(hs:x.ex.ok l)(H:Cx B0 W S R ro):
  aG EM (zF 83) [.agg (x.cs++[v]),I c,I high] S λu S'=>∃ab,ET x (bY 2 c high) (aX x 2 c high) R u ab/\Cx B0 W S' ab ro:=by
 (
  have hl:g_ S v 4 (dZ.ep l):=(H.hH hv).1;obtain⟨ov,cv⟩:=X.ef hl;simp only[Xc.cs,Tw.cs,Lb.cs,Ar.cs,Ep.cs,lA,lB];refine y1 H rfl ?_;intros;refine Vx.spec (λB1 W1 S1 H=>tU hx hv hs H) ?_;rintro _ _ ⟨q,rfl,rfl⟩)
 by_cases hb:bA x c high
 ·(
   rw[if_pos hb,show aX x _ c _=.d 0 0 3 false from if_pos hb];simp only[Xc.row,Xc.cs,Tw.cs,Lb.cs,Ar.cs,Ep.cs,lA,lB];refine z1 ?_;exact l_ (.d (au:=0) .n (λh=>by cases h)) (by simp only[Xc.row,Xc.cs,Tw.cs,Lb.cs,Ar.cs,Ep.cs,lA,lB];exact HQ))
 .rw[if_neg hb,show aX x 2 c high=.t1 .a from if_neg hb];simp only[Xc.row,Xc.cs,Tw.cs,Lb.cs,Ar.cs,Ep.cs,lA,lB];have uD:=hx;unfold Xc.ok Tw.ok Lb.ok Ep.ok Rs.ok at uD;have wQ:=hb;unfold bA at wQ
  (repeat' first|refine Zx.vK ?_|constructor|exact ZQ|intro _)
  all_goals apply zL
  rename_i a b d;refine Vx.bB (own:=.obj q (.row (x.row 2 c Ns Ns 0 0 0 false 0 0))::.obj a (.row [.ptr q 0])::.obj d (.row [I (x.ring c).head,I (x.ring c).tail,I (x.ring c).eY,I (x.ring c).size])::.obj b (.row [I high])::R) (by simp only[Xc.ring,Xc.row,Xc.cs,Tw.cs,Lb.cs,Ar.cs,Ep.cs,lA,lB];exact HQ) ?_;refine Vx.spec (λB1 W1 S1 H=>EC (r:=x.ring c) H) ?_;rintro _ _ ⟨sv,uv,L,U',lo,rfl,hf,hc,rfl⟩;cases hc with
  |@mk Yr I5 sM yK Ys yJ J9 Yt I6 sN yM Yu yL Ka hf1 ha ht hp hd tC hu=>
  refine z1 ?_;refine l_ (lo:=_::_::_) (eP.t1 (o:=bY 2 c high) (sv:=sv) (uv:=uv) (i:=0) (key:=0) (au:=0) (vx:=a) (vb:=d) hf (.f hf1) (bg.cons (p:=dz 3 2 q) hu .nil) (bg.cons (p:=LN a q) ha (bg.cons (p:=dz 2 3 q) ht (bg.cons (p:=DA a high q) hp (bg.cons (p:=vA d a q) hd (bg.cons (p:=iY q) tC .nil)))))) ?_;simp only[lA,lB,List.append_nil,lC];exact HQ
end
theorem vN:∀{l} {i:Nat} {T},dZ.jh l=0->l[i]?=some T->dZ.rZ T=0
 |[],i,T,_,h=>by simp at h
 |y::l,0,T,h0,h=>by
  injection h with h;subst h;unfold dZ.jh at h0;split at h0
  .assumption
  .exact h0
 |y::l,i+1,T,h0,h=>by
  unfold dZ.jh at h0;split at h0;.exact vN h0 h
  .exact absurd h0 ci
theorem LV {e:X.Ex}{l:List dZ.Tk}{t:Int}(hs:e.ok l)(h0:0<=t)(h1:t<l.length):(0<=(sf l t).prio/\(sf l t).prio<=254)/\0<=(sf l t).every/\(sf l t).every<=1099511627776:=by
 have hc:=hs.2.1;unfold dZ.kq at hc;split at hc;.cases hc
 have hg:l[t.toNat]?=some (sf l t):=by unfold sf;rw[List.getElem?_eq_getElem am];rfl
 have h2:=vN hc hg;unfold dZ.rZ at h2;split at h2;.cases h2
 split at h2;.cases h2
 .omega
theorem Xc.ru {x:Xc}{l:List dZ.Tk}(hs:x.ex.ok l):x.many=l.length:=hs.2.2.2.1
theorem Ig {x:Xc}{l:List dZ.Tk}{t now:Int}(hx:x.ok)(hs:x.ex.ok l)(hb:¬dR l.length t now):(mW l t now).ok x:=by have hm:=Xc.ru hs;unfold dR at hb;have hT2:=LV (t:=t) hs am am;unfold Xc.ok Tw.ok Lb.ok Ep.ok at hx;unfold Od.ok mW;dsimp only;refine⟨am,am,λ_=>?_⟩;omega
theorem oF {x}{k c high:Int}(hk:k≠1)(hb:¬bA x c high):(bY k c high).ok x:=by unfold bA at hb;unfold Od.ok bY;dsimp only;exact⟨am,am,λh=>absurd h hk⟩
instance aci:cH 179 where
section
variable{B0 S:AH}{W:List Nat}{R:List Own}{ro:List aB}{x:Xc}{v:AV}{l:List dZ.Tk}{k c t now high:Int}{bad:Bool}
def xA (x:Xc)(o:Od)(tv:AV)(hg:Int)(σ:an)(R:List Own):AV->List Own->Prop:=λu ab=>∃q lo,u=.ptr q 0/\bU x o tv hg q 0 σ lo/\ab=lo++R
theorem kf {o tv}{hg:Int}{σ own}{q:Nat}{lo}(h:bU x o tv hg q 0 σ lo)(hs:Hs own (lo++R)):jy ro (xA x o tv hg σ R) .ret [.ptr q 0] own ro:=⟨rfl,rfl,_,⟨q,lo,rfl,h,rfl⟩,hs⟩
theorem A4 (hx:x.ok)(hv:aB.sl v 4 (dZ.ep l)∈ro)(hs:x.ex.ok l)(H:Cx B0 W S R ro):
  aG EM (zF 86) [.agg (x.cs++[v]),I c] S λu S'=>∃ab,xA x (bY 3 c 1) v 1 (aX x 3 c 1) R u ab/\Cx B0 W S' ab ro:=by
 (
  have hl:g_ S v 4 (dZ.ep l):=(H.hH hv).1;obtain⟨ov,cv⟩:=X.ef hl;have hr:x.aJ=x.t.l.e.ah:=hx.2.2.2.2.2.2.1;simp only[Xc.cf,Xc.ring,Xc.cs,Tw.cs,Lb.cs,Ar.cs,Ep.cs,lA,lB,lC];refine y1 H rfl ?_;intros;refine Vx.spec (Ψ:=λu ab=>u=B true/\ab=_) (λB1 W1 S1 H=>aw (X.iF (e:=x.ex) hv H) λr S' h=>⟨_,⟨h.1.trans (congrArg B (decide_eq_true hs)),rfl⟩,H.grow h.2⟩) ?_;rintro _ _ ⟨rfl,rfl⟩)
 refine z4 ?_ ?_ ?_ ?_<;>intros
 all_goals first
  |(
    have hb:bA x c 1:=by unfold bA;omega
    rw[show aX x 3 c 1=.d 0 0 3 false from if_pos hb];exact kf (.d (o:=bY 3 c 1) (i':=0) (w':=0) (λh=>by cases h)) (by simp only[Xc.cf,Xc.ring,Xc.cs,Tw.cs,Lb.cs,Ar.cs,Ep.cs,lA,lB,lC];exact HQ))
  |(have hb:¬bA x c 1:=by unfold bA;omega
    rw[show aX x 3 c 1=.p1 from if_neg hb];exact kf (.p1 (o:=bY 3 c 1) (i:=0) (w:=0) rfl) (by simp only[Xc.cf,Xc.ring,Xc.cs,Tw.cs,Lb.cs,Ar.cs,Ep.cs,lA,lB,lC];exact HQ))
theorem yU (hx:x.ok)(hv:aB.sl v 4 (dZ.ep l)∈ro)(hs:x.ex.ok l)(H:Cx B0 W S R ro):
  aG EM (zF 88) [.agg (x.cs++[v]),I c,I high] S λu S'=>∃ab,xA x (bY 4 c high) v high (aX x 4 c high) R u ab/\Cx B0 W S' ab ro:=by
 (
  have hl:g_ S v 4 (dZ.ep l):=(H.hH hv).1;obtain⟨ov,cv⟩:=X.ef hl;have hr:x.aJ=x.t.l.e.ah:=hx.2.2.2.2.2.2.1;simp only[Xc.cf,Xc.ring,Xc.cs,Tw.cs,Lb.cs,Ar.cs,Ep.cs,lA,lB,lC];refine y1 H rfl ?_;intros;refine Vx.spec (Ψ:=λu ab=>u=B true/\ab=_) (λB1 W1 S1 H=>aw (X.iF (e:=x.ex) hv H) λr S' h=>⟨_,⟨h.1.trans (congrArg B (decide_eq_true hs)),rfl⟩,H.grow h.2⟩) ?_;rintro _ _ ⟨rfl,rfl⟩)
 (repeat' first|constructor|exact ZQ|intro _)
 all_goals apply zL
 all_goals first
  |(
    have hb:bA x c high:=by unfold bA;omega
    rw[show aX x 4 c high=.d 0 0 3 false from if_pos hb];exact kf (.d (o:=bY 4 c high) (i':=0) (w':=0) (λh=>by cases h)) (by simp only[Xc.cf,Xc.ring,Xc.cs,Tw.cs,Lb.cs,Ar.cs,Ep.cs,lA,lB,lC];exact HQ))
  |(have hb:¬bA x c high:=by unfold bA;omega
    rw[show aX x 4 c high=.s1 from if_neg hb];exact kf (.s1 (o:=bY 4 c high) (i:=0) (w:=0) rfl rfl) (by simp only[Xc.cf,Xc.ring,Xc.cs,Tw.cs,Lb.cs,Ar.cs,Ep.cs,lA,lB,lC];exact HQ))
theorem tw (hx:x.ok)(hv:aB.sl v 4 (dZ.ep l)∈ro)(hs:x.ex.ok l)(H:Cx B0 W S R ro):
  aG EM (zF 90) [.agg (x.cs++[v]),I c] S λu S'=>∃ab,xA x (bY 5 c 1) v 1 (aX x 5 c 1) R u ab/\Cx B0 W S' ab ro:=by
 (
  have hl:g_ S v 4 (dZ.ep l):=(H.hH hv).1;obtain⟨ov,cv⟩:=X.ef hl;have hr:x.aJ=x.t.l.e.ah:=hx.2.2.2.2.2.2.1;simp only[Xc.cf,Xc.ring,Xc.cs,Tw.cs,Lb.cs,Ar.cs,Ep.cs,lA,lB,lC];refine y1 H rfl ?_;intros;refine Vx.spec (Ψ:=λu ab=>u=B true/\ab=_) (λB1 W1 S1 H=>aw (X.iF (e:=x.ex) hv H) λr S' h=>⟨_,⟨h.1.trans (congrArg B (decide_eq_true hs)),rfl⟩,H.grow h.2⟩) ?_;rintro _ _ ⟨rfl,rfl⟩)
 refine z4 ?_ ?_ ?_ ?_<;>intros
 all_goals first
  |(
    have hb:bA x c 1:=by unfold bA;omega
    rw[show aX x 5 c 1=.d 0 0 3 false from if_pos hb];exact kf (.d (o:=bY 5 c 1) (i':=0) (w':=0) (λh=>by cases h)) (by simp only[Xc.cf,Xc.ring,Xc.cs,Tw.cs,Lb.cs,Ar.cs,Ep.cs,lA,lB,lC];exact HQ))
  |(have hb:¬bA x c 1:=by unfold bA;omega
    rw[show aX x 5 c 1=.c1 from if_neg hb];exact kf (.c1 (o:=bY 5 c 1) (i:=0) (w:=0) rfl) (by simp only[Xc.cf,Xc.ring,Xc.cs,Tw.cs,Lb.cs,Ar.cs,Ep.cs,lA,lB,lC];exact HQ))
theorem A5 (hx:x.ok)(hv:aB.sl v 4 (dZ.ep l)∈ro)(hs:x.ex.ok l)(H:Cx B0 W S R ro):
  aG EM (zF 84) [.agg (x.cs++[v]),I c,I high] S λu S'=>∃ab,xA x (bY 2 c high) v high (aX x 2 c high) R u ab/\Cx B0 W S' ab ro:=by
 have uD:=hx;unfold Xc.ok Tw.ok Lb.ok Ep.ok Rs.ok at uD;have em:¬(0<=c/\c<x.aJ)\/(0<=c*(x.room+2)/\c*(x.room+2)<=1134):=by
  by_cases h:0<=c/\c<x.aJ
  .refine .inr ⟨Int.mul_nonneg am am,?_⟩;have:=Int.mul_le_mul (show c<=63 by omega) (show x.room+2<=18 by omega) am am;omega
  .exact .inl h
 (
  have hl:g_ S v 4 (dZ.ep l):=(H.hH hv).1;obtain⟨ov,cv⟩:=X.ef hl;have hr:x.aJ=x.t.l.e.ah:=hx.2.2.2.2.2.2.1;simp only[Xc.cf,Xc.ring,Xc.cs,Tw.cs,Lb.cs,Ar.cs,Ep.cs,lA,lB,lC];refine y1 H rfl ?_;intros;refine Vx.spec (Ψ:=λu ab=>u=B true/\ab=_) (λB1 W1 S1 H=>aw (X.iF (e:=x.ex) hv H) λr S' h=>⟨_,⟨h.1.trans (congrArg B (decide_eq_true hs)),rfl⟩,H.grow h.2⟩) ?_;rintro _ _ ⟨rfl,rfl⟩)
 (repeat' first|constructor|exact ZQ|intro _)
 all_goals apply zL
 all_goals first
  |(
    have hb:bA x c high:=by unfold bA;omega
    rw[show aX x 2 c high=.d 0 0 3 false from if_pos hb];exact kf (.d (o:=bY 2 c high) (i':=0) (w':=0) (λh=>by cases h)) (by simp only[Xc.cf,Xc.ring,Xc.cs,Tw.cs,Lb.cs,Ar.cs,Ep.cs,lA,lB,lC];exact HQ))
  |skip
 have hb:¬bA x c high:=by unfold bA;omega
 rw[show aX x 2 c high=.t1 .a from if_neg hb];exact kf (lo:=_::_) (.t1 (o:=bY 2 c high) (i:=0) (w:=0) rfl rfl (.a (h:=0) (v:=0)) rfl) (by simp only[Xc.cf,Xc.ring,Xc.cs,Tw.cs,Lb.cs,Ar.cs,Ep.cs,lA,lB,lC];simp only[Rn.cs,bY,lA,lB];exact HQ)
theorem Cs (hx:x.ok)(hv:aB.sl v 4 (dZ.ep l)∈ro)(hs:x.ex.ok l)(H:Cx B0 W S R ro):
  aG EM (zF 82) [.agg (x.cs++[v]),I t,I now] S λu S'=>∃ab,xA x (mW l t now) v 0 (gg l.length t now) R u ab/\Cx B0 W S' ab ro:=by
 (
  have hl:g_ S v 4 (dZ.ep l):=(H.hH hv).1;obtain⟨ov,cv⟩:=X.ef hl;have hr:x.aJ=x.t.l.e.ah:=hx.2.2.2.2.2.2.1;simp only[Xc.cf,Xc.ring,Xc.cs,Tw.cs,Lb.cs,Ar.cs,Ep.cs,lA,lB,lC];refine y1 H rfl ?_;intros;refine Vx.spec (Ψ:=λu ab=>u=B true/\ab=_) (λB1 W1 S1 H=>aw (X.iF (e:=x.ex) hv H) λr S' h=>⟨_,⟨h.1.trans (congrArg B (decide_eq_true hs)),rfl⟩,H.grow h.2⟩) ?_;rintro _ _ ⟨rfl,rfl⟩)
 (repeat' first|refine Zx.bV (v:=v) ?_|constructor|exact ZQ|intro _)
 all_goals apply zL
 .have hb:dR l.length t now:=by unfold dR;omega
  rw[show gg l.length t now=.d 0 0 3 false from if_pos hb];exact kf (.d (o:=mW l t now) (i':=0) (w':=0) (λh=>by cases h)) (by simp only[Xc.cf,Xc.ring,Xc.cs,Tw.cs,Lb.cs,Ar.cs,Ep.cs,lA,lB,lC];exact HQ)
 refine Vx.A1 hv ?_;rw[dZ.d_];refine z4 ?_ ?_ ?_ ?_<;>intros
 all_goals first
  |(have hb:dR l.length t now:=by unfold dR;omega
    rw[show gg l.length t now=.d 0 0 3 false from if_pos hb];exact kf (.d (o:=mW l t now) (i':=0) (w':=0) (λh=>by cases h)) (by simp only[Xc.cf,Xc.ring,Xc.cs,Tw.cs,Lb.cs,Ar.cs,Ep.cs,lA,lB,lC];exact HQ))
  |skip
 have hb:¬dR l.length t now:=by unfold dR;omega
 have hT2:=LV (t:=t) hs am am;rw[show gg l.length t now=.r1 .a from if_neg hb];generalize hT:sf l t=T at hT2;have hm:=Xc.ru hs;have uD:=hx;unfold Xc.ok Tw.ok Lb.ok Ep.ok Rs.ok at uD;unfold dR at hb;refine Vx.ldT hv am (vL am am) (z:=I T.every) (by rw[hT];rfl) ?_;refine z1 ?_;intros;rw[show T.every%18446744073709551616=T.every by omega,show now%18446744073709551616=now by omega];exact kf (lo:=_::_) (.r1 (o:=mW l t now) (i:=0) (w:=0) rfl (.a (w:=0)) rfl) (by unfold mW;rw[hT];simp only[Xc.cf,Xc.ring,Xc.cs,Tw.cs,Lb.cs,Ar.cs,Ep.cs,lA,lB,lC];exact HQ)
end
end Go.cO
