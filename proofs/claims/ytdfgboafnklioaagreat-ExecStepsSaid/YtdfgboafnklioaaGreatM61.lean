/- Contracts. Conditions: in each theorem. -/
import Derived.Test.YtdfgboafnklioaaGreatM32
import Derived.Test.YtdfgboafnklioaaGreatM60
import Derived.Test.YtdfgboafnklioaaGreatM52
set_option linter.all false
set_option maxRecDepth 100000
set_option maxHeartbeats 4000000
namespace Go.cG
open Go.Proofs
def Xc.ex (x:Xc):X.Ex:=⟨⟨x.t.nd,x.t.hd,x.t.ht,x.t.l.a.f.top,x.t.l.a.f.links,x.t.l.a.f.size,x.t.l.a.an,x.t.l.a.aF,x.t.l.a.fJ,x.t.l.e.bh,x.t.l.e.pins,x.t.l.e.ad,x.t.l.aL⟩,x.ct,x.many,x.j.bE,x.j.keys,x.j.f.top,x.j.f.links,x.j.f.size,x.iZ,x.aq,x.room,x.r.runs,x.r.flags,x.r.ad,x.own,x.seq⟩
theorem Vx.FL {M own ro Φ K v L}{es:Nat}{k}(hv:aI.sl v es L∈ro)(h:Zx M false (k (I L.length)) K own ro Φ):Vx M (.op (.len false v) k) K own ro Φ:=
 λB W S H=>jX H hv (h.ok B W S H)
theorem Vx.Zg {M own ro Φ K v L c}{i:Int}{k}(hv:aI.sl v 4 L∈ro)(hi:0<=i)(hc:L[i.toNat]?=some c)(h4:c.length=4)(h:Zx M false (k (.agg c)) K own ro Φ):Vx M (.op (.cC 4 v (I i)) λp=>.op (.load 4 true p) k) K own ro Φ:=λB W S H=>by obtain⟨n,rfl⟩:∃n:Nat,i=n:=⟨i.toNat,am⟩;refine nU H hv (by simpa using hc) λid off H1=>?_;refine qY (off:=off) (j:=0) H1 (List.Mem.head _) am ?_;rw[List.drop_zero,List.take_of_length_le am];exact h.ok B W S H1.tl
theorem Zx.av {M own ro Φ K v k}(h:bP (Vx M (.op (.len false v) k) K own ro Φ)):Zx M false (.op (.len false v) k) K own ro Φ:=.z h
section
variable{B0 S:AH}{W:List Nat}{R:List Own}{ro:List aI}{x:Xc}{v:AV}{l:List dA.Tk}{k c t now high:Int}{bad:Bool}
theorem kh (hv:aI.sl v 4 (dA.gK l)∈ro)(hs:x.ex.ok l)(H:Cx B0 W S R ro):
  aN EM (zF 173) [.agg (x.cs++[v]),I k,I c,B bad] S λu S'=>∃ab,(∃q,u=.ptr q 0/\ab=.obj q (.row (x.row k c Ns Ns 0 0 0 false 0 (if bad=true then 3 else 0)))::R)/\Cx B0 W S' ab ro:=by
 have hl:iV S v 4 (dA.gK l):=(H.ku hv).1;obtain⟨ov,cv⟩:=X.eu hl;simp only[Xc.cs,Tw.cs,Lb.cs,Ar.cs,Ep.cs,lA,lB,lC];refine y1 H rfl ?_;intros;refine Vx.spec (Ψ:=λu ab=>u=B true/\ab=_) (λB1 W1 S1 H=>az (X.oT (e:=x.ex) hv H) λr S' h=>⟨_,⟨h.1.trans (congrArg B (decide_eq_true hs)),rfl⟩,H.grow h.2⟩) ?_;rintro _ _ ⟨rfl,rfl⟩;cases bad<;>(repeat' first|constructor|exact ZQ|intro _)<;>(all_goals first|exact ZM|try refine zL ?_)<;>exact⟨rfl,rfl,_,⟨_,rfl,rfl⟩,by simp only[Xc.row,Xc.cs,Tw.cs,Lb.cs,Ar.cs,Ep.cs,lA,lB,lC];exact HQ⟩
def ec (n:Nat)(t now:Int):Prop:=t<0\/n<=t\/now<0\/1099511627776<now
instance aci {n:Nat}{t now:Int}:Decidable (ec n t now):=inferInstanceAs (Decidable (_\/_))
theorem Zx.wb {M own ro Φ K args k}(h:bP (Vx M (.call (zF 174) args k) K own ro Φ)):Zx M false (.call (zF 174) args k) K own ro Φ:=.z h
instance acj:cK 175 where
def Fl (x:Xc)(o:Od)(σ:aG)(R:List Own):AV->List Own->Prop:=λu ab=>∃q lo,u=.ptr q 0/\ft x o q 0 σ lo/\ab=lo++R
theorem mg {x o σ R own ro}{q:Nat}{lo}(h:ft x o q 0 σ lo)(hs:Hs own (lo++R)):kx ro (Fl x o σ R) .ret [.ptr q 0] own ro:=⟨rfl,rfl,_,⟨q,lo,rfl,h,rfl⟩,hs⟩
def hH (n:Nat)(t now:Int):aG:=if ec n t now then .d 0 0 3 false else .r1 .a
def sz (l:List dA.Tk)(t:Int):dA.Tk:=l[t.toNat]?.getD ⟨0,0,0,0⟩
def m9 (l:List dA.Tk)(t now:Int):Od:=⟨1,0,t,(sz l t).prio,(sz l t).every,now,1⟩
theorem wc {l}{t:Int}(h0:0<=t)(h1:t<l.length):(dA.gK l)[t.toNat]?=some (sz l t).cs:=by unfold dA.gK sz;rw[List.getElem?_map,List.getElem?_eq_getElem am];rfl
theorem Fm (hv:aI.sl v 4 (dA.gK l)∈ro)(hs:x.ex.ok l)(H:Cx B0 W S R ro):
  aN EM (zF 81) [.agg (x.cs++[v]),I t,I now] S λu S'=>∃ab,Fl x (m9 l t now) (hH l.length t now) R u ab/\Cx B0 W S' ab ro:=by
 have hl:iV S v 4 (dA.gK l):=(H.ku hv).1;obtain⟨ov,cv⟩:=X.eu hl;simp only[Xc.cs,Tw.cs,Lb.cs,Ar.cs,Ep.cs,lA,lB];refine Vx.fm H rfl ?_
 (repeat' first|refine Zx.av (v:=v) ?_|constructor|exact ZQ|intro _)
 all_goals apply zL
 ·(
   have hb:ec l.length t now:=by unfold ec;omega
   refine Vx.spec (λB1 W1 S1 H=>kh hv hs H) ?_;rintro _ _ ⟨q,rfl,rfl⟩;simp only[Xc.row,Xc.cs,Tw.cs,Lb.cs,Ar.cs,Ep.cs,lA,lB,if_true];refine z1 ?_;rw[show hH l.length t now=.d 0 0 3 false from if_pos hb];exact mg (.d (aw:=0) .n (λh=>by cases h)) (by simp only[Xc.row,Xc.cs,Tw.cs,Lb.cs,Ar.cs,Ep.cs,lA,lB];exact HQ))
 refine Vx.FL hv ?_;rw[dA.hG];refine z4 ?_ ?_ ?_ ?_<;>intros
 ·(
   have hb:ec l.length t now:=by unfold ec;omega
   refine Vx.spec (λB1 W1 S1 H=>kh hv hs H) ?_;rintro _ _ ⟨q,rfl,rfl⟩;simp only[Xc.row,Xc.cs,Tw.cs,Lb.cs,Ar.cs,Ep.cs,lA,lB,if_true];refine z1 ?_;rw[show hH l.length t now=.d 0 0 3 false from if_pos hb];exact mg (.d (aw:=0) .n (λh=>by cases h)) (by simp only[Xc.row,Xc.cs,Tw.cs,Lb.cs,Ar.cs,Ep.cs,lA,lB];exact HQ))
 ·(
   have hb:ec l.length t now:=by unfold ec;omega
   refine Vx.spec (λB1 W1 S1 H=>kh hv hs H) ?_;rintro _ _ ⟨q,rfl,rfl⟩;simp only[Xc.row,Xc.cs,Tw.cs,Lb.cs,Ar.cs,Ep.cs,lA,lB,if_true];refine z1 ?_;rw[show hH l.length t now=.d 0 0 3 false from if_pos hb];exact mg (.d (aw:=0) .n (λh=>by cases h)) (by simp only[Xc.row,Xc.cs,Tw.cs,Lb.cs,Ar.cs,Ep.cs,lA,lB];exact HQ))
 ·(
   have hb:ec l.length t now:=by unfold ec;omega
   refine Vx.spec (λB1 W1 S1 H=>kh hv hs H) ?_;rintro _ _ ⟨q,rfl,rfl⟩;simp only[Xc.row,Xc.cs,Tw.cs,Lb.cs,Ar.cs,Ep.cs,lA,lB,if_true];refine z1 ?_;rw[show hH l.length t now=.d 0 0 3 false from if_pos hb];exact mg (.d (aw:=0) .n (λh=>by cases h)) (by simp only[Xc.row,Xc.cs,Tw.cs,Lb.cs,Ar.cs,Ep.cs,lA,lB];exact HQ))
 have hb:¬ec l.length t now:=by unfold ec;omega
 refine Vx.spec (λB1 W1 S1 H=>kh hv hs H) ?_;rintro _ _ ⟨q,rfl,rfl⟩;simp only[Xc.row,Xc.cs,Tw.cs,Lb.cs,Ar.cs,Ep.cs,lA,lB,Bool.false_eq_true,if_false];refine z1 ?_;refine Vx.Zg hv am (wc am am) rfl ?_;generalize hT:sz l t=T;simp only[dA.Tk.cs]
 (repeat' first|refine Zx.wb ?_|constructor|exact ZQ|intro _)
 all_goals apply zL
 rename_i a b c d;refine Vx.bQ (own:=.obj q (.row (x.row 1 0 Ns Ns 0 0 0 false 0 0))::.obj a (.row [.ptr q 0])::.obj c (.row [I t])::.obj b (.row [I T.kind,I T.prio,I T.every,I T.first])::.obj d (.row [I now])::R) (by simp only[Xc.row,Xc.cs,Tw.cs,Lb.cs,Ar.cs,Ep.cs,lA,lB];exact HQ) ?_;refine Vx.spec (λB1 W1 S1 H=>E9 H) ?_;rintro _ _ ⟨sv,L,lo,rfl,hf,hc,rfl⟩;cases hc with
 |@mk y7 tc KK cls y9 td KM YW p1 hp ht hl bt=>
 refine z1 ?_;rw[show hH l.length t now=.r1 .a from if_neg hb];refine mg (lo:=_::_::_) (ft.r1 (t0:=T.kind) (t3:=T.first) (sv:=sv) (uv:=Ns) (i:=0) (key:=0) (aw:=0) (vx:=a) (vn:=c) (vt:=b) (vw:=d) hf rfl (.f hp) (bm.cons (p:=Mj a q) ht (bm.cons (p:=N9 a b) ⟨p1,rfl,rfl⟩ (bm.cons (p:=DU a q) hl (bm.cons (p:=A7 a c q) bt .nil))))) ?_;unfold m9;rw[hT];simp only[lA,lB,List.append_nil,lC];exact HQ
def bA (x:Xc)(c high:Int):Prop:=c<0\/x.t.l.e.ad<=c\/high<1\/x.t.ht<high
instance ack {x}{c high:Int}:Decidable (bA x c high):=inferInstanceAs (Decidable (_\/_))
def bq (x:Xc)(k c high:Int):aG:=if bA x c high then .d 0 0 3 false else .first k
def bW (k c high:Int):Od:=⟨k,c,0,0,0,0,high⟩
theorem uj (hx:x.ok)(hv:aI.sl v 4 (dA.gK l)∈ro)(hs:x.ex.ok l)(H:Cx B0 W S R ro):
  aN EM (zF 177) [.agg (x.cs++[v]),I k,I c,I high] S λu S'=>∃ab,(∃q,u=.ptr q 0/\ab=.obj q (.row (x.row k c Ns Ns 0 0 0 false 0 (if bA x c high then 3 else 0)))::R)/\Cx B0 W S' ab ro:=by
 have hl:iV S v 4 (dA.gK l):=(H.ku hv).1;obtain⟨ov,cv⟩:=X.eu hl;simp only[Xc.cs,Tw.cs,Lb.cs,Ar.cs,Ep.cs,lA,lB];refine Vx.fm H rfl ?_;have hr:x.r.ad=x.t.l.e.ad:=hx.2.2.2.2.2.2.2.1
 (repeat' first|constructor|exact ZQ|intro _)
 all_goals apply zL
 all_goals first
  |(have hb:bA x c high:=by unfold bA;omega
    refine Vx.spec (λB1 W1 S1 H=>kh hv hs H) ?_;rintro _ _ ⟨q,rfl,rfl⟩;rw[if_pos hb];simp only[if_true];refine z1 ?_;exact⟨rfl,rfl,_,⟨_,rfl,rfl⟩,HQ⟩)
  |(have hb:¬bA x c high:=by unfold bA;omega
    refine Vx.spec (λB1 W1 S1 H=>kh hv hs H) ?_;rintro _ _ ⟨q,rfl,rfl⟩;rw[if_neg hb];simp only[Bool.false_eq_true,if_false];refine z1 ?_;exact⟨rfl,rfl,_,⟨_,rfl,rfl⟩,HQ⟩)
instance acm {n:Nat}[Mn n [178,182,183,184]]:cK n where
theorem CD (hx:x.ok)(hv:aI.sl v 4 (dA.gK l)∈ro)(hs:x.ex.ok l)(H:Cx B0 W S R ro):
  aN EM (zF 85) [.agg (x.cs++[v]),I c] S λu S'=>∃ab,Fl x (bW 3 c 1) (bq x 3 c 1) R u ab/\Cx B0 W S' ab ro:=by
 (
  have hl:iV S v 4 (dA.gK l):=(H.ku hv).1;obtain⟨ov,cv⟩:=X.eu hl;simp only[Xc.cs,Tw.cs,Lb.cs,Ar.cs,Ep.cs,lA,lB];refine y1 H rfl ?_;intros;refine Vx.spec (λB1 W1 S1 H=>uj hx hv hs H) ?_;rintro _ _ ⟨q,rfl,rfl⟩)
 by_cases hb:bA x c 1
 ·(
   rw[if_pos hb,show bq x _ c _=.d 0 0 3 false from if_pos hb];simp only[Xc.row,Xc.cs,Tw.cs,Lb.cs,Ar.cs,Ep.cs,lA,lB];refine z1 ?_;exact mg (.d (aw:=0) .n (λh=>by cases h)) (by simp only[Xc.row,Xc.cs,Tw.cs,Lb.cs,Ar.cs,Ep.cs,lA,lB];exact HQ))
 .rw[if_neg hb,show bq x 3 c 1=.p1 from if_neg hb];simp only[Xc.row,Xc.cs,Tw.cs,Lb.cs,Ar.cs,Ep.cs,lA,lB]
  (repeat' first|refine Zx.wb ?_|constructor|exact ZQ|intro _)
  all_goals apply zL
  rename_i a;refine Vx.bQ (own:=.obj q (.row (x.row 3 c Ns Ns 0 0 0 false 0 0))::.obj a (.row [.ptr q 0])::R) (by simp only[Xc.row,Xc.cs,Tw.cs,Lb.cs,Ar.cs,Ep.cs,lA,lB];exact HQ) ?_;refine Vx.spec (λB1 W1 S1 H=>E5 H) ?_;rintro _ _ ⟨sv,L,lo,rfl,hf,hc,rfl⟩;cases hc with
  |@mk p1 p2 p3=>
  refine z1 ?_;refine mg (lo:=_::_::_) (ft.p1 (o:=bW 3 c 1) (sv:=sv) (uv:=Ns) (i:=0) (key:=0) (aw:=0) (vx:=a) (p1:=p1) (a1:=p2) (b1:=p3) hf .nil) ?_;simp only[lA,lB,List.append_nil,lC];exact HQ
theorem Be (hx:x.ok)(hv:aI.sl v 4 (dA.gK l)∈ro)(hs:x.ex.ok l)(H:Cx B0 W S R ro):
  aN EM (zF 87) [.agg (x.cs++[v]),I c,I high] S λu S'=>∃ab,Fl x (bW 4 c high) (bq x 4 c high) R u ab/\Cx B0 W S' ab ro:=by
 (
  have hl:iV S v 4 (dA.gK l):=(H.ku hv).1;obtain⟨ov,cv⟩:=X.eu hl;simp only[Xc.cs,Tw.cs,Lb.cs,Ar.cs,Ep.cs,lA,lB];refine y1 H rfl ?_;intros;refine Vx.spec (λB1 W1 S1 H=>uj hx hv hs H) ?_;rintro _ _ ⟨q,rfl,rfl⟩)
 by_cases hb:bA x c high
 ·(
   rw[if_pos hb,show bq x _ c _=.d 0 0 3 false from if_pos hb];simp only[Xc.row,Xc.cs,Tw.cs,Lb.cs,Ar.cs,Ep.cs,lA,lB];refine z1 ?_;exact mg (.d (aw:=0) .n (λh=>by cases h)) (by simp only[Xc.row,Xc.cs,Tw.cs,Lb.cs,Ar.cs,Ep.cs,lA,lB];exact HQ))
 .rw[if_neg hb,show bq x 4 c high=.s1 from if_neg hb];simp only[Xc.row,Xc.cs,Tw.cs,Lb.cs,Ar.cs,Ep.cs,lA,lB];have xz:=hx;unfold Xc.ok Tw.ok Lb.ok Ep.ok Rs.ok at xz;have zr:=hb;unfold bA at zr
  (repeat' first|refine Zx.wb ?_|constructor|exact ZQ|intro _)
  all_goals apply zL
  rename_i a b d;refine Vx.bQ (own:=.obj q (.row (x.row 4 c Ns Ns 0 0 0 false 0 0))::.obj a (.row [.ptr q 0])::.obj b (.row [I high])::.obj d (.row [I (x.r.flags+c)])::R) (by simp only[Xc.row,Xc.cs,Tw.cs,Lb.cs,Ar.cs,Ep.cs,lA,lB];exact HQ) ?_;refine Vx.spec (λB1 W1 S1 H=>E6 ⟨am,am⟩ H) ?_;rintro _ _ ⟨sv,L,lo,rfl,hf,hc,rfl⟩;cases hc with
  |@mk p1 p2 p3 f1 s1 a1 w1=>
  refine z1 ?_;refine mg (lo:=_::_::_) (ft.s1 (o:=bW 4 c high) (sv:=sv) (uv:=Ns) (i:=0) (key:=0) (aw:=0) (vx:=a) (vh:=b) (vf:=d) (p1:=f1) hf (bm.cons (p:=cf (x.r.flags+c) 0) ⟨s1,a1,w1,rfl,rfl⟩ (bm.cons (p:=Cu a b q) ⟨p1,p2,p3,rfl,rfl⟩ .nil))) ?_;simp only[lA,lB,List.append_nil,lC];exact HQ
theorem we (hx:x.ok)(hv:aI.sl v 4 (dA.gK l)∈ro)(hs:x.ex.ok l)(H:Cx B0 W S R ro):
  aN EM (zF 89) [.agg (x.cs++[v]),I c] S λu S'=>∃ab,Fl x (bW 5 c 1) (bq x 5 c 1) R u ab/\Cx B0 W S' ab ro:=by
 (
  have hl:iV S v 4 (dA.gK l):=(H.ku hv).1;obtain⟨ov,cv⟩:=X.eu hl;simp only[Xc.cs,Tw.cs,Lb.cs,Ar.cs,Ep.cs,lA,lB];refine y1 H rfl ?_;intros;refine Vx.spec (λB1 W1 S1 H=>uj hx hv hs H) ?_;rintro _ _ ⟨q,rfl,rfl⟩)
 by_cases hb:bA x c 1
 ·(
   rw[if_pos hb,show bq x _ c _=.d 0 0 3 false from if_pos hb];simp only[Xc.row,Xc.cs,Tw.cs,Lb.cs,Ar.cs,Ep.cs,lA,lB];refine z1 ?_;exact mg (.d (aw:=0) .n (λh=>by cases h)) (by simp only[Xc.row,Xc.cs,Tw.cs,Lb.cs,Ar.cs,Ep.cs,lA,lB];exact HQ))
 .rw[if_neg hb,show bq x 5 c 1=.c1 from if_neg hb];simp only[Xc.row,Xc.cs,Tw.cs,Lb.cs,Ar.cs,Ep.cs,lA,lB]
  (repeat' first|refine Zx.wb ?_|constructor|exact ZQ|intro _)
  all_goals apply zL
  rename_i a;refine Vx.bQ (own:=.obj q (.row (x.row 5 c Ns Ns 0 0 0 false 0 0))::.obj a (.row [.ptr q 0])::R) (by simp only[Xc.row,Xc.cs,Tw.cs,Lb.cs,Ar.cs,Ep.cs,lA,lB];exact HQ) ?_;have zr:=hb;unfold bA at zr;have xz:=hx;unfold Xc.ok Tw.ok Lb.ok Ep.ok Rs.ok at xz;refine Vx.spec (λB1 W1 S1 H=>Cs ⟨am,am,am,am⟩ H) ?_;rintro _ _ ⟨sv,L,lo,rfl,hf,hc,rfl⟩;cases hc with
  |@mk Jx tc N7 y6 Jy td log y8 s1 a1 w1 s2 a2 w2 p1 p2 p3 ha ht hg wQ=>
  refine z1 ?_;refine mg (lo:=_::_::_) (ft.c1 (o:=bW 5 c 1) (sv:=sv) (uv:=Ns) (i:=0) (key:=0) (aw:=0) (vx:=a) (p1:=p1) (a1:=p2) (b1:=p3) hf (bm.cons (p:=SQ q) ha (bm.cons (p:=dE 4 5 q) ht (bm.cons (p:=cf (x.own+c) 0) ⟨s1,a1,w1,rfl,rfl⟩ (bm.cons (p:=cf (x.r.runs+c) 18446744073709551615) ⟨s2,a2,w2,rfl,rfl⟩ (bm.cons (p:=ph q) hg (bm.cons (p:=i5 q) wQ .nil))))))) ?_;simp only[lA,lB,List.append_nil,lC];exact HQ
theorem CE (hx:x.ok)(hv:aI.sl v 4 (dA.gK l)∈ro)(hs:x.ex.ok l)(H:Cx B0 W S R ro):
  aN EM (zF 83) [.agg (x.cs++[v]),I c,I high] S λu S'=>∃ab,Fl x (bW 2 c high) (bq x 2 c high) R u ab/\Cx B0 W S' ab ro:=by
 (
  have hl:iV S v 4 (dA.gK l):=(H.ku hv).1;obtain⟨ov,cv⟩:=X.eu hl;simp only[Xc.cs,Tw.cs,Lb.cs,Ar.cs,Ep.cs,lA,lB];refine y1 H rfl ?_;intros;refine Vx.spec (λB1 W1 S1 H=>uj hx hv hs H) ?_;rintro _ _ ⟨q,rfl,rfl⟩)
 by_cases hb:bA x c high
 ·(
   rw[if_pos hb,show bq x _ c _=.d 0 0 3 false from if_pos hb];simp only[Xc.row,Xc.cs,Tw.cs,Lb.cs,Ar.cs,Ep.cs,lA,lB];refine z1 ?_;exact mg (.d (aw:=0) .n (λh=>by cases h)) (by simp only[Xc.row,Xc.cs,Tw.cs,Lb.cs,Ar.cs,Ep.cs,lA,lB];exact HQ))
 .rw[if_neg hb,show bq x 2 c high=.t1 .a from if_neg hb];simp only[Xc.row,Xc.cs,Tw.cs,Lb.cs,Ar.cs,Ep.cs,lA,lB];have xz:=hx;unfold Xc.ok Tw.ok Lb.ok Ep.ok Rs.ok at xz;have zr:=hb;unfold bA at zr
  (repeat' first|refine Zx.wb ?_|constructor|exact ZQ|intro _)
  all_goals apply zL
  rename_i a b d;refine Vx.bQ (own:=.obj q (.row (x.row 2 c Ns Ns 0 0 0 false 0 0))::.obj a (.row [.ptr q 0])::.obj d (.row [I (x.ring c).head,I (x.ring c).tail,I (x.ring c).fg,I (x.ring c).size])::.obj b (.row [I high])::R) (by simp only[Xc.ring,Xc.row,Xc.cs,Tw.cs,Lb.cs,Ar.cs,Ep.cs,lA,lB];exact HQ) ?_;refine Vx.spec (λB1 W1 S1 H=>E8 (r:=x.ring c) H) ?_;rintro _ _ ⟨sv,uv,L,U',lo,rfl,hf,hc,rfl⟩;cases hc with
  |@mk YS Jx tc y7 YT y6 KL YU Jy td y9 YV y8 KN hf1 ha ht hp hd wQ hu=>
  refine z1 ?_;refine mg (lo:=_::_::_) (ft.t1 (o:=bW 2 c high) (sv:=sv) (uv:=uv) (i:=0) (key:=0) (aw:=0) (vx:=a) (vb:=d) hf (.f hf1) (bm.cons (p:=dE 3 2 q) hu .nil) (bm.cons (p:=Mk a q) ha (bm.cons (p:=dE 2 3 q) ht (bm.cons (p:=DV a high q) hp (bm.cons (p:=vQ d a q) hd (bm.cons (p:=i5 q) wQ .nil)))))) ?_;simp only[lA,lB,List.append_nil,lC];exact HQ
end
theorem wg:∀{l} {i:Nat} {T},dA.kg l=0->l[i]?=some T->dA.xf T=0
 |[],i,T,_,h=>by simp at h
 |y::l,0,T,h0,h=>by
  injection h with h;subst h;unfold dA.kg at h0;split at h0
  .assumption
  .exact h0
 |y::l,i+1,T,h0,h=>by
  unfold dA.kg at h0;split at h0;.exact wg h0 h
  .exact absurd h0 be
theorem Mr {e:X.Ex}{l:List dA.Tk}{t:Int}(hs:e.ok l)(h0:0<=t)(h1:t<l.length):(0<=(sz l t).prio/\(sz l t).prio<=254)/\0<=(sz l t).every/\(sz l t).every<=1099511627776:=by
 have hc:=hs.2.1;unfold dA.oZ at hc;split at hc;.cases hc
 have hg:l[t.toNat]?=some (sz l t):=by unfold sz;rw[List.getElem?_eq_getElem am];rfl
 have h2:=wg hc hg;unfold dA.xf at h2;split at h2;.cases h2
 split at h2;.cases h2
 .omega
theorem Xc.rI {x:Xc}{l:List dA.Tk}(hs:x.ex.ok l):x.many=l.length:=hs.2.2.2.1
theorem IH {x:Xc}{l:List dA.Tk}{t now:Int}(hx:x.ok)(hs:x.ex.ok l)(hb:¬ec l.length t now):(m9 l t now).ok x:=by have hm:=Xc.rI hs;unfold ec at hb;have hT2:=Mr (t:=t) hs am am;unfold Xc.ok Tw.ok Lb.ok Ep.ok at hx;unfold Od.ok m9;dsimp only;refine⟨am,am,λ_=>?_⟩;omega
theorem oU {x}{k c high:Int}(hk:k≠1)(hb:¬bA x c high):(bW k c high).ok x:=by unfold bA at hb;unfold Od.ok bW;dsimp only;exact⟨am,am,λh=>absurd h hk⟩
instance acn:cK 179 where
section
variable{B0 S:AH}{W:List Nat}{R:List Own}{ro:List aI}{x:Xc}{v:AV}{l:List dA.Tk}{k c t now high:Int}{bad:Bool}
def xZ (x:Xc)(o:Od)(tv:AV)(hg:Int)(σ:aG)(R:List Own):AV->List Own->Prop:=λu ab=>∃q lo,u=.ptr q 0/\cd x o tv hg q 0 σ lo/\ab=lo++R
theorem ki {o tv}{hg:Int}{σ own}{q:Nat}{lo}(h:cd x o tv hg q 0 σ lo)(hs:Hs own (lo++R)):kx ro (xZ x o tv hg σ R) .ret [.ptr q 0] own ro:=⟨rfl,rfl,_,⟨q,lo,rfl,h,rfl⟩,hs⟩
theorem Bf (hx:x.ok)(hv:aI.sl v 4 (dA.gK l)∈ro)(hs:x.ex.ok l)(H:Cx B0 W S R ro):
  aN EM (zF 86) [.agg (x.cs++[v]),I c] S λu S'=>∃ab,xZ x (bW 3 c 1) v 1 (bq x 3 c 1) R u ab/\Cx B0 W S' ab ro:=by
 (
  have hl:iV S v 4 (dA.gK l):=(H.ku hv).1;obtain⟨ov,cv⟩:=X.eu hl;have hr:x.aq=x.t.l.e.ad:=hx.2.2.2.2.2.2.1;simp only[Xc.cA,Xc.ring,Xc.cs,Tw.cs,Lb.cs,Ar.cs,Ep.cs,lA,lB,lC];refine y1 H rfl ?_;intros;refine Vx.spec (Ψ:=λu ab=>u=B true/\ab=_) (λB1 W1 S1 H=>az (X.fS (e:=x.ex) hv H) λr S' h=>⟨_,⟨h.1.trans (congrArg B (decide_eq_true hs)),rfl⟩,H.grow h.2⟩) ?_;rintro _ _ ⟨rfl,rfl⟩)
 refine z4 ?_ ?_ ?_ ?_<;>intros
 all_goals first
  |(
    have hb:bA x c 1:=by unfold bA;omega
    rw[show bq x 3 c 1=.d 0 0 3 false from if_pos hb];exact ki (.d (o:=bW 3 c 1) (i':=0) (w':=0) (λh=>by cases h)) (by simp only[Xc.cA,Xc.ring,Xc.cs,Tw.cs,Lb.cs,Ar.cs,Ep.cs,lA,lB,lC];exact HQ))
  |(have hb:¬bA x c 1:=by unfold bA;omega
    rw[show bq x 3 c 1=.p1 from if_neg hb];exact ki (.p1 (o:=bW 3 c 1) (i:=0) (w:=0) rfl) (by simp only[Xc.cA,Xc.ring,Xc.cs,Tw.cs,Lb.cs,Ar.cs,Ep.cs,lA,lB,lC];exact HQ))
theorem zh (hx:x.ok)(hv:aI.sl v 4 (dA.gK l)∈ro)(hs:x.ex.ok l)(H:Cx B0 W S R ro):
  aN EM (zF 88) [.agg (x.cs++[v]),I c,I high] S λu S'=>∃ab,xZ x (bW 4 c high) v high (bq x 4 c high) R u ab/\Cx B0 W S' ab ro:=by
 (
  have hl:iV S v 4 (dA.gK l):=(H.ku hv).1;obtain⟨ov,cv⟩:=X.eu hl;have hr:x.aq=x.t.l.e.ad:=hx.2.2.2.2.2.2.1;simp only[Xc.cA,Xc.ring,Xc.cs,Tw.cs,Lb.cs,Ar.cs,Ep.cs,lA,lB,lC];refine y1 H rfl ?_;intros;refine Vx.spec (Ψ:=λu ab=>u=B true/\ab=_) (λB1 W1 S1 H=>az (X.fS (e:=x.ex) hv H) λr S' h=>⟨_,⟨h.1.trans (congrArg B (decide_eq_true hs)),rfl⟩,H.grow h.2⟩) ?_;rintro _ _ ⟨rfl,rfl⟩)
 (repeat' first|constructor|exact ZQ|intro _)
 all_goals apply zL
 all_goals first
  |(
    have hb:bA x c high:=by unfold bA;omega
    rw[show bq x 4 c high=.d 0 0 3 false from if_pos hb];exact ki (.d (o:=bW 4 c high) (i':=0) (w':=0) (λh=>by cases h)) (by simp only[Xc.cA,Xc.ring,Xc.cs,Tw.cs,Lb.cs,Ar.cs,Ep.cs,lA,lB,lC];exact HQ))
  |(have hb:¬bA x c high:=by unfold bA;omega
    rw[show bq x 4 c high=.s1 from if_neg hb];exact ki (.s1 (o:=bW 4 c high) (i:=0) (w:=0) rfl rfl) (by simp only[Xc.cA,Xc.ring,Xc.cs,Tw.cs,Lb.cs,Ar.cs,Ep.cs,lA,lB,lC];exact HQ))
theorem tL (hx:x.ok)(hv:aI.sl v 4 (dA.gK l)∈ro)(hs:x.ex.ok l)(H:Cx B0 W S R ro):
  aN EM (zF 90) [.agg (x.cs++[v]),I c] S λu S'=>∃ab,xZ x (bW 5 c 1) v 1 (bq x 5 c 1) R u ab/\Cx B0 W S' ab ro:=by
 (
  have hl:iV S v 4 (dA.gK l):=(H.ku hv).1;obtain⟨ov,cv⟩:=X.eu hl;have hr:x.aq=x.t.l.e.ad:=hx.2.2.2.2.2.2.1;simp only[Xc.cA,Xc.ring,Xc.cs,Tw.cs,Lb.cs,Ar.cs,Ep.cs,lA,lB,lC];refine y1 H rfl ?_;intros;refine Vx.spec (Ψ:=λu ab=>u=B true/\ab=_) (λB1 W1 S1 H=>az (X.fS (e:=x.ex) hv H) λr S' h=>⟨_,⟨h.1.trans (congrArg B (decide_eq_true hs)),rfl⟩,H.grow h.2⟩) ?_;rintro _ _ ⟨rfl,rfl⟩)
 refine z4 ?_ ?_ ?_ ?_<;>intros
 all_goals first
  |(
    have hb:bA x c 1:=by unfold bA;omega
    rw[show bq x 5 c 1=.d 0 0 3 false from if_pos hb];exact ki (.d (o:=bW 5 c 1) (i':=0) (w':=0) (λh=>by cases h)) (by simp only[Xc.cA,Xc.ring,Xc.cs,Tw.cs,Lb.cs,Ar.cs,Ep.cs,lA,lB,lC];exact HQ))
  |(have hb:¬bA x c 1:=by unfold bA;omega
    rw[show bq x 5 c 1=.c1 from if_neg hb];exact ki (.c1 (o:=bW 5 c 1) (i:=0) (w:=0) rfl) (by simp only[Xc.cA,Xc.ring,Xc.cs,Tw.cs,Lb.cs,Ar.cs,Ep.cs,lA,lB,lC];exact HQ))
theorem Bg (hx:x.ok)(hv:aI.sl v 4 (dA.gK l)∈ro)(hs:x.ex.ok l)(H:Cx B0 W S R ro):
  aN EM (zF 84) [.agg (x.cs++[v]),I c,I high] S λu S'=>∃ab,xZ x (bW 2 c high) v high (bq x 2 c high) R u ab/\Cx B0 W S' ab ro:=by
 have xz:=hx;unfold Xc.ok Tw.ok Lb.ok Ep.ok Rs.ok at xz;have em:¬(0<=c/\c<x.aq)\/(0<=c*(x.room+2)/\c*(x.room+2)<=1134):=by
  by_cases h:0<=c/\c<x.aq
  .refine .inr ⟨Int.mul_nonneg am am,?_⟩;have:=Int.mul_le_mul (show c<=63 by omega) (show x.room+2<=18 by omega) am am;omega
  .exact .inl h
 (
  have hl:iV S v 4 (dA.gK l):=(H.ku hv).1;obtain⟨ov,cv⟩:=X.eu hl;have hr:x.aq=x.t.l.e.ad:=hx.2.2.2.2.2.2.1;simp only[Xc.cA,Xc.ring,Xc.cs,Tw.cs,Lb.cs,Ar.cs,Ep.cs,lA,lB,lC];refine y1 H rfl ?_;intros;refine Vx.spec (Ψ:=λu ab=>u=B true/\ab=_) (λB1 W1 S1 H=>az (X.fS (e:=x.ex) hv H) λr S' h=>⟨_,⟨h.1.trans (congrArg B (decide_eq_true hs)),rfl⟩,H.grow h.2⟩) ?_;rintro _ _ ⟨rfl,rfl⟩)
 (repeat' first|constructor|exact ZQ|intro _)
 all_goals apply zL
 all_goals first
  |(
    have hb:bA x c high:=by unfold bA;omega
    rw[show bq x 2 c high=.d 0 0 3 false from if_pos hb];exact ki (.d (o:=bW 2 c high) (i':=0) (w':=0) (λh=>by cases h)) (by simp only[Xc.cA,Xc.ring,Xc.cs,Tw.cs,Lb.cs,Ar.cs,Ep.cs,lA,lB,lC];exact HQ))
  |skip
 have hb:¬bA x c high:=by unfold bA;omega
 rw[show bq x 2 c high=.t1 .a from if_neg hb];exact ki (lo:=_::_) (.t1 (o:=bW 2 c high) (i:=0) (w:=0) rfl rfl (.a (h:=0) (v:=0)) rfl) (by simp only[Xc.cA,Xc.ring,Xc.cs,Tw.cs,Lb.cs,Ar.cs,Ep.cs,lA,lB,lC];simp only[Rn.cs,bW,lA,lB];exact HQ)
theorem CF (hx:x.ok)(hv:aI.sl v 4 (dA.gK l)∈ro)(hs:x.ex.ok l)(H:Cx B0 W S R ro):
  aN EM (zF 82) [.agg (x.cs++[v]),I t,I now] S λu S'=>∃ab,xZ x (m9 l t now) v 0 (hH l.length t now) R u ab/\Cx B0 W S' ab ro:=by
 (
  have hl:iV S v 4 (dA.gK l):=(H.ku hv).1;obtain⟨ov,cv⟩:=X.eu hl;have hr:x.aq=x.t.l.e.ad:=hx.2.2.2.2.2.2.1;simp only[Xc.cA,Xc.ring,Xc.cs,Tw.cs,Lb.cs,Ar.cs,Ep.cs,lA,lB,lC];refine y1 H rfl ?_;intros;refine Vx.spec (Ψ:=λu ab=>u=B true/\ab=_) (λB1 W1 S1 H=>az (X.fS (e:=x.ex) hv H) λr S' h=>⟨_,⟨h.1.trans (congrArg B (decide_eq_true hs)),rfl⟩,H.grow h.2⟩) ?_;rintro _ _ ⟨rfl,rfl⟩)
 (repeat' first|refine Zx.av (v:=v) ?_|constructor|exact ZQ|intro _)
 all_goals apply zL
 .have hb:ec l.length t now:=by unfold ec;omega
  rw[show hH l.length t now=.d 0 0 3 false from if_pos hb];exact ki (.d (o:=m9 l t now) (i':=0) (w':=0) (λh=>by cases h)) (by simp only[Xc.cA,Xc.ring,Xc.cs,Tw.cs,Lb.cs,Ar.cs,Ep.cs,lA,lB,lC];exact HQ)
 refine Vx.FL hv ?_;rw[dA.hG];refine z4 ?_ ?_ ?_ ?_<;>intros
 all_goals first
  |(have hb:ec l.length t now:=by unfold ec;omega
    rw[show hH l.length t now=.d 0 0 3 false from if_pos hb];exact ki (.d (o:=m9 l t now) (i':=0) (w':=0) (λh=>by cases h)) (by simp only[Xc.cA,Xc.ring,Xc.cs,Tw.cs,Lb.cs,Ar.cs,Ep.cs,lA,lB,lC];exact HQ))
  |skip
 have hb:¬ec l.length t now:=by unfold ec;omega
 have hT2:=Mr (t:=t) hs am am;rw[show hH l.length t now=.r1 .a from if_neg hb];generalize hT:sz l t=T at hT2;have hm:=Xc.rI hs;have xz:=hx;unfold Xc.ok Tw.ok Lb.ok Ep.ok Rs.ok at xz;unfold ec at hb;refine Vx.ldT hv am (wc am am) (z:=I T.every) (by rw[hT];rfl) ?_;refine z1 ?_;intros;rw[show T.every%18446744073709551616=T.every by omega,show now%18446744073709551616=now by omega];exact ki (lo:=_::_) (.r1 (o:=m9 l t now) (i:=0) (w:=0) rfl (.a (w:=0)) rfl) (by unfold m9;rw[hT];simp only[Xc.cA,Xc.ring,Xc.cs,Tw.cs,Lb.cs,Ar.cs,Ep.cs,lA,lB,lC];exact HQ)
end
end Go.cG
