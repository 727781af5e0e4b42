/- Contracts of functions, over the abstract machine. Conditions: stated in each theorem. -/
import Derived.Test.YtdfgboafnklioaaGreatM32
import Derived.Test.YtdfgboafnklioaaGreatM60
import Derived.Test.YtdfgboafnklioaaGreatM52
set_option linter.all false
set_option maxRecDepth 100000
set_option maxHeartbeats 4000000
namespace Go.cY
open Go.Proofs
section
def Xc.ex (x:Xc):X.Ex:=⟨⟨x.t.nd,x.t.hd,x.t.ht,x.t.l.a.f.top,x.t.l.a.f.fJ,x.t.l.a.f.size,x.t.l.a.ju,x.t.l.a.pK,x.t.l.a.DN,x.t.l.e.cd,x.t.l.e.pins,x.t.l.e.ah,x.t.l.tN⟩,x.b9,x.many,x.j.bx,x.j.keys,x.j.f.top,x.j.f.fJ,x.j.f.size,x.iB,x.aH,x.room,x.r.runs,x.r.flags,x.r.ah,x.own,x.seq⟩
theorem Vx.QE {M own ro Φ K v L}{es:Nat}{k}(hv:aQ.sl v es L∈ro)(h:Zx M false (k (I L.length)) K own ro Φ):Vx M (.op (.len false v) k) K own ro Φ:=
 fun B W S H=>gO H hv (h.ok B W S H)
theorem Vx.VY {M own ro Φ K v L c}{i:Int}{k}(hv:aQ.sl v 4 L∈ro)(hi:0≤i)(hc:L[i.toNat]?=some c)(h4:c.length=4)(h:Zx M false (k (.agg c)) K own ro Φ):Vx M (.op (.fu 4 v (I i)) fun p=>.op (.load 4 true p) k) K own ro Φ:=fun B W S H=>by
 obtain⟨n,rfl⟩:∃n:Nat,i=n:=⟨i.toNat,by omega⟩
 refine mU H hv (by simpa using hc) fun id off H1=>?_
 refine pF (off:=off) (j:=0) H1 (List.Mem.head _) (by omega) ?_
 rw[List.drop_zero,List.take_of_length_le (by omega)]
 exact h.ok B W S H1.tl
theorem Zx.kz {M own ro Φ K v k}(h:ck (Vx M (.op (.len false v) k) K own ro Φ)):Zx M false (.op (.len false v) k) K own ro Φ:=.z h
section
variable{B0 S:AH}{W:List Nat}{R:List Own}{ro:List aQ}{x:Xc}{v:AV}{l:List dW.Tk}{k c t now high:Int}{bad:Bool}
theorem jl (hv:aQ.sl v 4 (dW.eK l)∈ro)(hs:x.ex.ok l)(H:Cx B0 W S R ro):
  aO EM (zF 173) [.agg (x.cs++[v]),I k,I c,B bad] S fun u S'=>∃ab,(∃q,u=.ptr q 0∧ab=.obj q (.row (x.row k c Ns Ns 0 0 0 false 0 (if bad=true then 3 else 0)))::R)∧Cx B0 W S' ab ro:=by
 have hl:gq S v 4 (dW.eK l):=(H.iy hv).1
 obtain⟨ov,cv⟩:=X.dt hl
 simp only[Xc.cs,Tw.cs,Lb.cs,Ar.cs,Ep.cs,lA,lB,lC]
 refine Vx.fm H rfl (b:=Tryz.a173) ?_
 (repeat' first|constructor|exact ZQ|intro _)
 all_goals apply zL
 refine Vx.spec (Ψ:=fun u ab=>u=B true∧ab=_) (fun B1 W1 S1 H=>az (X.wB (e:=x.ex) hv H) fun r S' h=>⟨_,⟨h.1.trans (congrArg B (decide_eq_true hs)),rfl⟩,H.grow h.2⟩) ?_
 rintro _ _ ⟨rfl,rfl⟩
 cases bad<;>(repeat' first|constructor|exact ZQ|intro _)<;>(all_goals first|exact ZM|try refine zL ?_)<;>exact⟨rfl,rfl,_,⟨_,rfl,rfl⟩,by simp only[Xc.row,Xc.cs,Tw.cs,Lb.cs,Ar.cs,Ep.cs,lA,lB,lC];exact HQ⟩
def dA (n:Nat)(t now:Int):Prop:=t<0∨n≤t∨now<0∨1099511627776<now
instance aae {n:Nat}{t now:Int}:Decidable (dA n t now):=inferInstanceAs (Decidable (_∨_))
theorem Zx.ui {M own ro Φ K args k}(h:ck (Vx M (.call (zF 174) args k) K own ro Φ)):Zx M false (.call (zF 174) args k) K own ro Φ:=.z h
instance aaf:cF 175 where
def Dr (x:Xc)(o:Od)(σ:av)(R:List Own):AV→List Own→Prop:=fun u ab=>∃q lo,u=.ptr q 0∧eF x o q 0 σ lo∧ab=lo++R
theorem kS {x o σ R own ro}{q:Nat}{lo}(h:eF x o q 0 σ lo)(hs:Hs own (lo++R)):mX ro (Dr x o σ R) .ret [.ptr q 0] own ro:=⟨rfl,rfl,_,⟨q,lo,rfl,h,rfl⟩,hs⟩
def gA (n:Nat)(t now:Int):av:=if dA n t now then .d 0 0 3 false else .r1 .a
def qU (l:List dW.Tk)(t:Int):dW.Tk:=l[t.toNat]?.getD ⟨0,0,0,0⟩
def mb (l:List dW.Tk)(t now:Int):Od:=⟨1,0,t,(qU l t).prio,(qU l t).every,now,1⟩
theorem uj {l}{t:Int}(h0:0≤t)(h1:t<l.length):(dW.eK l)[t.toNat]?=some (qU l t).cs:=by
 unfold dW.eK qU
 rw[List.getElem?_map,List.getElem?_eq_getElem (by omega)]
 rfl
theorem Ds (hv:aQ.sl v 4 (dW.eK l)∈ro)(hs:x.ex.ok l)(H:Cx B0 W S R ro):
  aO EM (zF 81) [.agg (x.cs++[v]),I t,I now] S fun u S'=>∃ab,Dr x (mb l t now) (gA l.length t now) R u ab∧Cx B0 W S' ab ro:=by
 have hl:gq S v 4 (dW.eK l):=(H.iy hv).1
 obtain⟨ov,cv⟩:=X.dt hl
 simp only[Xc.cs,Tw.cs,Lb.cs,Ar.cs,Ep.cs,lA,lB]
 refine Vx.fm H rfl (b:=Tryz.a81) ?_
 (repeat' first|refine Zx.kz (v:=v) ?_|constructor|exact ZQ|intro _)
 all_goals apply zL
 ·(
   have hb:dA l.length t now:=by unfold dA;omega
   refine Vx.spec (fun B1 W1 S1 H=>jl hv hs H) ?_
   rintro _ _ ⟨q,rfl,rfl⟩
   simp only[Xc.row,Xc.cs,Tw.cs,Lb.cs,Ar.cs,Ep.cs,lA,lB,if_true]
   (repeat' first|constructor|exact ZQ|intro _)
   all_goals apply zL
   rw[show gA l.length t now=.d 0 0 3 false from if_pos hb]
   exact kS (.d (au:=0) .n (fun h=>by cases h)) (by simp only[Xc.row,Xc.cs,Tw.cs,Lb.cs,Ar.cs,Ep.cs,lA,lB];exact HQ))
 refine Vx.QE hv ?_
 rw[dW.en]
 (repeat' first|constructor|exact ZQ|intro _)
 all_goals apply zL
 ·(
   have hb:dA l.length t now:=by unfold dA;omega
   refine Vx.spec (fun B1 W1 S1 H=>jl hv hs H) ?_
   rintro _ _ ⟨q,rfl,rfl⟩
   simp only[Xc.row,Xc.cs,Tw.cs,Lb.cs,Ar.cs,Ep.cs,lA,lB,if_true]
   (repeat' first|constructor|exact ZQ|intro _)
   all_goals apply zL
   rw[show gA l.length t now=.d 0 0 3 false from if_pos hb]
   exact kS (.d (au:=0) .n (fun h=>by cases h)) (by simp only[Xc.row,Xc.cs,Tw.cs,Lb.cs,Ar.cs,Ep.cs,lA,lB];exact HQ))
 ·(
   have hb:dA l.length t now:=by unfold dA;omega
   refine Vx.spec (fun B1 W1 S1 H=>jl hv hs H) ?_
   rintro _ _ ⟨q,rfl,rfl⟩
   simp only[Xc.row,Xc.cs,Tw.cs,Lb.cs,Ar.cs,Ep.cs,lA,lB,if_true]
   (repeat' first|constructor|exact ZQ|intro _)
   all_goals apply zL
   rw[show gA l.length t now=.d 0 0 3 false from if_pos hb]
   exact kS (.d (au:=0) .n (fun h=>by cases h)) (by simp only[Xc.row,Xc.cs,Tw.cs,Lb.cs,Ar.cs,Ep.cs,lA,lB];exact HQ))
 ·(
   have hb:dA l.length t now:=by unfold dA;omega
   refine Vx.spec (fun B1 W1 S1 H=>jl hv hs H) ?_
   rintro _ _ ⟨q,rfl,rfl⟩
   simp only[Xc.row,Xc.cs,Tw.cs,Lb.cs,Ar.cs,Ep.cs,lA,lB,if_true]
   (repeat' first|constructor|exact ZQ|intro _)
   all_goals apply zL
   rw[show gA l.length t now=.d 0 0 3 false from if_pos hb]
   exact kS (.d (au:=0) .n (fun h=>by cases h)) (by simp only[Xc.row,Xc.cs,Tw.cs,Lb.cs,Ar.cs,Ep.cs,lA,lB];exact HQ))
 have hb:¬dA l.length t now:=by unfold dA;omega
 refine Vx.spec (fun B1 W1 S1 H=>jl hv hs H) ?_
 rintro _ _ ⟨q,rfl,rfl⟩
 simp only[Xc.row,Xc.cs,Tw.cs,Lb.cs,Ar.cs,Ep.cs,lA,lB,Bool.false_eq_true,if_false]
 (repeat' first|constructor|exact ZQ|intro _)
 all_goals apply zL
 refine Vx.VY hv (by omega) (uj (by omega) (by omega)) rfl ?_
 generalize hT:qU l t=T
 simp only[dW.Tk.cs]
 (repeat' first|refine Zx.ui ?_|constructor|exact ZQ|intro _)
 all_goals apply zL
 rename_i a b c d
 refine Vx.cb (own:=.obj q (.row (x.row 1 0 Ns Ns 0 0 0 false 0 0))::.obj a (.row [.ptr q 0])::.obj c (.row [I t])::.obj b (.row [I T.kind,I T.prio,I T.every,I T.first])::.obj d (.row [I now])::R) (by simp only[Xc.row,Xc.cs,Tw.cs,Lb.cs,Ar.cs,Ep.cs,lA,lB];exact HQ) ?_
 refine Vx.spec (fun B1 W1 S1 H=>Dg H) ?_
 rintro _ _ ⟨sv,L,lo,rfl,hf,hc,rfl⟩
 cases hc with
 |@mk xH rB Ig cls xJ rC Ii Vz p1 hp ht hl bn=>
 (repeat' first|constructor|exact ZQ|intro _)
 all_goals apply zL
 rw[show gA l.length t now=.r1 .a from if_neg hb]
 refine kS (lo:=_::_::_) (eF.r1 (t0:=T.kind) (t3:=T.first) (sv:=sv) (uv:=Ns) (i:=0) (key:=0) (au:=0) (vx:=a) (vn:=c) (vt:=b) (vw:=d) hf rfl (.f hp) (ba.cons (p:=JC a q) ht (ba.cons (p:=Lh a b) ⟨p1,rfl,rfl⟩ (ba.cons (p:=Ch a q) hl (ba.cons (p:=zn a c q) bn .nil))))) ?_
 unfold mb
 rw[hT]
 simp only[lA,lB,List.append_nil,lC]
 exact HQ
def br (x:Xc)(c high:Int):Prop:=c<0∨x.t.l.e.ah≤c∨high<1∨x.t.ht<high
instance aag {x}{c high:Int}:Decidable (br x c high):=inferInstanceAs (Decidable (_∨_))
def bs (x:Xc)(k c high:Int):av:=if br x c high then .d 0 0 3 false else .first k
def bY (k c high:Int):Od:=⟨k,c,0,0,0,0,high⟩
theorem sD (hx:x.ok)(hv:aQ.sl v 4 (dW.eK l)∈ro)(hs:x.ex.ok l)(H:Cx B0 W S R ro):
  aO EM (zF 177) [.agg (x.cs++[v]),I k,I c,I high] S fun u S'=>∃ab,(∃q,u=.ptr q 0∧ab=.obj q (.row (x.row k c Ns Ns 0 0 0 false 0 (if br x c high then 3 else 0)))::R)∧Cx B0 W S' ab ro:=by
 have hl:gq S v 4 (dW.eK l):=(H.iy hv).1
 obtain⟨ov,cv⟩:=X.dt hl
 simp only[Xc.cs,Tw.cs,Lb.cs,Ar.cs,Ep.cs,lA,lB]
 refine Vx.fm H rfl (b:=Tryz.a177) ?_
 have hr:x.r.ah=x.t.l.e.ah:=hx.2.2.2.2.2.2.2.1
 (repeat' first|constructor|exact ZQ|intro _)
 all_goals apply zL
 all_goals first
  |(have hb:br x c high:=by unfold br;omega
    refine Vx.spec (fun B1 W1 S1 H=>jl hv hs H) ?_
    rintro _ _ ⟨q,rfl,rfl⟩
    rw[if_pos hb]
    simp only[if_true]
    (repeat' first|constructor|exact ZQ|intro _)
    all_goals apply zL
    exact⟨rfl,rfl,_,⟨_,rfl,rfl⟩,HQ⟩)
  |(have hb:¬br x c high:=by unfold br;omega
    refine Vx.spec (fun B1 W1 S1 H=>jl hv hs H) ?_
    rintro _ _ ⟨q,rfl,rfl⟩
    rw[if_neg hb]
    simp only[Bool.false_eq_true,if_false]
    (repeat' first|constructor|exact ZQ|intro _)
    all_goals apply zL
    exact⟨rfl,rfl,_,⟨_,rfl,rfl⟩,HQ⟩)
instance aah {n:Nat}[Mn n [178,182,183,184]]:cF n where
theorem Bb (hx:x.ok)(hv:aQ.sl v 4 (dW.eK l)∈ro)(hs:x.ex.ok l)(H:Cx B0 W S R ro):
  aO EM (zF 85) [.agg (x.cs++[v]),I c] S fun u S'=>∃ab,Dr x (bY 3 c 1) (bs x 3 c 1) R u ab∧Cx B0 W S' ab ro:=by
 (
  have hl:gq S v 4 (dW.eK l):=(H.iy hv).1
  obtain⟨ov,cv⟩:=X.dt hl
  simp only[Xc.cs,Tw.cs,Lb.cs,Ar.cs,Ep.cs,lA,lB]
  refine Vx.fm H rfl (b:=Tryz.a85) ?_
  (repeat' first|constructor|exact ZQ|intro _)
  all_goals apply zL
  refine Vx.spec (fun B1 W1 S1 H=>sD hx hv hs H) ?_
  rintro _ _ ⟨q,rfl,rfl⟩)
 by_cases hb:br x c 1
 ·(
   rw[if_pos hb,show bs x _ c _=.d 0 0 3 false from if_pos hb]
   simp only[Xc.row,Xc.cs,Tw.cs,Lb.cs,Ar.cs,Ep.cs,lA,lB]
   (repeat' first|constructor|exact ZQ|intro _)
   all_goals apply zL
   exact kS (.d (au:=0) .n (fun h=>by cases h)) (by simp only[Xc.row,Xc.cs,Tw.cs,Lb.cs,Ar.cs,Ep.cs,lA,lB];exact HQ))
 ·rw[if_neg hb,show bs x 3 c 1=.p1 from if_neg hb]
  simp only[Xc.row,Xc.cs,Tw.cs,Lb.cs,Ar.cs,Ep.cs,lA,lB]
  (repeat' first|refine Zx.ui ?_|constructor|exact ZQ|intro _)
  all_goals apply zL
  rename_i a
  refine Vx.cb (own:=.obj q (.row (x.row 3 c Ns Ns 0 0 0 false 0 0))::.obj a (.row [.ptr q 0])::R) (by simp only[Xc.row,Xc.cs,Tw.cs,Lb.cs,Ar.cs,Ep.cs,lA,lB];exact HQ) ?_
  refine Vx.spec (fun B1 W1 S1 H=>Dc H) ?_
  rintro _ _ ⟨sv,L,lo,rfl,hf,hc,rfl⟩
  cases hc with
  |@mk p1 p2 p3=>
  (repeat' first|constructor|exact ZQ|intro _)
  all_goals apply zL
  refine kS (lo:=_::_::_) (eF.p1 (o:=bY 3 c 1) (sv:=sv) (uv:=Ns) (i:=0) (key:=0) (au:=0) (vx:=a) (p1:=p1) (a1:=p2) (b1:=p3) hf .nil) ?_
  simp only[lA,lB,List.append_nil,lC]
  exact HQ
theorem zA (hx:x.ok)(hv:aQ.sl v 4 (dW.eK l)∈ro)(hs:x.ex.ok l)(H:Cx B0 W S R ro):
  aO EM (zF 87) [.agg (x.cs++[v]),I c,I high] S fun u S'=>∃ab,Dr x (bY 4 c high) (bs x 4 c high) R u ab∧Cx B0 W S' ab ro:=by
 (
  have hl:gq S v 4 (dW.eK l):=(H.iy hv).1
  obtain⟨ov,cv⟩:=X.dt hl
  simp only[Xc.cs,Tw.cs,Lb.cs,Ar.cs,Ep.cs,lA,lB]
  refine Vx.fm H rfl (b:=Tryz.a87) ?_
  (repeat' first|constructor|exact ZQ|intro _)
  all_goals apply zL
  refine Vx.spec (fun B1 W1 S1 H=>sD hx hv hs H) ?_
  rintro _ _ ⟨q,rfl,rfl⟩)
 by_cases hb:br x c high
 ·(
   rw[if_pos hb,show bs x _ c _=.d 0 0 3 false from if_pos hb]
   simp only[Xc.row,Xc.cs,Tw.cs,Lb.cs,Ar.cs,Ep.cs,lA,lB]
   (repeat' first|constructor|exact ZQ|intro _)
   all_goals apply zL
   exact kS (.d (au:=0) .n (fun h=>by cases h)) (by simp only[Xc.row,Xc.cs,Tw.cs,Lb.cs,Ar.cs,Ep.cs,lA,lB];exact HQ))
 ·rw[if_neg hb,show bs x 4 c high=.s1 from if_neg hb]
  simp only[Xc.row,Xc.cs,Tw.cs,Lb.cs,Ar.cs,Ep.cs,lA,lB]
  have tf:=hx
  unfold Xc.ok Tw.ok Lb.ok Ep.ok Rs.ok at tf
  have xX:=hb
  unfold br at xX
  (repeat' first|refine Zx.ui ?_|constructor|exact ZQ|intro _)
  all_goals apply zL
  rename_i a b d
  refine Vx.cb (own:=.obj q (.row (x.row 4 c Ns Ns 0 0 0 false 0 0))::.obj a (.row [.ptr q 0])::.obj b (.row [I high])::.obj d (.row [I (x.r.flags+c)])::R) (by simp only[Xc.row,Xc.cs,Tw.cs,Lb.cs,Ar.cs,Ep.cs,lA,lB];exact HQ) ?_
  refine Vx.spec (fun B1 W1 S1 H=>Dd ⟨by omega,by omega⟩ H) ?_
  rintro _ _ ⟨sv,L,lo,rfl,hf,hc,rfl⟩
  cases hc with
  |@mk p1 p2 p3 f1 s1 a1 w1=>
  (repeat' first|constructor|exact ZQ|intro _)
  all_goals apply zL
  refine kS (lo:=_::_::_) (eF.s1 (o:=bY 4 c high) (sv:=sv) (uv:=Ns) (i:=0) (key:=0) (au:=0) (vx:=a) (vh:=b) (vf:=d) (p1:=f1) hf (ba.cons (p:=bW (x.r.flags+c) 0) ⟨s1,a1,w1,rfl,rfl⟩ (ba.cons (p:=AX a b q) ⟨p1,p2,p3,rfl,rfl⟩ .nil))) ?_
  simp only[lA,lB,List.append_nil,lC]
  exact HQ
theorem uk (hx:x.ok)(hv:aQ.sl v 4 (dW.eK l)∈ro)(hs:x.ex.ok l)(H:Cx B0 W S R ro):
  aO EM (zF 89) [.agg (x.cs++[v]),I c] S fun u S'=>∃ab,Dr x (bY 5 c 1) (bs x 5 c 1) R u ab∧Cx B0 W S' ab ro:=by
 (
  have hl:gq S v 4 (dW.eK l):=(H.iy hv).1
  obtain⟨ov,cv⟩:=X.dt hl
  simp only[Xc.cs,Tw.cs,Lb.cs,Ar.cs,Ep.cs,lA,lB]
  refine Vx.fm H rfl (b:=Tryz.a89) ?_
  (repeat' first|constructor|exact ZQ|intro _)
  all_goals apply zL
  refine Vx.spec (fun B1 W1 S1 H=>sD hx hv hs H) ?_
  rintro _ _ ⟨q,rfl,rfl⟩)
 by_cases hb:br x c 1
 ·(
   rw[if_pos hb,show bs x _ c _=.d 0 0 3 false from if_pos hb]
   simp only[Xc.row,Xc.cs,Tw.cs,Lb.cs,Ar.cs,Ep.cs,lA,lB]
   (repeat' first|constructor|exact ZQ|intro _)
   all_goals apply zL
   exact kS (.d (au:=0) .n (fun h=>by cases h)) (by simp only[Xc.row,Xc.cs,Tw.cs,Lb.cs,Ar.cs,Ep.cs,lA,lB];exact HQ))
 ·rw[if_neg hb,show bs x 5 c 1=.c1 from if_neg hb]
  simp only[Xc.row,Xc.cs,Tw.cs,Lb.cs,Ar.cs,Ep.cs,lA,lB]
  (repeat' first|refine Zx.ui ?_|constructor|exact ZQ|intro _)
  all_goals apply zL
  rename_i a
  refine Vx.cb (own:=.obj q (.row (x.row 5 c Ns Ns 0 0 0 false 0 0))::.obj a (.row [.ptr q 0])::R) (by simp only[Xc.row,Xc.cs,Tw.cs,Lb.cs,Ar.cs,Ep.cs,lA,lB];exact HQ) ?_
  have xX:=hb
  unfold br at xX
  have tf:=hx
  unfold Xc.ok Tw.ok Lb.ok Ep.ok Rs.ok at tf
  refine Vx.spec (fun B1 W1 S1 H=>AU ⟨by omega,by omega,by omega,by omega⟩ H) ?_
  rintro _ _ ⟨sv,L,lo,rfl,hf,hc,rfl⟩
  cases hc with
  |@mk G9 rB Lf xG G_ rC log xI s1 a1 w1 s2 a2 w2 p1 p2 p3 ha ht hg zM=>
  (repeat' first|constructor|exact ZQ|intro _)
  all_goals apply zL
  refine kS (lo:=_::_::_) (eF.c1 (o:=bY 5 c 1) (sv:=sv) (uv:=Ns) (i:=0) (key:=0) (au:=0) (vx:=a) (p1:=p1) (a1:=p2) (b1:=p3) hf (ba.cons (p:=PL q) ha (ba.cons (p:=dc 4 5 q) ht (ba.cons (p:=bW (x.own+c) 0) ⟨s1,a1,w1,rfl,rfl⟩ (ba.cons (p:=bW (x.r.runs+c) 18446744073709551615) ⟨s2,a2,w2,rfl,rfl⟩ (ba.cons (p:=nZ q) hg (ba.cons (p:=ig q) zM .nil))))))) ?_
  simp only[lA,lB,List.append_nil,lC]
  exact HQ
theorem Bc (hx:x.ok)(hv:aQ.sl v 4 (dW.eK l)∈ro)(hs:x.ex.ok l)(H:Cx B0 W S R ro):
  aO EM (zF 83) [.agg (x.cs++[v]),I c,I high] S fun u S'=>∃ab,Dr x (bY 2 c high) (bs x 2 c high) R u ab∧Cx B0 W S' ab ro:=by
 (
  have hl:gq S v 4 (dW.eK l):=(H.iy hv).1
  obtain⟨ov,cv⟩:=X.dt hl
  simp only[Xc.cs,Tw.cs,Lb.cs,Ar.cs,Ep.cs,lA,lB]
  refine Vx.fm H rfl (b:=Tryz.a83) ?_
  (repeat' first|constructor|exact ZQ|intro _)
  all_goals apply zL
  refine Vx.spec (fun B1 W1 S1 H=>sD hx hv hs H) ?_
  rintro _ _ ⟨q,rfl,rfl⟩)
 by_cases hb:br x c high
 ·(
   rw[if_pos hb,show bs x _ c _=.d 0 0 3 false from if_pos hb]
   simp only[Xc.row,Xc.cs,Tw.cs,Lb.cs,Ar.cs,Ep.cs,lA,lB]
   (repeat' first|constructor|exact ZQ|intro _)
   all_goals apply zL
   exact kS (.d (au:=0) .n (fun h=>by cases h)) (by simp only[Xc.row,Xc.cs,Tw.cs,Lb.cs,Ar.cs,Ep.cs,lA,lB];exact HQ))
 ·rw[if_neg hb,show bs x 2 c high=.t1 .a from if_neg hb]
  simp only[Xc.row,Xc.cs,Tw.cs,Lb.cs,Ar.cs,Ep.cs,lA,lB]
  have tf:=hx
  unfold Xc.ok Tw.ok Lb.ok Ep.ok Rs.ok at tf
  have xX:=hb
  unfold br at xX
  (repeat' first|refine Zx.ui ?_|constructor|exact ZQ|intro _)
  all_goals apply zL
  rename_i a b d
  refine Vx.cb (own:=.obj q (.row (x.row 2 c Ns Ns 0 0 0 false 0 0))::.obj a (.row [.ptr q 0])::.obj d (.row [I (x.ring c).head,I (x.ring c).tail,I (x.ring c).eE,I (x.ring c).size])::.obj b (.row [I high])::R) (by simp only[Xc.ring,Xc.row,Xc.cs,Tw.cs,Lb.cs,Ar.cs,Ep.cs,lA,lB];exact HQ) ?_
  refine Vx.spec (fun B1 W1 S1 H=>Df (r:=x.ring c) H) ?_
  rintro _ _ ⟨sv,uv,L,U',lo,rfl,hf,hc,rfl⟩
  cases hc with
  |@mk Vu G9 rB xH Vv xG Ih Vw G_ rC xJ Vy xI Ij nk ha ht hp hd zM hu=>
  (repeat' first|constructor|exact ZQ|intro _)
  all_goals apply zL
  refine kS (lo:=_::_::_) (eF.t1 (o:=bY 2 c high) (sv:=sv) (uv:=uv) (i:=0) (key:=0) (au:=0) (vx:=a) (vb:=d) hf (.f nk) (ba.cons (p:=dc 3 2 q) hu .nil) (ba.cons (p:=JD a q) ha (ba.cons (p:=dc 2 3 q) ht (ba.cons (p:=Ci a high q) hp (ba.cons (p:=tY d a q) hd (ba.cons (p:=ig q) zM .nil)))))) ?_
  simp only[lA,lB,List.append_nil,lC]
  exact HQ
end
end
section
theorem um:∀{l} {i:Nat} {T},dW.jk l=0→l[i]?=some T→dW.vA T=0
 |[],i,T,_,h=>by simp at h
 |y::l,0,T,h0,h=>by
  injection h with h
  subst h
  unfold dW.jk at h0
  split at h0
  ·assumption
  ·exact h0
 |y::l,i+1,T,h0,h=>by
  unfold dW.jk at h0
  split at h0
  ·exact um h0 h
  ·exact absurd h0 (by assumption)
theorem JK {e:X.Ex}{l:List dW.Tk}{t:Int}(hs:e.ok l)(h0:0≤t)(h1:t<l.length):(0≤(qU l t).prio∧(qU l t).prio≤254)∧0≤(qU l t).every∧(qU l t).every≤1099511627776:=by
 have hc:=hs.2.1
 unfold dW.ni at hc
 split at hc
 ·cases hc
 have hg:l[t.toNat]?=some (qU l t):=by
  unfold qU
  rw[List.getElem?_eq_getElem (by omega)]
  rfl
 have h2:=um hc hg
 unfold dW.vA at h2
 split at h2
 ·cases h2
 split at h2
 ·cases h2
 ·omega
theorem Xc.qj {x:Xc}{l:List dW.Tk}(hs:x.ex.ok l):x.many=l.length:=hs.2.2.2.1
theorem GJ {x:Xc}{l:List dW.Tk}{t now:Int}(hx:x.ok)(hs:x.ex.ok l)(hb:¬dA l.length t now):(mb l t now).ok x:=by
 have hm:=Xc.qj hs
 unfold dA at hb
 have XI:=JK (t:=t) hs (by omega) (by omega)
 unfold Xc.ok Tw.ok Lb.ok Ep.ok at hx
 unfold Od.ok mb
 dsimp only
 refine⟨by omega,by omega,fun _=>?_⟩
 omega
theorem nJ {x}{k c high:Int}(hk:k≠1)(hb:¬br x c high):(bY k c high).ok x:=by
 unfold br at hb
 unfold Od.ok bY
 dsimp only
 exact⟨by omega,by omega,fun h=>absurd h hk⟩
instance aai:cF 179 where
section
variable{B0 S:AH}{W:List Nat}{R:List Own}{ro:List aQ}{x:Xc}{v:AV}{l:List dW.Tk}{k c t now high:Int}{bad:Bool}
def wC (x:Xc)(o:Od)(tv:AV)(hg:Int)(σ:av)(R:List Own):AV→List Own→Prop:=fun u ab=>∃q lo,u=.ptr q 0∧bM x o tv hg q 0 σ lo∧ab=lo++R
theorem jm {o tv}{hg:Int}{σ own}{q:Nat}{lo}(h:bM x o tv hg q 0 σ lo)(hs:Hs own (lo++R)):mX ro (wC x o tv hg σ R) .ret [.ptr q 0] own ro:=⟨rfl,rfl,_,⟨q,lo,rfl,h,rfl⟩,hs⟩
theorem zB (hx:x.ok)(hv:aQ.sl v 4 (dW.eK l)∈ro)(hs:x.ex.ok l)(H:Cx B0 W S R ro):
  aO EM (zF 86) [.agg (x.cs++[v]),I c] S fun u S'=>∃ab,wC x (bY 3 c 1) v 1 (bs x 3 c 1) R u ab∧Cx B0 W S' ab ro:=by
 (
  have hl:gq S v 4 (dW.eK l):=(H.iy hv).1
  obtain⟨ov,cv⟩:=X.dt hl
  have hr:x.aH=x.t.l.e.ah:=hx.2.2.2.2.2.2.1
  simp only[Xc.bX,Xc.ring,Xc.cs,Tw.cs,Lb.cs,Ar.cs,Ep.cs,lA,lB,lC]
  refine Vx.fm H rfl (b:=Tryz.a86) ?_
  (repeat' first|constructor|exact ZQ|intro _)
  all_goals apply zL
  refine Vx.spec (Ψ:=fun u ab=>u=B true∧ab=_) (fun B1 W1 S1 H=>az (X.gV (e:=x.ex) hv H) fun r S' h=>⟨_,⟨h.1.trans (congrArg B (decide_eq_true hs)),rfl⟩,H.grow h.2⟩) ?_
  rintro _ _ ⟨rfl,rfl⟩)
 (repeat' first|constructor|exact ZQ|intro _)
 all_goals apply zL
 all_goals first
  |(
    have hb:br x c 1:=by unfold br;omega
    rw[show bs x 3 c 1=.d 0 0 3 false from if_pos hb]
    exact jm (.d (o:=bY 3 c 1) (i':=0) (w':=0) (fun h=>by cases h)) (by simp only[Xc.bX,Xc.ring,Xc.cs,Tw.cs,Lb.cs,Ar.cs,Ep.cs,lA,lB,lC];exact HQ))
  |(have hb:¬br x c 1:=by unfold br;omega
    rw[show bs x 3 c 1=.p1 from if_neg hb]
    exact jm (.p1 (o:=bY 3 c 1) (i:=0) (w:=0) rfl) (by simp only[Xc.bX,Xc.ring,Xc.cs,Tw.cs,Lb.cs,Ar.cs,Ep.cs,lA,lB,lC];exact HQ))
theorem xR (hx:x.ok)(hv:aQ.sl v 4 (dW.eK l)∈ro)(hs:x.ex.ok l)(H:Cx B0 W S R ro):
  aO EM (zF 88) [.agg (x.cs++[v]),I c,I high] S fun u S'=>∃ab,wC x (bY 4 c high) v high (bs x 4 c high) R u ab∧Cx B0 W S' ab ro:=by
 (
  have hl:gq S v 4 (dW.eK l):=(H.iy hv).1
  obtain⟨ov,cv⟩:=X.dt hl
  have hr:x.aH=x.t.l.e.ah:=hx.2.2.2.2.2.2.1
  simp only[Xc.bX,Xc.ring,Xc.cs,Tw.cs,Lb.cs,Ar.cs,Ep.cs,lA,lB,lC]
  refine Vx.fm H rfl (b:=Tryz.a88) ?_
  (repeat' first|constructor|exact ZQ|intro _)
  all_goals apply zL
  refine Vx.spec (Ψ:=fun u ab=>u=B true∧ab=_) (fun B1 W1 S1 H=>az (X.gV (e:=x.ex) hv H) fun r S' h=>⟨_,⟨h.1.trans (congrArg B (decide_eq_true hs)),rfl⟩,H.grow h.2⟩) ?_
  rintro _ _ ⟨rfl,rfl⟩)
 (repeat' first|constructor|exact ZQ|intro _)
 all_goals apply zL
 all_goals first
  |(
    have hb:br x c high:=by unfold br;omega
    rw[show bs x 4 c high=.d 0 0 3 false from if_pos hb]
    exact jm (.d (o:=bY 4 c high) (i':=0) (w':=0) (fun h=>by cases h)) (by simp only[Xc.bX,Xc.ring,Xc.cs,Tw.cs,Lb.cs,Ar.cs,Ep.cs,lA,lB,lC];exact HQ))
  |(have hb:¬br x c high:=by unfold br;omega
    rw[show bs x 4 c high=.s1 from if_neg hb]
    exact jm (.s1 (o:=bY 4 c high) (i:=0) (w:=0) rfl rfl) (by simp only[Xc.bX,Xc.ring,Xc.cs,Tw.cs,Lb.cs,Ar.cs,Ep.cs,lA,lB,lC];exact HQ))
theorem se (hx:x.ok)(hv:aQ.sl v 4 (dW.eK l)∈ro)(hs:x.ex.ok l)(H:Cx B0 W S R ro):
  aO EM (zF 90) [.agg (x.cs++[v]),I c] S fun u S'=>∃ab,wC x (bY 5 c 1) v 1 (bs x 5 c 1) R u ab∧Cx B0 W S' ab ro:=by
 (
  have hl:gq S v 4 (dW.eK l):=(H.iy hv).1
  obtain⟨ov,cv⟩:=X.dt hl
  have hr:x.aH=x.t.l.e.ah:=hx.2.2.2.2.2.2.1
  simp only[Xc.bX,Xc.ring,Xc.cs,Tw.cs,Lb.cs,Ar.cs,Ep.cs,lA,lB,lC]
  refine Vx.fm H rfl (b:=Tryz.a90) ?_
  (repeat' first|constructor|exact ZQ|intro _)
  all_goals apply zL
  refine Vx.spec (Ψ:=fun u ab=>u=B true∧ab=_) (fun B1 W1 S1 H=>az (X.gV (e:=x.ex) hv H) fun r S' h=>⟨_,⟨h.1.trans (congrArg B (decide_eq_true hs)),rfl⟩,H.grow h.2⟩) ?_
  rintro _ _ ⟨rfl,rfl⟩)
 (repeat' first|constructor|exact ZQ|intro _)
 all_goals apply zL
 all_goals first
  |(
    have hb:br x c 1:=by unfold br;omega
    rw[show bs x 5 c 1=.d 0 0 3 false from if_pos hb]
    exact jm (.d (o:=bY 5 c 1) (i':=0) (w':=0) (fun h=>by cases h)) (by simp only[Xc.bX,Xc.ring,Xc.cs,Tw.cs,Lb.cs,Ar.cs,Ep.cs,lA,lB,lC];exact HQ))
  |(have hb:¬br x c 1:=by unfold br;omega
    rw[show bs x 5 c 1=.c1 from if_neg hb]
    exact jm (.c1 (o:=bY 5 c 1) (i:=0) (w:=0) rfl) (by simp only[Xc.bX,Xc.ring,Xc.cs,Tw.cs,Lb.cs,Ar.cs,Ep.cs,lA,lB,lC];exact HQ))
theorem zC (hx:x.ok)(hv:aQ.sl v 4 (dW.eK l)∈ro)(hs:x.ex.ok l)(H:Cx B0 W S R ro):
  aO EM (zF 84) [.agg (x.cs++[v]),I c,I high] S fun u S'=>∃ab,wC x (bY 2 c high) v high (bs x 2 c high) R u ab∧Cx B0 W S' ab ro:=by
 have tf:=hx
 unfold Xc.ok Tw.ok Lb.ok Ep.ok Rs.ok at tf
 have em:¬(0≤c∧c<x.aH)∨(0≤c*(x.room+2)∧c*(x.room+2)≤1134):=by
  by_cases h:0≤c∧c<x.aH
  ·refine .inr ⟨Int.mul_nonneg (by omega) (by omega),?_⟩
   have:=Int.mul_le_mul (show c≤63 by omega) (show x.room+2≤18 by omega) (by omega) (by omega)
   omega
  ·exact .inl h
 (
  have hl:gq S v 4 (dW.eK l):=(H.iy hv).1
  obtain⟨ov,cv⟩:=X.dt hl
  have hr:x.aH=x.t.l.e.ah:=hx.2.2.2.2.2.2.1
  simp only[Xc.bX,Xc.ring,Xc.cs,Tw.cs,Lb.cs,Ar.cs,Ep.cs,lA,lB,lC]
  refine Vx.fm H rfl (b:=Tryz.a84) ?_
  (repeat' first|constructor|exact ZQ|intro _)
  all_goals apply zL
  refine Vx.spec (Ψ:=fun u ab=>u=B true∧ab=_) (fun B1 W1 S1 H=>az (X.gV (e:=x.ex) hv H) fun r S' h=>⟨_,⟨h.1.trans (congrArg B (decide_eq_true hs)),rfl⟩,H.grow h.2⟩) ?_
  rintro _ _ ⟨rfl,rfl⟩)
 (repeat' first|constructor|exact ZQ|intro _)
 all_goals apply zL
 all_goals first
  |(
    have hb:br x c high:=by unfold br;omega
    rw[show bs x 2 c high=.d 0 0 3 false from if_pos hb]
    exact jm (.d (o:=bY 2 c high) (i':=0) (w':=0) (fun h=>by cases h)) (by simp only[Xc.bX,Xc.ring,Xc.cs,Tw.cs,Lb.cs,Ar.cs,Ep.cs,lA,lB,lC];exact HQ))
  |skip
 have hb:¬br x c high:=by unfold br;omega
 rw[show bs x 2 c high=.t1 .a from if_neg hb]
 exact jm (lo:=_::_) (.t1 (o:=bY 2 c high) (i:=0) (w:=0) rfl rfl (.a (h:=0) (v:=0)) rfl) (by simp only[Xc.bX,Xc.ring,Xc.cs,Tw.cs,Lb.cs,Ar.cs,Ep.cs,lA,lB,lC];simp only[Rn.cs,bY,lA,lB];exact HQ)
theorem Bd (hx:x.ok)(hv:aQ.sl v 4 (dW.eK l)∈ro)(hs:x.ex.ok l)(H:Cx B0 W S R ro):
  aO EM (zF 82) [.agg (x.cs++[v]),I t,I now] S fun u S'=>∃ab,wC x (mb l t now) v 0 (gA l.length t now) R u ab∧Cx B0 W S' ab ro:=by
 (
  have hl:gq S v 4 (dW.eK l):=(H.iy hv).1
  obtain⟨ov,cv⟩:=X.dt hl
  have hr:x.aH=x.t.l.e.ah:=hx.2.2.2.2.2.2.1
  simp only[Xc.bX,Xc.ring,Xc.cs,Tw.cs,Lb.cs,Ar.cs,Ep.cs,lA,lB,lC]
  refine Vx.fm H rfl (b:=Tryz.a82) ?_
  (repeat' first|constructor|exact ZQ|intro _)
  all_goals apply zL
  refine Vx.spec (Ψ:=fun u ab=>u=B true∧ab=_) (fun B1 W1 S1 H=>az (X.gV (e:=x.ex) hv H) fun r S' h=>⟨_,⟨h.1.trans (congrArg B (decide_eq_true hs)),rfl⟩,H.grow h.2⟩) ?_
  rintro _ _ ⟨rfl,rfl⟩)
 (repeat' first|refine Zx.kz (v:=v) ?_|constructor|exact ZQ|intro _)
 all_goals apply zL
 ·have hb:dA l.length t now:=by unfold dA;omega
  rw[show gA l.length t now=.d 0 0 3 false from if_pos hb]
  exact jm (.d (o:=mb l t now) (i':=0) (w':=0) (fun h=>by cases h)) (by simp only[Xc.bX,Xc.ring,Xc.cs,Tw.cs,Lb.cs,Ar.cs,Ep.cs,lA,lB,lC];exact HQ)
 refine Vx.QE hv ?_
 rw[dW.en]
 (repeat' first|constructor|exact ZQ|intro _)
 all_goals apply zL
 all_goals first
  |(have hb:dA l.length t now:=by unfold dA;omega
    rw[show gA l.length t now=.d 0 0 3 false from if_pos hb]
    exact jm (.d (o:=mb l t now) (i':=0) (w':=0) (fun h=>by cases h)) (by simp only[Xc.bX,Xc.ring,Xc.cs,Tw.cs,Lb.cs,Ar.cs,Ep.cs,lA,lB,lC];exact HQ))
  |skip
 have hb:¬dA l.length t now:=by unfold dA;omega
 have XI:=JK (t:=t) hs (by omega) (by omega)
 rw[show gA l.length t now=.r1 .a from if_neg hb]
 generalize hT:qU l t=T at XI
 have hm:=Xc.qj hs
 have tf:=hx
 unfold Xc.ok Tw.ok Lb.ok Ep.ok Rs.ok at tf
 unfold dA at hb
 refine Vx.XH hv (by omega) (uj (by omega) (by omega)) (z:=I T.every) (by rw[hT];rfl) ?_
 (repeat' first|constructor|exact ZQ|intro _)
 all_goals apply zL
 rw[show T.every%18446744073709551616=T.every by omega,show now%18446744073709551616=now by omega]
 exact jm (lo:=_::_) (.r1 (o:=mb l t now) (i:=0) (w:=0) rfl (.a (w:=0)) rfl) (by unfold mb;rw[hT];simp only[Xc.bX,Xc.ring,Xc.cs,Tw.cs,Lb.cs,Ar.cs,Ep.cs,lA,lB,lC];exact HQ)
end
end
end Go.cY
