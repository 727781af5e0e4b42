/- Contracts. Conditions: in each theorem. -/
import Derived.Test.YtdfgboafnklioaaGreatM71
import Derived.Test.YtdfgboafnklioaaGreatM60
set_option linter.all false
set_option maxRecDepth 100000
set_option maxHeartbeats 4000000
namespace Go.cO
open Go.Proofs
def Xc.of (e:X.Ex):Xc:=⟨⟨e.t.nd,e.t.hd,e.t.ht,⟨⟨⟨e.t.Km,e.t.yS,e.t.rn⟩,e.t.km,e.t.lW,e.t.Fq⟩,⟨e.t.VN,e.t.pins,e.t.ah⟩,e.t.vd⟩⟩,e.r7,e.xt,⟨e.Qz,e.xu,⟨e.EO,e.r8,e.rp⟩⟩,e.r9,e.aJ,e.rq,⟨e.xw,e.r_,e.se⟩,e.own,e.seq⟩
theorem Xc.Ul (e:X.Ex)(v:AV):(Xc.of e).cs++[v]=e.cs v:=rfl
theorem KQ {s l}(h:s.lH l=0):(Xc.of (X.tt s l.length)).ok/\(X.tt s l.length).ok l/\1<=X.Cp s l.length/\X.Cp s l.length<=4096:=by
 obtain⟨hf,ht,h1,h2,h3,h4⟩:=X.Ic h;unfold X.Su.wJ at hf;refine⟨?_,?_,?_,?_⟩
 .unfold Xc.ok Tw.ok Lb.ok Ar.ok Sk.ok Ep.ok Jb.ok Sk.ok Rs.ok Xc.of X.tt;dsimp only;omega
 .unfold X.Ex.ok X.To.ok X.dJ X.tt;dsimp only;omega
 .unfold X.Cp X.tt;dsimp only;omega
 .unfold X.Cp X.tt;dsimp only;omega
theorem Iu {n:Nat}(h1:1<=n)(h2:n<=4096):(Me.fresh n).gd:=by unfold Me.gd Me.fresh;dsimp only;rw[List.length_replicate];refine⟨am,λw hw=>?_⟩;rw[(List.mem_replicate.1 hw).2];exact w0
theorem Vx.perm {M x K own ab ro Φ}(hp:own.Perm ab)(h:Vx M x K ab ro Φ):Vx M x K own ro Φ:=λB W S H=>h B W S (H.hX hp)
theorem DJ {a b R:List Own}:(a++(b++R)).Perm (b++(a++R)):=by rw[<-lC,<-lC];exact List.Perm.append_right R List.perm_append_comm
section
variable{B0 S:AH}{W:List Nat}{R:List Own}{ro:List aB}{x:Xc}{v:AV}{l:List dZ.Tk}{k c t now high:Int}{bad:Bool}
end
def tx (x:Xc)(l:List dZ.Tk)(c what t now high:Int):Od:=if what=1 then mW l t now else if what=2 then bY 2 c high else if what=3 then bY 3 c 1 else if what=4 then bY 4 c high else bY 5 c 1
def y5 (x:Xc)(l:List dZ.Tk)(c what t now high:Int):an:=if what=1 then gg l.length t now else if what=2 then aX x 2 c high else if what=3 then aX x 3 c 1 else if what=4 then aX x 4 c high else aX x 5 c 1
def KR (c what t now high:Int):Int:=if what=1 then 0 else if what=2 then high else if what=3 then 1 else if what=4 then high else 1
def L4 (x:Xc)(o:Od)(σ:an)(v:AV)(hg:Int)(R:List Own):AV->List Own->Prop:=λu ab=>∃q q' lo ki,u=.agg [.ptr q 0,.ptr q' 0]/\eP x o q 0 σ lo/\bU x o v hg q' 0 σ ki/\ab=lo++(ki++R)
theorem A7 {x o σ v}{hg:Int}{R own ro}{q q':Nat}{lo ki}(h:eP x o q 0 σ lo)(h':bU x o v hg q' 0 σ ki)(hs:Hs own (lo++(ki++R))):jy ro (L4 x o σ v hg R) .ret [.agg [.ptr q 0,.ptr q' 0]] own ro:=⟨rfl,rfl,_,⟨q,q',lo,ki,rfl,h,h',rfl⟩,hs⟩
section
variable{B0 S:AH}{W:List Nat}{R:List Own}{ro:List aB}{x:Xc}{v:AV}{l:List dZ.Tk}{c k what t now high:Int}
theorem Iv (hx:x.ok)(hv:aB.sl v 4 (dZ.ep l)∈ro)(hs:x.ex.ok l)(H:Cx B0 W S R ro):
  aG EM (zF 19) [.agg (x.cs++[v]),I c,.agg [I k,I what,I t,I now,I high]] S λu S'=>∃ab,L4 x (tx x l c what t now high) (y5 x l c what t now high) v (KR c what t now high) R u ab/\Cx B0 W S' ab ro:=by
 have hl:g_ S v 4 (dZ.ep l):=(H.hH hv).1;obtain⟨ov,cv,bv⟩:=dB hl;have Rv:AV.beq (.agg (x.cs++[v])) (.agg (x.cs++[v]))=true:=by simp only[Xc.cs,Tw.cs,Lb.cs,Ar.cs,Ep.cs,lA,lB];simp[AV.beq,sW,aY,gP,bv]
 simp only[Xc.cs,Tw.cs,Lb.cs,Ar.cs,Ep.cs,lA,lB] at Rv;simp only[Xc.cs,Tw.cs,Lb.cs,Ar.cs,Ep.cs,lA,lB];refine Vx.fm H rfl ?_
 (repeat' first|constructor|exact ZQ|intro _)
 all_goals apply zL
 all_goals first
  |(have e:what=1:=ci
    subst e;refine Vx.spec (λB1 W1 S1 H=>EU hv hs H) ?_;rintro _ _ ⟨q,lo,rfl,h,rfl⟩;refine z1 ?_;refine Vx.spec (λB1 W1 S1 H=>Cs hx hv hs H) ?_;rintro _ _ ⟨q',ki,rfl,h',rfl⟩;refine z1 ?_;exact A7 h h' HQ)
  |(have e:what=2:=ci
    subst e;refine Vx.spec (λB1 W1 S1 H=>Cr hx hv hs H) ?_;rintro _ _ ⟨q,lo,rfl,h,rfl⟩;refine z1 ?_;refine Vx.spec (λB1 W1 S1 H=>A5 hx hv hs H) ?_;rintro _ _ ⟨q',ki,rfl,h',rfl⟩;refine z1 ?_;exact A7 h h' HQ)
  |(have e:what=3:=ci
    subst e;refine Vx.spec (λB1 W1 S1 H=>Cq hx hv hs H) ?_;rintro _ _ ⟨q,lo,rfl,h,rfl⟩;refine z1 ?_;refine Vx.spec (λB1 W1 S1 H=>A4 hx hv hs H) ?_;rintro _ _ ⟨q',ki,rfl,h',rfl⟩;refine z1 ?_;exact A7 h h' HQ)
  |(have e:what=4:=ci
    subst e;refine Vx.spec (λB1 W1 S1 H=>A3 hx hv hs H) ?_;rintro _ _ ⟨q,lo,rfl,h,rfl⟩;refine z1 ?_;refine Vx.spec (λB1 W1 S1 H=>yU hx hv hs H) ?_;rintro _ _ ⟨q',ki,rfl,h',rfl⟩;refine z1 ?_;exact A7 h h' HQ)
  |skip
 have e1:what≠1:=ci;have e2:what≠2:=ci;have e3:what≠3:=ci;have e4:what≠4:=ci;refine Vx.spec (λB1 W1 S1 H=>vM hx hv hs H) ?_;rintro _ _ ⟨q,lo,rfl,h,rfl⟩;refine z1 ?_;refine Vx.spec (λB1 W1 S1 H=>tw hx hv hs H) ?_;rintro _ _ ⟨q',ki,rfl,h',rfl⟩;refine z1 ?_;have a1:tx x l c what t now high=bY 5 c 1:=by unfold tx;rw[if_neg e1,if_neg e2,if_neg e3,if_neg e4]
 have a2:y5 x l c what t now high=aX x 5 c 1:=by unfold y5;rw[if_neg e1,if_neg e2,if_neg e3,if_neg e4]
 have a3:KR c what t now high=1:=by unfold KR;rw[if_neg e1,if_neg e2,if_neg e3,if_neg e4]
 rw[a1,a2,a3];exact A7 h h' HQ
end
theorem A8 {n:Nat}{t now:Int}(h:(gg n t now).over=false):¬dR n t now:=by intro hb;unfold gg at h;rw[if_pos hb] at h;cases h
theorem jB {x}{k c high:Int}(h:(aX x k c high).over=false):¬bA x c high:=by intro hb;unfold aX at h;rw[if_pos hb] at h;cases h
theorem mO {x}{k c high:Int}:(aX x k c high).wd:=by unfold aX an.first;exact bC (P:=an.wd) trivial (bC (P:=an.wd) trivial (bC (P:=an.wd) trivial (bC (P:=an.wd) trivial (bC (P:=an.wd) trivial trivial))))
theorem EY {n:Nat}{t now:Int}:(gg n t now).wd:=bC (P:=an.wd) trivial trivial
section
variable{x:Xc}{l:List dZ.Tk}{c what t now high:Int}
theorem Pc (hx:x.ok)(hs:x.ex.ok l):((y5 x l c what t now high).over=false->(tx x l c what t now high).ok x)/\(y5 x l c what t now high).wd/\(tx x l c what t now high).k≠0:=by
 unfold y5 tx;by_cases h1:what=1
 .rw[if_pos h1,if_pos h1];exact⟨λh=>Ig hx hs (A8 h),EY,by unfold mW;dsimp only;omega⟩
 rw[if_neg h1,if_neg h1];by_cases h2:what=2
 .rw[if_pos h2,if_pos h2];exact⟨λh=>oF am (jB h),mO,by unfold bY;dsimp only;omega⟩
 rw[if_neg h2,if_neg h2];by_cases h3:what=3
 .rw[if_pos h3,if_pos h3];exact⟨λh=>oF am (jB h),mO,by unfold bY;dsimp only;omega⟩
 rw[if_neg h3,if_neg h3];by_cases h4:what=4
 .rw[if_pos h4,if_pos h4];exact⟨λh=>oF am (jB h),mO,by unfold bY;dsimp only;omega⟩
 rw[if_neg h4,if_neg h4];exact⟨λh=>oF am (jB h),mO,by unfold bY;dsimp only;omega⟩
theorem Pd {ro:List aB}{v:AV}(hs:x.ex.ok l)(hv:aB.sl v 4 (dZ.ep l)∈ro)(ho:(tx x l c what t now high).ok x)(hk:(tx x l c what t now high).k=1):
  ∃(L:List (List AV)) (cc:List AV),aB.sl v 4 L∈ro/\L[(tx x l c what t now high).tk.toNat]?=some cc/\cc[1]?=some (I (tx x l c what t now high).prio):=by
 have hm:=Xc.ru hs;unfold tx at*
 by_cases h1:what=1
 .rw[if_pos h1] at*
  have hb:=(ho.2.2 rfl).1;exact⟨dZ.ep l,(sf l t).cs,hv,vL hb.1 (by have:=hb.2;unfold mW at this;dsimp only at this;omega),rfl⟩
 rw[if_neg h1] at*
 exfalso;by_cases h2:what=2;.rw[if_pos h2] at hk;cases hk
 rw[if_neg h2] at hk;by_cases h3:what=3;.rw[if_pos h3] at hk;cases hk
 rw[if_neg h3] at hk;by_cases h4:what=4;.rw[if_pos h4] at hk;cases hk
 rw[if_neg h4] at hk;cases hk
end
instance Um {m:Nat}{most:Int}:VC EM (zF 33) [Np,.ptr m 0,I most] True (.dD [I 0,B true]):=.of rfl rfl λ_=>by show Zx EM false (Tryz.a33 _) _ _ _ _;refine z1 ?_;refine Vx.loop ?_;refine Zx.ok (n:=false) ?_;exact zZ
instance acq:cH 109 where
section
variable{B0 S:AH}{W:List Nat}{own R:List Own}{ro:List aB}{w:Nat}{v:AV}{y:Me}
theorem EZ (hy:y.ws.length<=4096)(H:Cx B0 W S (ai w v y++R) ro):aG EM (zF 29) [.ptr w 0] S λu S'=>∃ab,(ab=.sl u 1 (bq y.ws)::(ai w v y++R))/\Cx B0 W S' ab ro:=by
 unfold ai at H;simp only[lA,lB] at H;haveI:dH:=⟨⟩;refine y2 H rfl ?_ ?_<;>intros
 .rw[eD];simp only[List.map,List.length_nil];omega
 exact⟨rfl,rfl,_,rfl,by simp only[List.map,lB];unfold ai;exact HQ⟩
end
section
structure Ac5 where
 core:Int
 what:Int
 t:Int
 now:Int
 high:Int
def Ac5.cs (a:Ac5):List AV:=[I a.core,I a.what,I a.t,I a.now,I a.high]
instance abd {a n:Int}:VC EM (zF 18) [I a,I n] (n<=9223372036854775807) (I (pick a n)) where
 ok:=λhn S=>aw (JN rfl rfl hn) λr S1 ⟨hr,hs⟩=>⟨hr,by subst hs;exact aR.refl _⟩
theorem ry {a n:Int}(h:0<n):0<=pick a n/\pick a n<n:=by unfold pick;rw[if_neg am];exact⟨Int.emod_nonneg _ am,Int.emod_lt_of_pos _ h⟩
instance acr {n:Nat}[Mn n [25,23,26,24]]:cH n where
theorem Cx.A9 {B0 S W own ro}(H:Cx B0 W S own ro){i es:Nat}{u L}(hi:own[i]?=some (.sl u es L)):Cx B0 W S (own.eraseIdx i) (.sl u es L::ro):=by
 have kl:=List.mem_of_getElem? hi;have Af:∀x∈own.eraseIdx i,x∈own:=λx hx=>List.mem_of_mem_eraseIdx hx;have K:Cx B0 W S (own.eraseIdx i) ro:=H.yi (List.eraseIdx_sublist _ _);refine K.uP (iT (H.oh _ kl)) λj hj=>⟨(H.oi _ kl j hj).1,λx hx JL=>?_⟩;have hj:j∈(Own.sl u es L).ids:=hj;obtain⟨m,hm⟩:=List.getElem?_of_mem hx;have hp:=H.od;rw[List.pairwise_iff_getElem] at hp;obtain⟨Eg,uO⟩:=List.getElem?_eq_some_iff.1 hi;rw[List.getElem?_eraseIdx] at hm;split at hm
 .rename_i cA;obtain⟨Fm,vV⟩:=List.getElem?_eq_some_iff.1 hm;exact hp m i Fm Eg cA j (by rw[vV];exact JL) (by rw[uO];exact hj)
 .rename_i zw;obtain⟨Fm,vV⟩:=List.getElem?_eq_some_iff.1 hm;exact hp i (m+1) Eg Fm am j (by rw[uO];exact hj) (by rw[vV];exact JL)
theorem Cx.DK {B0 S S1 W own ro}(H:Cx B0 W S own ro){v}{es:Nat}{L}(K:Cx S [] S1 [.sl v es L] []):Cx B0 W S1 own (.sl v es L::ro):=by
 have H2:Cx B0 W S1 (.sl v es L::own) ro:=H.gD K.cr (K.oh _ (List.Mem.head _)) λid bQ=>by
  have:=K.oi _ (List.Mem.head _) id bQ;refine⟨?_,this.1⟩;have h2:=this.2;exact Nat.le_of_not_lt λh=>by have:=h2 h;simp at this
 exact H2.A9 (i:=0) rfl
def Y3:gn:=λt vs _ _=>t=.ret/\oneOf vs=B true
theorem Pe {f:Nat}{args b own ro B0 S W}(hk:EM.kn.v f ([]++(args++[]))=none)(hb:EM.iP f=some b)(h:Zx EM false (b ([]++(args++[]))) [] own ro Y3)(H:Cx B0 W S own ro):aG EM (.fn (.func f) [] []) args S λr _=>r=B true:=
 aV hk hb (wp_mono (h.ok B0 W S H) λt vs S' ⟨ab,GM,h1,h2⟩=>h1)
theorem Vx.Pf {M:cQ}{f:AV}{args:List AV}{k:AV->AC}{K:List Kf}{own:List Own}{ro:List aB}{Φ:gn}{P:AV->aB->Prop}(hc:∀B W S,Cx B W S own ro->aG M f args S λr S'=>∃φ,P r φ/\Cx B W S' own (φ::ro))(h:∀r φ,P r φ->Vx M (k r) K own (φ::ro) Φ):Vx M (.call f args k) K own ro Φ:=
 λB W S H=>bW (aw (hc B W S H) λr S' ⟨φ,h1,h2⟩=>h r φ h1 B W S' h2)
theorem Vx.Ql {M own ro Φ K v L c}{i:Int}{n:Nat}{k}(hv:aB.sl v n L∈ro)(hi:0<=i)(hc:L[i.toNat]?=some c)(h:∀id off,Vx M (k (.ptr id off)) K own (.pt id off c::ro) Φ):Vx M (.op (.da n v (I i)) k) K own ro Φ:=λB W S H=>by obtain⟨n',rfl⟩:∃n:Nat,i=n:=⟨i.toNat,am⟩;exact nO H hv (by simpa using hc) λid off H1=>h id off B W S H1
theorem Vx.tl {M x own ro φ Φ K}(h:Vx M x K own ro Φ):Vx M x K own (φ::ro) Φ:=λB W S H=>h B W S H.tl
theorem Vx.pt1 {M own ro Φ K}{id off f:Nat}{c v k}(hm:aB.pt id off c∈ro)(hv:c[f]?=some v)(h:Vx M (k v) K own ro Φ):Vx M (.op (.lG f (.ptr id off)) λp=>.op (.load 1 false p) k) K own ro Φ:=λB W S H=>by refine cV ?_;obtain⟨d,g1,g2⟩:=rO (j:=f) (H.rh _ hm) hv;exact ae (ju g1 g2) (h B W S H)
theorem Zx.aA {M own ro Φ K v i}{n:Nat}{k}(h:bL (Vx M (.op (.da n v i) k) K own ro Φ)):Zx M false (.op (.da n v i) k) K own ro Φ:=.z h
theorem hX {a b c d R o}:Hs (b++(d++(a++(c++(o::R))))) (a++(c++(b++(d++(o::R))))):=HQ
open dZ (Tk ep kq)
end
end Go.cO
