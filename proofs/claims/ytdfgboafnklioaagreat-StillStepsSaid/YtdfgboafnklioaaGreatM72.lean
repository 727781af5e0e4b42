/- Contracts. Conditions: in each theorem. -/
import Derived.Test.YtdfgboafnklioaaGreatM71
import Derived.Test.YtdfgboafnklioaaGreatM60
set_option linter.all false
set_option maxRecDepth 100000
set_option maxHeartbeats 4000000
namespace Go.cI
open Go.Proofs
def Xc.of (e:X.Ex):Xc:=⟨⟨e.t.nd,e.t.hd,e.t.ht,⟨⟨⟨e.t.Ku,e.t.yX,e.t.q8⟩,e.t.iY,e.t.iJ,e.t.Dk⟩,⟨e.t.VN,e.t.pins,e.t.ae⟩,e.t.rP⟩⟩,e.rX,e.xK,⟨e.Ql,e.xL,⟨e.EZ,e.rY,e.q9⟩⟩,e.rZ,e.aI,e.q_,⟨e.xM,e.r7,e.r8⟩,e.own,e.seq⟩
theorem Xc.T_ (e:X.Ex)(v:AV):(Xc.of e).cs++[v]=e.cs v:=rfl
theorem KW {s l}(h:s.lN l=0):(Xc.of (X.tx s l.length)).ok/\(X.tx s l.length).ok l/\1<=X.CC s l.length/\X.CC s l.length<=4096:=by
 obtain⟨hf,ht,h1,h2,h3,h4⟩:=X.CD h;unfold X.Su.tw at hf;refine⟨?_,?_,?_,?_⟩
 .unfold Xc.ok Tw.ok Lb.ok Ar.ok Sk.ok Ep.ok Jb.ok Sk.ok Rs.ok Xc.of X.tx;dsimp only;omega
 .unfold X.Ex.ok X.To.ok X.dB X.tx;dsimp only;omega
 .unfold X.CC X.tx;dsimp only;omega
 .unfold X.CC X.tx;dsimp only;omega
theorem wa {n:Nat}(h1:1<=n)(h2:n<=4096):(Me.fresh n).gd:=by unfold Me.gd Me.fresh;dsimp only;rw[List.length_replicate];refine⟨am,λw hw=>?_⟩;rw[(List.mem_replicate.1 hw).2];exact w0
theorem Vx.perm {M x K own ab ro Φ}(hp:own.Perm ab)(h:Vx M x K ab ro Φ):Vx M x K own ro Φ:=λB W S H=>h B W S (H.gF hp)
theorem DR {a b R:List Own}:(a++(b++R)).Perm (b++(a++R)):=by rw[<-lC,<-lC];exact List.Perm.append_right R List.perm_append_comm
section
variable{B0 S:AH}{W:List Nat}{R:List Own}{ro:List aF}{x:Xc}{v:AV}{l:List cX.Tk}{k c t now high:Int}{bad:Bool}
end
def tA (x:Xc)(l:List cX.Tk)(c what t now high:Int):Od:=if what=1 then mJ l t now else if what=2 then aY 2 c high else if what=3 then aY 3 c 1 else if what=4 then aY 4 c high else aY 5 c 1
def CJ (x:Xc)(l:List cX.Tk)(c what t now high:Int):az:=if what=1 then gx l.length t now else if what=2 then aM x 2 c high else if what=3 then aM x 3 c 1 else if what=4 then aM x 4 c high else aM x 5 c 1
def KX (c what t now high:Int):Int:=if what=1 then 0 else if what=2 then high else if what=3 then 1 else if what=4 then high else 1
def Mc (x:Xc)(o:Od)(σ:az)(v:AV)(hg:Int)(R:List Own):AV->List Own->Prop:=λu ab=>∃q q' lo i4,u=.agg [.ptr q 0,.ptr q' 0]/\dR x o q 0 σ lo/\bH x o v hg q' 0 σ i4/\ab=lo++(i4++R)
theorem Bj {x o σ v}{hg:Int}{R own ro}{q q':Nat}{lo i4}(h:dR x o q 0 σ lo)(h':bH x o v hg q' 0 σ i4)(hs:Hs own (lo++(i4++R))):gQ ro (Mc x o σ v hg R) .ret [.agg [.ptr q 0,.ptr q' 0]] own ro:=⟨rfl,rfl,_,⟨q,q',lo,i4,rfl,h,h',rfl⟩,hs⟩
section
variable{B0 S:AH}{W:List Nat}{R:List Own}{ro:List aF}{x:Xc}{v:AV}{l:List cX.Tk}{c k what t now high:Int}
theorem Iv (hx:x.ok)(hv:aF.sl v 4 (cX.dm l)∈ro)(hs:x.ex.ok l)(H:Cx B0 W S R ro):
  aG EM (zF 19) [.agg (x.cs++[v]),I c,.agg [I k,I what,I t,I now,I high]] S λu S'=>∃ab,Mc x (tA x l c what t now high) (CJ x l c what t now high) v (KX c what t now high) R u ab/\Cx B0 W S' ab ro:=by
 have hl:gl S v 4 (cX.dm l):=(H.eT hv).1;obtain⟨ov,cv,bv⟩:=bx hl;have ym:AV.beq (.agg (x.cs++[v])) (.agg (x.cs++[v]))=true:=by simp only[Xc.cs,Tw.cs,Lb.cs,Ar.cs,Ep.cs,lA,lB];simp[AV.beq,lQ,aH,dX,bv]
 simp only[Xc.cs,Tw.cs,Lb.cs,Ar.cs,Ep.cs,lA,lB] at ym;simp only[Xc.cs,Tw.cs,Lb.cs,Ar.cs,Ep.cs,lA,lB];refine Vx.fm H rfl ?_
 (repeat' first|constructor|exact ZQ|intro _)
 all_goals apply zL
 all_goals first
  |(have e:what=1:=ci
    subst e;refine Vx.spec (λB1 W1 S1 H=>E2 hv hs H) ?_;rintro _ _ ⟨q,lo,rfl,h,rfl⟩;refine z1 ?_;refine Vx.spec (λB1 W1 S1 H=>CF hx hv hs H) ?_;rintro _ _ ⟨q',i4,rfl,h',rfl⟩;refine z1 ?_;exact Bj h h' HQ)
  |(have e:what=2:=ci
    subst e;refine Vx.spec (λB1 W1 S1 H=>vV hx hv hs H) ?_;rintro _ _ ⟨q,lo,rfl,h,rfl⟩;refine z1 ?_;refine Vx.spec (λB1 W1 S1 H=>sV hx hv hs H) ?_;rintro _ _ ⟨q',i4,rfl,h',rfl⟩;refine z1 ?_;exact Bj h h' HQ)
  |(have e:what=3:=ci
    subst e;refine Vx.spec (λB1 W1 S1 H=>vT hx hv hs H) ?_;rintro _ _ ⟨q,lo,rfl,h,rfl⟩;refine z1 ?_;refine Vx.spec (λB1 W1 S1 H=>sU hx hv hs H) ?_;rintro _ _ ⟨q',i4,rfl,h',rfl⟩;refine z1 ?_;exact Bj h h' HQ)
  |(have e:what=4:=ci
    subst e;refine Vx.spec (λB1 W1 S1 H=>sT hx hv hs H) ?_;rintro _ _ ⟨q,lo,rfl,h,rfl⟩;refine z1 ?_;refine Vx.spec (λB1 W1 S1 H=>rb hx hv hs H) ?_;rintro _ _ ⟨q',i4,rfl,h',rfl⟩;refine z1 ?_;exact Bj h h' HQ)
  |skip
 have e1:what≠1:=ci;have e2:what≠2:=ci;have e3:what≠3:=ci;have e4:what≠4:=ci;refine Vx.spec (λB1 W1 S1 H=>vU hx hv hs H) ?_;rintro _ _ ⟨q,lo,rfl,h,rfl⟩;refine z1 ?_;refine Vx.spec (λB1 W1 S1 H=>tz hx hv hs H) ?_;rintro _ _ ⟨q',i4,rfl,h',rfl⟩;refine z1 ?_;have a1:tA x l c what t now high=aY 5 c 1:=by unfold tA;rw[if_neg e1,if_neg e2,if_neg e3,if_neg e4]
 have a2:CJ x l c what t now high=aM x 5 c 1:=by unfold CJ;rw[if_neg e1,if_neg e2,if_neg e3,if_neg e4]
 have a3:KX c what t now high=1:=by unfold KX;rw[if_neg e1,if_neg e2,if_neg e3,if_neg e4]
 rw[a1,a2,a3];exact Bj h h' HQ
end
theorem Bk {n:Nat}{t now:Int}(h:(gx n t now).over=false):¬dI n t now:=by intro hb;unfold gx at h;rw[if_pos hb] at h;cases h
theorem ft {x}{k c high:Int}(h:(aM x k c high).over=false):¬bu x c high:=by intro hb;unfold aM at h;rw[if_pos hb] at h;cases h
theorem gY {x}{k c high:Int}:(aM x k c high).wd:=by unfold aM az.first;exact bA (P:=az.wd) trivial (bA (P:=az.wd) trivial (bA (P:=az.wd) trivial (bA (P:=az.wd) trivial (bA (P:=az.wd) trivial trivial))))
theorem E6 {n:Nat}{t now:Int}:(gx n t now).wd:=bA (P:=az.wd) trivial trivial
section
variable{x:Xc}{l:List cX.Tk}{c what t now high:Int}
theorem Pm (hx:x.ok)(hs:x.ex.ok l):((CJ x l c what t now high).over=false->(tA x l c what t now high).ok x)/\(CJ x l c what t now high).wd/\(tA x l c what t now high).k≠0:=by
 unfold CJ tA;by_cases h1:what=1
 .rw[if_pos h1,if_pos h1];exact⟨λh=>Ii hx hs (Bk h),E6,by unfold mJ;dsimp only;omega⟩
 rw[if_neg h1,if_neg h1];by_cases h2:what=2
 .rw[if_pos h2,if_pos h2];exact⟨λh=>je am (ft h),gY,by unfold aY;dsimp only;omega⟩
 rw[if_neg h2,if_neg h2];by_cases h3:what=3
 .rw[if_pos h3,if_pos h3];exact⟨λh=>je am (ft h),gY,by unfold aY;dsimp only;omega⟩
 rw[if_neg h3,if_neg h3];by_cases h4:what=4
 .rw[if_pos h4,if_pos h4];exact⟨λh=>je am (ft h),gY,by unfold aY;dsimp only;omega⟩
 rw[if_neg h4,if_neg h4];exact⟨λh=>je am (ft h),gY,by unfold aY;dsimp only;omega⟩
theorem Pn {ro:List aF}{v:AV}(hs:x.ex.ok l)(hv:aF.sl v 4 (cX.dm l)∈ro)(ho:(tA x l c what t now high).ok x)(hk:(tA x l c what t now high).k=1):
  ∃(L:List (List AV)) (cc:List AV),aF.sl v 4 L∈ro/\L[(tA x l c what t now high).tk.toNat]?=some cc/\cc[1]?=some (I (tA x l c what t now high).prio):=by
 have hm:=Xc.ra hs;unfold tA at*
 by_cases h1:what=1
 .rw[if_pos h1] at*
  have hb:=(ho.2.2 rfl).1;exact⟨cX.dm l,(r9 l t).cs,hv,vS hb.1 (by have:=hb.2;unfold mJ at this;dsimp only at this;omega),rfl⟩
 rw[if_neg h1] at*
 exfalso;by_cases h2:what=2;.rw[if_pos h2] at hk;cases hk
 rw[if_neg h2] at hk;by_cases h3:what=3;.rw[if_pos h3] at hk;cases hk
 rw[if_neg h3] at hk;by_cases h4:what=4;.rw[if_pos h4] at hk;cases hk
 rw[if_neg h4] at hk;cases hk
end
instance Ua {m:Nat}{most:Int}:VC EM (zF 33) [Np,.ptr m 0,I most] True (.dh [I 0,B true]):=.of rfl rfl λ_=>by show Zx EM false (Tryz.a33 _) _ _ _ _;refine z1 ?_;refine Vx.loop ?_;refine Zx.ok (n:=false) ?_;exact zZ
instance acu:cA 109 where
section
variable{B0 S:AH}{W:List Nat}{own R:List Own}{ro:List aF}{w:Nat}{v:AV}{y:Me}
theorem E7 (hy:y.ws.length<=4096)(H:Cx B0 W S (ai w v y++R) ro):aG EM (zF 29) [.ptr w 0] S λu S'=>∃ab,(ab=.sl u 1 (aJ y.ws)::(ai w v y++R))/\Cx B0 W S' ab ro:=by
 unfold ai at H;simp only[lA,lB] at H;haveI:dx:=⟨⟩;refine y2 H rfl ?_ ?_<;>intros
 .rw[bZ];simp only[List.map,List.length_nil];omega
 exact⟨rfl,rfl,_,rfl,by simp only[List.map,lB];unfold ai;exact HQ⟩
theorem hsF {a c d R}:Hs (a::(c++(d++R))) (d++(a::(c++R))):=HQ
theorem hsG {a b c d R}:Hs (b::(d++(a::(c++R)))) (a::b::(c++(d++R))):=HQ
end
section
structure JW where
 core:Int
 what:Int
 t:Int
 now:Int
 high:Int
def JW.cs (a:JW):List AV:=[I a.core,I a.what,I a.t,I a.now,I a.high]
def rN (l:List JW):List (List AV):=l.map JW.cs
theorem Bl (l:List JW):(rN l).length=l.length:=List.length_map ..
instance abf {a n:Int}:VC EM (zF 18) [I a,I n] (n<=9223372036854775807) (I (pick a n)) where
 ok:=λhn S=>ar (JP rfl rfl hn) λr S1 ⟨hr,hs⟩=>⟨hr,by subst hs;exact bj.refl _⟩
theorem KY {a n:Int}(h:0<n):0<=pick a n/\pick a n<n:=by unfold pick;rw[if_neg am];exact⟨Int.emod_nonneg _ am,Int.emod_lt_of_pos _ h⟩
instance Zf:VC EM (zF 31) [] True (B true) where
 ok:=λ_ S=>M5 rfl ⟨rfl,bj.refl _⟩
instance acv {n:Nat}[Mn n [25,23,26,24]]:cA n where
theorem Cx.Iw {B0 S W own ro}(H:Cx B0 W S own ro){i es:Nat}{u L}(hi:own[i]?=some (.sl u es L)):Cx B0 W S (own.eraseIdx i) (.sl u es L::ro):=by
 have jL:=List.mem_of_getElem? hi;have Es:∀x∈own.eraseIdx i,x∈own:=λx hx=>List.mem_of_mem_eraseIdx hx;have K:Cx B0 W S (own.eraseIdx i) ro:=H.yu (List.eraseIdx_sublist _ _);refine K.oC (ij (H.oh _ jL)) λj hj=>⟨(H.oi _ jL j hj).1,λx hx JO=>?_⟩;have hj:j∈(Own.sl u es L).ids:=hj;obtain⟨m,hm⟩:=List.getElem?_of_mem hx;have hp:=H.od;rw[List.pairwise_iff_getElem] at hp;obtain⟨At,wK⟩:=List.getElem?_eq_some_iff.1 hi;rw[List.getElem?_eraseIdx] at hm;split at hm
 .rename_i du;obtain⟨zu,xg⟩:=List.getElem?_eq_some_iff.1 hm;exact hp m i zu At du j (by rw[xg];exact JO) (by rw[wK];exact hj)
 .rename_i Fc;obtain⟨zu,xg⟩:=List.getElem?_eq_some_iff.1 hm;exact hp i (m+1) At zu am j (by rw[wK];exact hj) (by rw[xg];exact JO)
theorem Cx.Md {B0 S S1 W own ro}(H:Cx B0 W S own ro){v}{es:Nat}{L}(K:Cx S [] S1 [.sl v es L] []):Cx B0 W S1 own (.sl v es L::ro):=by
 have H2:Cx B0 W S1 (.sl v es L::own) ro:=H.gM K.cq (K.oh _ (List.Mem.head _)) λid bR=>by
  have:=K.oi _ (List.Mem.head _) id bR;refine⟨?_,this.1⟩;have h2:=this.2;exact Nat.le_of_not_lt λh=>by have:=h2 h;simp at this
 exact H2.Iw (i:=0) rfl
def Zg:ma:=λt vs _ _=>t=.ret/\oneOf vs=B true
theorem Po {f:Nat}{args b own ro B0 S W}(hk:EM.kn.v f ([]++(args++[]))=none)(hb:EM.iA f=some b)(h:Zx EM false (b ([]++(args++[]))) [] own ro Zg)(H:Cx B0 W S own ro):aG EM (.fn (.func f) [] []) args S λr _=>r=B true:=
 bk hk hb (wp_mono (h.ok B0 W S H) λt vs S' ⟨ab,LF,h1,h2⟩=>h1)
theorem Vx.Zh {M:dS}{f:AV}{args:List AV}{k:AV->AC}{K:List Kf}{own:List Own}{ro:List aF}{Φ:ma}{P:AV->aF->Prop}(hc:∀B W S,Cx B W S own ro->aG M f args S λr S'=>∃φ,P r φ/\Cx B W S' own (φ::ro))(h:∀r φ,P r φ->Vx M (k r) K own (φ::ro) Φ):Vx M (.call f args k) K own ro Φ:=
 λB W S H=>bW (ar (hc B W S H) λr S' ⟨φ,h1,h2⟩=>h r φ h1 B W S' h2)
theorem Vx.Nj {M own ro Φ K v L c}{i:Int}{n:Nat}{k}(hv:aF.sl v n L∈ro)(hi:0<=i)(hc:L[i.toNat]?=some c)(h:∀id off,Vx M (k (.ptr id off)) K own (.pt id off c::ro) Φ):Vx M (.op (.dp n v (I i)) k) K own ro Φ:=λB W S H=>by obtain⟨n',rfl⟩:∃n:Nat,i=n:=⟨i.toNat,am⟩;exact nA H hv (by simpa using hc) λid off H1=>h id off B W S H1
theorem Vx.tl {M x own ro φ Φ K}(h:Vx M x K own ro Φ):Vx M x K own (φ::ro) Φ:=λB W S H=>h B W S H.tl
theorem Vx.ptl {M own ro Φ K}{id off n:Nat}{c k}(hm:aF.pt id off c∈ro)(hn:c.length=n)(h:Vx M (k (.agg c)) K own ro Φ):Vx M (.op (.load n true (.ptr id off)) k) K own ro Φ:=λB W S H=>by refine qz (off:=off) (j:=0) H hm am ?_;rw[List.drop_zero,List.take_of_length_le am];exact h B W S H
theorem Vx.pt1 {M own ro Φ K}{id off f:Nat}{c v k}(hm:aF.pt id off c∈ro)(hv:c[f]?=some v)(h:Vx M (k v) K own ro Φ):Vx M (.op (.jO f (.ptr id off)) λp=>.op (.load 1 false p) k) K own ro Φ:=λB W S H=>by refine cD ?_;obtain⟨d,g1,g2⟩:=rJ (j:=f) (H.rh _ hm) hv;exact ah (iX g1 g2) (h B W S H)
theorem Zx.aK {M own ro Φ K v i}{n:Nat}{k}(h:bL (Vx M (.op (.dp n v i) k) K own ro Φ)):Zx M false (.op (.dp n v i) k) K own ro Φ:=.z h
theorem gF {a b c d R o}:Hs (b++(d++(a++(c++(o::R))))) (a++(c++(b++(d++(o::R))))):=HQ
open cX (Tk dm mR)
end
end Go.cI
