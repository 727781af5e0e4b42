/- Contracts of functions, over the abstract machine. Conditions: stated in each theorem. -/
import Derived.Test.YtdfgboafnklioaaGreatM71
import Derived.Test.YtdfgboafnklioaaGreatM60
set_option linter.all false
set_option maxRecDepth 100000
set_option maxHeartbeats 4000000
namespace Go.cY
open Go.Proofs
section
def Xc.of (e:X.Ex):Xc:=⟨⟨e.t.nd,e.t.hd,e.t.ht,⟨⟨⟨e.t.Iv,e.t.xP,e.t.qg⟩,e.t.ju,e.t.pK,e.t.DN⟩,⟨e.t.Sx,e.t.pins,e.t.ah⟩,e.t.tN⟩⟩,e.qP,e.wy,⟨e.ND,e.wz,⟨e.Dq,e.qQ,e.qh⟩⟩,e.qR,e.aH,e.qi,⟨e.wA,e.qS,e.qT⟩,e.own,e.seq⟩
theorem Xc.Rk (e:X.Ex)(v:AV):(Xc.of e).cs++[v]=e.cs v:=rfl
theorem I0 {s l}(h:s.kA l=0):(Xc.of (X.sd s l.length)).ok∧(X.sd s l.length).ok l∧1≤X.A9 s l.length∧X.A9 s l.length≤4096:=by
 obtain⟨hf,ht,h1,h2,h3,h4⟩:=X.A_ h
 unfold X.Su.sb at hf
 refine⟨?_,?_,?_,?_⟩
 ·unfold Xc.ok Tw.ok Lb.ok Ar.ok Sk.ok Ep.ok Jb.ok Sk.ok Rs.ok Xc.of X.sd
  dsimp only
  omega
 ·unfold X.Ex.ok X.To.ok X.dq X.sd
  dsimp only
  omega
 ·unfold X.A9 X.sd
  dsimp only
  omega
 ·unfold X.A9 X.sd
  dsimp only
  omega
theorem ux {n:Nat}(h1:1≤n)(h2:n≤4096):(Me.fresh n).gd:=by
 unfold Me.gd Me.fresh
 dsimp only
 rw[List.length_replicate]
 refine⟨by omega,fun w hw=>?_⟩
 rw[(List.mem_replicate.1 hw).2]
 exact w0
theorem Vx.perm {M x K own ab ro Φ}(hp:own.Perm ab)(h:Vx M x K ab ro Φ):Vx M x K own ro Φ:=fun B W S H=>h B W S (H.gw hp)
theorem Cs {a b R:List Own}:(a++(b++R)).Perm (b++(a++R)):=by
 rw[←lC,←lC]
 exact List.Perm.append_right R List.perm_append_comm
section
variable{B0 S:AH}{W:List Nat}{R:List Own}{ro:List aQ}{x:Xc}{v:AV}{l:List dW.Tk}{k c t now high:Int}{bad:Bool}
theorem zE {n:Nat}(hx:x.ok)(hv:aQ.sl v 4 (dW.eK l)∈ro)(hs:x.ex.ok l)(h1:1≤n)(h2:n≤4096)(H:Cx B0 W S R ro):
  aO EM (zF 32) [.agg (x.cs++[v]),I (n:Int),Ns] S fun u S'=>∃ab,(∃m bl w vm,u=.cP [.ptr m 0,.ptr w 0]∧ab=ad m bl (x.fill (Me.fresh n)) (List.replicate (4096-n) (U 0))++(aj w vm (x.fill (Me.fresh n))++R))∧Cx B0 W S' ab ro:=by
 have hl:gq S v 4 (dW.eK l):=(H.iy hv).1
 obtain⟨ov,cv⟩:=X.dt hl
 have Rm:bG 100000000 (Me.fresh n):=⟨ux h1 h2,by unfold Me.fresh;dsimp only;omega⟩
 simp only[Xc.cs,Tw.cs,Lb.cs,Ar.cs,Ep.cs,lA,lB]
 refine Vx.fm H rfl (b:=Tryz.a32) ?_
 (repeat' first|refine Zx.bk 14 ?_|refine Zx.bk 15 ?_|constructor|exact ZQ|intro _)
 all_goals apply zL
 refine Vx.spec (Ψ:=fun u ab=>∃m bl,u=.cP [.ptr m 0,I 0]∧ab=ad m bl (Me.fresh n) (List.replicate (4096-n) (U 0))++_) (fun B1 W1 S1 H=>az (IY h1 h2 H) fun r S' ⟨m,bl,h,H'⟩=>⟨_,⟨m,bl,h,rfl⟩,H'⟩) ?_
 rintro _ _ ⟨m,bl,rfl,rfl⟩
 (repeat' first|refine Zx.bk 14 ?_|refine Zx.bk 15 ?_|constructor|exact ZQ|intro _)
 all_goals apply zL
 refine Vx.spec (Ψ:=fun u ab=>∃w vm,u=.cP [.ptr w 0,I 0]∧ab=aj w vm (Me.fresh n)++_) (fun B1 W1 S1 H=>az (IZ h1 h2 H) fun r S' ⟨m,bl,h,H'⟩=>⟨_,⟨m,bl,h,rfl⟩,H'⟩) ?_
 rintro _ _ ⟨w,vm,rfl,rfl⟩
 (repeat' first|refine Zx.bk 14 ?_|refine Zx.bk 15 ?_|constructor|exact ZQ|intro _)
 all_goals apply zL
 refine Vx.perm Cs ?_
 refine Vx.spec (fun B1 W1 S1 H=>MP hx hv hs Rm H) ?_
 rintro _ _ ⟨rfl,rfl⟩
 (repeat' first|refine Zx.bk 14 ?_|refine Zx.bk 15 ?_|constructor|exact ZQ|intro _)
 all_goals apply zL
 refine Vx.perm Cs ?_
 refine Vx.spec (fun B1 W1 S1 H=>IX hx hv hs Rm H) ?_
 rintro _ _ ⟨rfl,rfl⟩
 (repeat' first|constructor|exact ZQ|intro _)
 all_goals apply zL
 refine Vx.loop ?_
 refine Zx.ok (n:=false) ?_
 (repeat' first|constructor|exact ZQ|intro _)
 all_goals apply zL
 refine⟨rfl,rfl,_,⟨m,bl,w,vm,rfl,rfl⟩,?_⟩
 generalize ad m bl _ _=MM
 generalize aj w vm _=NN
 exact HQ
end
end
section
def sf (x:Xc)(l:List dW.Tk)(c what t now high:Int):Od:=if what=1 then mb l t now else if what=2 then bY 2 c high else if what=3 then bY 3 c 1 else if what=4 then bY 4 c high else bY 5 c 1
def Bj (x:Xc)(l:List dW.Tk)(c what t now high:Int):av:=if what=1 then gA l.length t now else if what=2 then bs x 2 c high else if what=3 then bs x 3 c 1 else if what=4 then bs x 4 c high else bs x 5 c 1
def I1 (c what t now high:Int):Int:=if what=1 then 0 else if what=2 then high else if what=3 then 1 else if what=4 then high else 1
def JS (x:Xc)(o:Od)(σ:av)(v:AV)(hg:Int)(R:List Own):AV→List Own→Prop:=fun u ab=>∃q q' lo lO,u=.agg [.ptr q 0,.ptr q' 0]∧eF x o q 0 σ lo∧bM x o v hg q' 0 σ lO∧ab=lo++(lO++R)
theorem zG {x o σ v}{hg:Int}{R own ro}{q q':Nat}{lo lO}(h:eF x o q 0 σ lo)(h':bM x o v hg q' 0 σ lO)(hs:Hs own (lo++(lO++R))):mX ro (JS x o σ v hg R) .ret [.agg [.ptr q 0,.ptr q' 0]] own ro:=⟨rfl,rfl,_,⟨q,q',lo,lO,rfl,h,h',rfl⟩,hs⟩
section
variable{B0 S:AH}{W:List Nat}{R:List Own}{ro:List aQ}{x:Xc}{v:AV}{l:List dW.Tk}{c k what t now high:Int}
theorem GX (hx:x.ok)(hv:aQ.sl v 4 (dW.eK l)∈ro)(hs:x.ex.ok l)(H:Cx B0 W S R ro):
  aO EM (zF 19) [.agg (x.cs++[v]),I c,.agg [I k,I what,I t,I now,I high]] S fun u S'=>∃ab,JS x (sf x l c what t now high) (Bj x l c what t now high) v (I1 c what t now high) R u ab∧Cx B0 W S' ab ro:=by
 have hl:gq S v 4 (dW.eK l):=(H.iy hv).1
 obtain⟨ov,cv,bv⟩:=ft hl
 have KF:AV.beq (.agg (x.cs++[v])) (.agg (x.cs++[v]))=true:=by
  simp only[Xc.cs,Tw.cs,Lb.cs,Ar.cs,Ep.cs,lA,lB]
  simp[AV.beq,o8,aP,fD,bv]
 simp only[Xc.cs,Tw.cs,Lb.cs,Ar.cs,Ep.cs,lA,lB] at KF
 simp only[Xc.cs,Tw.cs,Lb.cs,Ar.cs,Ep.cs,lA,lB]
 refine Vx.fm H rfl (b:=Tryz.a19) ?_
 (repeat' first|constructor|exact ZQ|intro _)
 all_goals apply zL
 all_goals first
  |(have e:what=1:=by assumption
    subst e
    refine Vx.spec (fun B1 W1 S1 H=>Ds hv hs H) ?_
    rintro _ _ ⟨q,lo,rfl,h,rfl⟩
    (repeat' first|constructor|exact ZQ|intro _)
    all_goals apply zL
    refine Vx.spec (fun B1 W1 S1 H=>Bd hx hv hs H) ?_
    rintro _ _ ⟨q',lO,rfl,h',rfl⟩
    (repeat' first|constructor|exact ZQ|intro _)
    all_goals apply zL
    exact zG h h' HQ)
  |(have e:what=2:=by assumption
    subst e
    refine Vx.spec (fun B1 W1 S1 H=>Bc hx hv hs H) ?_
    rintro _ _ ⟨q,lo,rfl,h,rfl⟩
    (repeat' first|constructor|exact ZQ|intro _)
    all_goals apply zL
    refine Vx.spec (fun B1 W1 S1 H=>zC hx hv hs H) ?_
    rintro _ _ ⟨q',lO,rfl,h',rfl⟩
    (repeat' first|constructor|exact ZQ|intro _)
    all_goals apply zL
    exact zG h h' HQ)
  |(have e:what=3:=by assumption
    subst e
    refine Vx.spec (fun B1 W1 S1 H=>Bb hx hv hs H) ?_
    rintro _ _ ⟨q,lo,rfl,h,rfl⟩
    (repeat' first|constructor|exact ZQ|intro _)
    all_goals apply zL
    refine Vx.spec (fun B1 W1 S1 H=>zB hx hv hs H) ?_
    rintro _ _ ⟨q',lO,rfl,h',rfl⟩
    (repeat' first|constructor|exact ZQ|intro _)
    all_goals apply zL
    exact zG h h' HQ)
  |(have e:what=4:=by assumption
    subst e
    refine Vx.spec (fun B1 W1 S1 H=>zA hx hv hs H) ?_
    rintro _ _ ⟨q,lo,rfl,h,rfl⟩
    (repeat' first|constructor|exact ZQ|intro _)
    all_goals apply zL
    refine Vx.spec (fun B1 W1 S1 H=>xR hx hv hs H) ?_
    rintro _ _ ⟨q',lO,rfl,h',rfl⟩
    (repeat' first|constructor|exact ZQ|intro _)
    all_goals apply zL
    exact zG h h' HQ)
  |skip
 have e1:what≠1:=by assumption
 have e2:what≠2:=by assumption
 have e3:what≠3:=by assumption
 have e4:what≠4:=by assumption
 refine Vx.spec (fun B1 W1 S1 H=>uk hx hv hs H) ?_
 rintro _ _ ⟨q,lo,rfl,h,rfl⟩
 (repeat' first|constructor|exact ZQ|intro _)
 all_goals apply zL
 refine Vx.spec (fun B1 W1 S1 H=>se hx hv hs H) ?_
 rintro _ _ ⟨q',lO,rfl,h',rfl⟩
 (repeat' first|constructor|exact ZQ|intro _)
 all_goals apply zL
 have a1:sf x l c what t now high=bY 5 c 1:=by unfold sf;rw[if_neg e1,if_neg e2,if_neg e3,if_neg e4]
 have a2:Bj x l c what t now high=bs x 5 c 1:=by unfold Bj;rw[if_neg e1,if_neg e2,if_neg e3,if_neg e4]
 have a3:I1 c what t now high=1:=by unfold I1;rw[if_neg e1,if_neg e2,if_neg e3,if_neg e4]
 rw[a1,a2,a3]
 exact zG h h' HQ
end
theorem zH {n:Nat}{t now:Int}(h:(gA n t now).over=false):¬dA n t now:=by
 intro hb
 unfold gA at h
 rw[if_pos hb] at h
 cases h
theorem iO {x}{k c high:Int}(h:(bs x k c high).over=false):¬br x c high:=by
 intro hb
 unfold bs at h
 rw[if_pos hb] at h
 cases h
theorem lW {x}{k c high:Int}:(bs x k c high).wd:=by
 unfold bs av.first
 exact bw (P:=av.wd) trivial (bw (P:=av.wd) trivial (bw (P:=av.wd) trivial (bw (P:=av.wd) trivial (bw (P:=av.wd) trivial trivial))))
theorem Dw {n:Nat}{t now:Int}:(gA n t now).wd:=bw (P:=av.wd) trivial trivial
section
variable{x:Xc}{l:List dW.Tk}{c what t now high:Int}
theorem MQ (hx:x.ok)(hs:x.ex.ok l):((Bj x l c what t now high).over=false→(sf x l c what t now high).ok x)∧(Bj x l c what t now high).wd∧(sf x l c what t now high).k≠0:=by
 unfold Bj sf
 by_cases h1:what=1
 ·rw[if_pos h1,if_pos h1]
  exact⟨fun h=>GJ hx hs (zH h),Dw,by unfold mb;dsimp only;omega⟩
 rw[if_neg h1,if_neg h1]
 by_cases h2:what=2
 ·rw[if_pos h2,if_pos h2]
  exact⟨fun h=>nJ (by omega) (iO h),lW,by unfold bY;dsimp only;omega⟩
 rw[if_neg h2,if_neg h2]
 by_cases h3:what=3
 ·rw[if_pos h3,if_pos h3]
  exact⟨fun h=>nJ (by omega) (iO h),lW,by unfold bY;dsimp only;omega⟩
 rw[if_neg h3,if_neg h3]
 by_cases h4:what=4
 ·rw[if_pos h4,if_pos h4]
  exact⟨fun h=>nJ (by omega) (iO h),lW,by unfold bY;dsimp only;omega⟩
 rw[if_neg h4,if_neg h4]
 exact⟨fun h=>nJ (by omega) (iO h),lW,by unfold bY;dsimp only;omega⟩
theorem MR {ro:List aQ}{v:AV}(hs:x.ex.ok l)(hv:aQ.sl v 4 (dW.eK l)∈ro)(ho:(sf x l c what t now high).ok x)(hk:(sf x l c what t now high).k=1):
  ∃(L:List (List AV)) (cc:List AV),aQ.sl v 4 L∈ro∧L[(sf x l c what t now high).tk.toNat]?=some cc∧cc[1]?=some (I (sf x l c what t now high).prio):=by
 have hm:=Xc.qj hs
 unfold sf at*
 by_cases h1:what=1
 ·rw[if_pos h1] at*
  have hb:=(ho.2.2 rfl).1
  exact⟨dW.eK l,(qU l t).cs,hv,uj hb.1 (by have:=hb.2;unfold mb at this;dsimp only at this;omega),rfl⟩
 rw[if_neg h1] at*
 exfalso
 by_cases h2:what=2
 ·rw[if_pos h2] at hk;cases hk
 rw[if_neg h2] at hk
 by_cases h3:what=3
 ·rw[if_pos h3] at hk;cases hk
 rw[if_neg h3] at hk
 by_cases h4:what=4
 ·rw[if_pos h4] at hk;cases hk
 rw[if_neg h4] at hk
 cases hk
end
end
section
instance Rp {m:Nat}{eo:Int}:VC EM (zF 33) [Np,.ptr m 0,I eo] True (.cP [I 0,B true]):=.of rfl rfl fun _=>by
 show Zx EM false (Tryz.a33 _) _ _ _ _
 (repeat' first|constructor|exact ZQ|intro _)
 all_goals apply zL
 refine Vx.loop ?_
 refine Zx.ok (n:=false) ?_
 (repeat' first|constructor|exact ZQ|intro _)
 all_goals apply zL
instance aap:cF 109 where
section
variable{B0 S:AH}{W:List Nat}{own R:List Own}{ro:List aQ}{w:Nat}{v:AV}{y:Me}
theorem Dx (hy:y.ws.length≤4096)(H:Cx B0 W S (aj w v y++R) ro):aO EM (zF 29) [.ptr w 0] S fun u S'=>∃ab,(ab=.sl u 1 (bu y.ws)::(aj w v y++R))∧Cx B0 W S' ab ro:=by
 unfold aj at H
 simp only[lA,lB] at H
 haveI:di:=⟨⟩
 refine Vx.fm H rfl (b:=Tryz.a29) ?_
 (repeat' first|constructor|exact ZQ|intro _)
 all_goals apply zL
 ·rw[dU];simp only[List.map,List.length_nil];omega
 exact⟨rfl,rfl,_,rfl,by simp only[List.map,lB];unfold aj;exact HQ⟩
theorem hsF {a c d R}:Hs (a::(c++(d++R))) (d++(a::(c++R))):=HQ
theorem hsG {a b c d R}:Hs (b::(d++(a::(c++R)))) (a::b::(c++(d++R))):=HQ
end
end
section
structure G8 where
 core:Int
 what:Int
 t:Int
 now:Int
 high:Int
def G8.cs (a:G8):List AV:=[I a.core,I a.what,I a.t,I a.now,I a.high]
def u_ (l:List G8):List (List AV):=l.map G8.cs
theorem uy (l:List G8):(u_ l).length=l.length:=List.length_map ..
instance XJ {a n:Int}:VC EM (zF 18) [I a,I n] (n≤9223372036854775807) (I (pick a n)) where
 ok:=fun hn S=>az (HP rfl rfl hn) fun r S1 ⟨hr,hs⟩=>⟨hr,by subst hs;exact aY.refl _⟩
instance V_:VC EM (zF 31) [] True (B true) where
 ok:=fun _ S=>KI rfl ⟨rfl,aY.refl _⟩
instance aaq {n:Nat}[Mn n [25,23,26,24]]:cF n where
theorem Cx.GY {B0 S W own ro}(H:Cx B0 W S own ro){i es:Nat}{u L}(hi:own[i]?=some (.sl u es L)):Cx B0 W S (own.eraseIdx i) (.sl u es L::ro):=by
 have jr:=List.mem_of_getElem? hi
 have CW:∀x∈own.eraseIdx i,x∈own:=fun x hx=>List.mem_of_mem_eraseIdx hx
 have K:Cx B0 W S (own.eraseIdx i) ro:=H.xh (List.eraseIdx_sublist _ _)
 refine K.yL (mT (H.oh _ jr)) fun j hj=>⟨(H.oi _ jr j hj).1,fun x hx HO=>?_⟩
 have hj:j∈(Own.sl u es L).ids:=hj
 obtain⟨m,hm⟩:=List.getElem?_of_mem hx
 have hp:=H.od
 rw[List.pairwise_iff_getElem] at hp
 obtain⟨yK,uX⟩:=List.getElem?_eq_some_iff.1 hi
 rw[List.getElem?_eraseIdx] at hm
 split at hm
 ·rename_i dN
  obtain⟨DK,vR⟩:=List.getElem?_eq_some_iff.1 hm
  exact hp m i DK yK dN j (by rw[vR];exact HO) (by rw[uX];exact hj)
 ·rename_i G2
  obtain⟨DK,vR⟩:=List.getElem?_eq_some_iff.1 hm
  exact hp i (m+1) yK DK (by omega) j (by rw[uX];exact hj) (by rw[vR];exact HO)
theorem Cx.JT {B0 S S1 W own ro}(H:Cx B0 W S own ro){v}{es:Nat}{L}(K:Cx S [] S1 [.sl v es L] []):Cx B0 W S1 own (.sl v es L::ro):=by
 have H2:Cx B0 W S1 (.sl v es L::own) ro:=H.iv K.cr (K.oh _ (List.Mem.head _)) fun id bS=>by
  have:=K.oi _ (List.Mem.head _) id bS
  refine⟨?_,this.1⟩
  have h2:=this.2
  exact Nat.le_of_not_lt fun h=>by have:=h2 h;simp at this
 exact H2.GY (i:=0) rfl
def Wa:pH:=fun t vs _ _=>t=.ret∧oneOf vs=B true
theorem MS {f:Nat}{args b own ro B0 S W}(hk:EM.kn.v f ([]++(args++[]))=none)(hb:EM.iP f=some b)(h:Zx EM false (b ([]++(args++[]))) [] own ro Wa)(H:Cx B0 W S own ro):aO EM (.fn (.func f) [] []) args S fun r _=>r=B true:=
 bg hk hb (wp_mono (h.ok B0 W S H) fun t vs S' ⟨ab,RO,h1,h2⟩=>h1)
theorem Vx.Wb {M:ef}{f:AV}{args:List AV}{k:AV→AC}{K:List Kf}{own:List Own}{ro:List aQ}{Φ:pH}{P:AV→aQ→Prop}(hc:∀B W S,Cx B W S own ro→aO M f args S fun r S'=>∃φ,P r φ∧Cx B W S' own (φ::ro))(h:∀r φ,P r φ→Vx M (k r) K own (φ::ro) Φ):Vx M (.call f args k) K own ro Φ:=
 fun B W S H=>b5 (az (hc B W S H) fun r S' ⟨φ,h1,h2⟩=>h r φ h1 B W S' h2)
theorem Vx.RS {M own ro Φ K v L c}{i:Int}{n:Nat}{k}(hv:aQ.sl v n L∈ro)(hi:0≤i)(hc:L[i.toNat]?=some c)(h:∀id off,Vx M (k (.ptr id off)) K own (.pt id off c::ro) Φ):Vx M (.op (.fu n v (I i)) k) K own ro Φ:=fun B W S H=>by
 obtain⟨n',rfl⟩:∃n:Nat,i=n:=⟨i.toNat,by omega⟩
 exact mU H hv (by simpa using hc) fun id off H1=>h id off B W S H1
theorem Vx.tl {M x own ro φ Φ K}(h:Vx M x K own ro Φ):Vx M x K own (φ::ro) Φ:=fun B W S H=>h B W S H.tl
theorem Vx.ptl {M own ro Φ K}{id off n:Nat}{c k}(hm:aQ.pt id off c∈ro)(hn:c.length=n)(h:Vx M (k (.agg c)) K own ro Φ):Vx M (.op (.load n true (.ptr id off)) k) K own ro Φ:=fun B W S H=>by
 refine pF (off:=off) (j:=0) H hm (by omega) ?_
 rw[List.drop_zero,List.take_of_length_le (by omega)]
 exact h B W S H
theorem Vx.pt1 {M own ro Φ K}{id off f:Nat}{c v k}(hm:aQ.pt id off c∈ro)(hv:c[f]?=some v)(h:Vx M (k v) K own ro Φ):Vx M (.op (.nN f (.ptr id off)) fun p=>.op (.load 1 false p) k) K own ro Φ:=fun B W S H=>by
 refine dh ?_
 obtain⟨d,g1,g2⟩:=tG (j:=f) (H.rh _ hm) hv
 exact ae (jI g1 g2) (h B W S H)
theorem Vx.ptc {M own ro Φ K}{id off n:Nat}{c k}(hm:aQ.pt id off c∈ro)(hn:c.length=n)(hb:AV.beq (.agg c) (.agg c)=true)(h:Vx M k K own ro Φ):Vx M (.kA (.load n true (.ptr id off)) (.agg c) k) K own ro Φ:=fun B W S H=>by
 obtain⟨d,h1,h2,h3⟩:=H.rh _ hm
 refine tt (v':=.agg c) ?_ hb (h B W S H)
 show(match S.cells? id with|some c=>eZ true c off n|none=>none)=_
 rw[h1]
 subst hn
 have:=lG (cs:=d) (off:=off) (n:=c.length) (by omega)
 rw[h3] at this
 exact this
theorem Zx.jV {M own ro Φ K v i}{n:Nat}{k}(h:ck (Vx M (.op (.fu n v i) k) K own ro Φ)):Zx M false (.op (.fu n v i) k) K own ro Φ:=.z h
theorem Zx.I3 {M own ro Φ K}(id off:Nat){n:Nat}{v k}(h:ck (Vx M (.kA (.load n true (.ptr id off)) v k) K own ro Φ)):Zx M false (.kA (.load n true (.ptr id off)) v k) K own ro Φ:=.z h
theorem JU {a b c d R o}:Hs (a++(b++(o::(c++(d++R))))) (a++(c++(b++(d++(o::R))))):=HQ
theorem GZ {a b c d R o}:Hs (a++(c++(b++(d++(o::R))))) (b++(d++(a++(c++(o::R))))):=HQ
theorem gw {a b c d R o}:Hs (b++(d++(a++(c++(o::R))))) (a++(c++(b++(d++(o::R))))):=HQ
theorem JV {a b c d R o}:Hs (b++(d++(a++(c++(o::R))))) (a++(b++(c++(d++(o::R))))):=HQ
theorem JW {a b c d R o}:Hs (a++(b++(c++(d++(o::R))))) (c++(d++R)):=HQ
open dW (Tk eK ni)
theorem vB {S:AH}{v u:AV}{s:X.Su}{l:List Tk}{a:List G8}{one two:Int}(hv:mW S v 4 (eK l))(hu:mW S u 5 (u_ a)):
  aO EM (zF 4) [.agg (s.cs v),u,I one,I two] S fun r _=>r=B true:=by
 have H:=Cx.WQ hv hu
 have mv:aQ.sl v 4 (eK l)∈[.sl v 4 (eK l),.sl u 5 (u_ a)]:=List.Mem.head _
 have mu:aQ.sl u 5 (u_ a)∈[.sl v 4 (eK l),.sl u 5 (u_ a)]:=List.Mem.tail _ (List.Mem.head _)
 generalize[aQ.sl v 4 (eK l),.sl u 5 (u_ a)]=ro at H mv mu
 obtain⟨ov,cv,bv⟩:=ft (H.iy mv).1
 refine MS rfl rfl (b:=Tryz.a4) ?_ H
 unfold X.Su.cs
 (repeat' first|refine Zx.bk 30 ?_|constructor|exact ZQ|intro _)
 all_goals apply zL
 refine Vx.Wb (P:=fun r φ=>∃e,X.Mp s l e r∧φ=.sl e 4 (if s.kA l=0 then eK l else [])∧(ep e=false∧e.cells=[e]∧AV.beq e e=true)) (fun B1 W1 S1 H=>az (X.Ba (s:=s) (l:=l) (H.iy mv)) fun r S' ⟨e,h,K⟩=>⟨_,⟨e,h,rfl,ft ((H.JT K).iy (List.Mem.head _)).1⟩,H.JT K⟩) ?_
 rintro r φ ⟨e,hr,rfl,oe,ce,be⟩
 rcases hr with⟨hc,rfl,rfl⟩|⟨hc,rfl⟩
 ·unfold X.Cp
  refine Zx.ok (n:=false) ?_
  (repeat' first|constructor|exact ZQ|intro _)
  all_goals apply zL
 rw[if_pos hc]
 obtain⟨Dy,Rq,VP,Du⟩:=I0 hc
 rw[←Xc.Rk]
 have Wc:1≤s.ah∧s.ah≤64:=by
  have:=(X.A_ hc).1
  unfold X.Su.sb at this
  omega
 generalize hx:Xc.of (X.sd s l.length)=x
 rw[show X.sd s l.length=x.ex from by rw[←hx];rfl] at Rq
 rw[hx] at Dy
 generalize X.A9 s l.length=N at VP Du
 obtain⟨N,rfl⟩:∃M:Nat,N=M:=⟨N.toNat,by omega⟩
 have me:aQ.sl e 4 (eK l)∈(.sl e 4 (eK l)::ro):=List.Mem.head _
 have mu:aQ.sl u 5 (u_ a)∈(.sl e 4 (eK l)::ro):=List.Mem.tail _ mu
 generalize(aQ.sl e 4 (eK l)::ro)=WQ at me mu
 have hxx:=Dy
 simp only[Xc.cs,Tw.cs,Lb.cs,Ar.cs,Ep.cs,lA,lB]
 refine Zx.ok (n:=false) ?_
 (repeat' first|refine Zx.kz (v:=u) ?_|refine Zx.jV (v:=u) ?_|constructor|exact ZQ|intro _)
 all_goals apply zL
 refine Vx.QE mu ?_
 rw[uy]
 (repeat' first|refine Zx.kz (v:=u) ?_|refine Zx.jV (v:=u) ?_|constructor|exact ZQ|intro _)
 all_goals apply zL
 refine Vx.spec (fun B1 W1 S1 H=>zE (n:=N) Dy me Rq (by omega) (by omega) H) ?_
 rintro _ _ ⟨m,bl,w,vw,rfl,rfl⟩
 (repeat' first|refine Zx.kz (v:=u) ?_|refine Zx.jV (v:=u) ?_|constructor|exact ZQ|intro _)
 all_goals apply zL
 obtain⟨XK,TK⟩:(x.fill (Me.fresh N)).gd∧(x.fill (Me.fresh N)).n≤1000000:=by
  have:=Xc.aX Dy (Me.fresh N) (ux (by omega) (by omega)) (by unfold Me.fresh;dsimp only;omega)
  exact⟨this.1,by have h:=this.2.1;unfold Me.fresh at h⊢;dsimp only at h⊢;omega⟩
 have yQ:(x.fill (Me.fresh N)).ws.length=N:=by
  have:=Xc.aX Dy (Me.fresh N) (ux (by omega) (by omega)) (by unfold Me.fresh;dsimp only;omega)
  rw[this.2.2]
  unfold Me.fresh
  dsimp only
  rw[List.length_replicate]
 generalize x.fill (Me.fresh N)=y0 at XK TK yQ
 rename_i p1 p7 _ _ _ _ _ _
 refine Vx.inv (α:=Nat×Me) (P:=fun z n=>n+z.1=a.length∧z.2.gd∧z.2.ws.length=N∧z.2.n≤1000000+z.1*2000000) (fun z=>[I (z.1:Int),B false])
  (fun z=>ad m bl z.2 (List.replicate (4096-N) (U 0))++(aj w vw z.2++[.obj p7 (.row (x.cs++[e])),.obj p1 (.row (s.cs v))])) ?_ (a0:=(0,y0)) (n0:=a.length) ⟨by dsimp only;omega,XK,yQ,by dsimp only;omega⟩
 rintro⟨i,y⟩ n ⟨nL,Wd,M1,XL⟩ ih
 dsimp only at nL Wd M1 XL ih⊢
 simp only[Xc.cs,Tw.cs,Lb.cs,Ar.cs,Ep.cs,X.Su.cs,lA,lB]
 refine Vx.QE mu ?_
 rw[uy]
 (repeat' first|refine Zx.kz (v:=u) ?_|refine Zx.jV (v:=u) ?_|constructor|exact ZQ|intro _)
 all_goals apply zL
 ·next dN=>
  have hli:i<a.length:=by omega
  obtain⟨b,hb⟩:∃b,b=a[i]:=⟨_,rfl⟩
  have rQ:(u_ a)[(i:Int).toNat]?=some b.cs:=by
   rw[Int.toNat_natCast,hb]
   unfold u_
   rw[List.getElem?_map,List.getElem?_eq_getElem hli]
   rfl
  refine Vx.RS mu (by omega) rQ fun id1 aar=>?_
  refine Vx.pt1 (v:=I b.core) (List.Mem.head _) rfl ?_
  refine Vx.tl ?_
  refine Zx.ok (n:=false) ?_
  (repeat' first|refine Zx.kz (v:=u) ?_|refine Zx.jV (v:=u) ?_|constructor|exact ZQ|intro _)
  all_goals apply zL
  refine Vx.RS mu (by omega) rQ fun id2 We=>?_
  refine Vx.ptl (List.Mem.head _) rfl ?_
  refine Zx.ok (n:=false) ?_
  have KF:AV.beq (.agg (x.cs++[e])) (.agg (x.cs++[e]))=true:=by
   simp only[Xc.cs,Tw.cs,Lb.cs,Ar.cs,Ep.cs,lA,lB]
   simp[AV.beq,o8,aP,fD,be]
  simp only[Xc.cs,Tw.cs,Lb.cs,Ar.cs,Ep.cs,lA,lB] at KF
  have hb5:AV.beq (.agg b.cs) (.agg b.cs)=true:=by
   unfold G8.cs
   simp[AV.beq,o8,aP,fD]
  (repeat' first|refine Zx.I3 id2 We ?_|refine Zx.kz (v:=u) ?_|refine Zx.jV (v:=u) ?_|constructor|exact ZQ|intro _)
  all_goals apply zL
  refine Vx.ptc (List.Mem.head _) rfl hb5 ?_
  refine Vx.tl ?_
  refine Vx.spec (fun B1 W1 S1 H=>GX (k:=b.core) (what:=b.what) (t:=b.t) (now:=b.now) (high:=b.high) Dy me Rq H) ?_
  rintro _ _ ⟨q,q',lo,lO,rfl,hP,hD,rfl⟩
  obtain⟨g1,g2,g3⟩:=MQ (c:=pick b.core s.ah) (what:=b.what) (t:=b.t) (now:=b.now) (high:=b.high) Dy Rq
  have g4:=MR (c:=pick b.core s.ah) (what:=b.what) (t:=b.t) (now:=b.now) (high:=b.high) Rq me
  generalize sf x l (pick b.core s.ah) b.what b.t b.now b.high=o at hP hD g1 g2 g3 g4
  generalize Bj x l (pick b.core s.ah) b.what b.t b.now b.high=σ at hP hD g1 g2 g3 g4
  generalize I1 (pick b.core s.ah) b.what b.t b.now b.high=hg at hD
  have vL:nj.ok x o ⟨σ,y,0⟩ (1000000+i*2000000) N:=⟨g1,g2,Wd,XL,M1⟩
  (repeat' first|refine Zx.kz (v:=u) ?_|refine Zx.jV (v:=u) ?_|constructor|exact ZQ|intro _)
  all_goals apply zL
  refine Vx.QE mu ?_
  rw[uy]
  (repeat' first|refine Zx.kz (v:=u) ?_|refine Zx.jV (v:=u) ?_|constructor|exact ZQ|intro _)
  all_goals apply zL
  ·refine Vx.cb JU ?_
   refine Vx.spec (fun B1 W1 S1 H=>Bh (s:=⟨σ,y,0⟩) Dy g3 vL (by omega) (by omega) hP H) ?_
   rintro _ _ ⟨n1,s1,lo1,e1,rfl,Wf,wF,rfl⟩
   (repeat' first|constructor|exact ZQ|intro _)
   all_goals apply zL
   refine Vx.cb GZ ?_
   refine Vx.spec (fun B1 W1 S1 H=>Bi (s:=⟨σ,y,0⟩) Dy g4 vL (by omega) (by omega) hD H) ?_
   rintro _ _ ⟨n2,s2,nb,e2,rfl,Wg,JQ,rfl⟩
   obtain⟨rfl,rfl⟩:n2=n1∧s2=s1:=by
    have:=e2.trans e1.symm
    injection this with a b
    exact⟨a,b⟩
   (repeat' first|constructor|exact ZQ|intro _)
   all_goals apply zL
   all_goals(
    refine Vx.cb JV ?_
    refine Vx.spec (fun B1 W1 S1 H=>rK g3 Wf Wg H) ?_
    rintro _ _ ⟨rfl,rfl⟩
    (repeat' first|constructor|exact ZQ|intro _)
    all_goals apply zL
    refine Vx.cb JW ?_
    exact ih (i+1,s2.y) (n-1) (by omega) ⟨by dsimp only;omega,JQ.y,JQ.l,by have:=JQ.n;dsimp only;omega⟩)
  ·refine Vx.cb JU ?_
   refine Vx.spec (fun B1 W1 S1 H=>Bh (s:=⟨σ,y,0⟩) Dy g3 vL (by omega) (by omega) hP H) ?_
   rintro _ _ ⟨n1,s1,lo1,e1,rfl,Wf,wF,rfl⟩
   (repeat' first|constructor|exact ZQ|intro _)
   all_goals apply zL
   refine Vx.cb GZ ?_
   refine Vx.spec (fun B1 W1 S1 H=>Bi (s:=⟨σ,y,0⟩) Dy g4 vL (by omega) (by omega) hD H) ?_
   rintro _ _ ⟨n2,s2,nb,e2,rfl,Wg,JQ,rfl⟩
   obtain⟨rfl,rfl⟩:n2=n1∧s2=s1:=by
    have:=e2.trans e1.symm
    injection this with a b
    exact⟨a,b⟩
   (repeat' first|constructor|exact ZQ|intro _)
   all_goals apply zL
   refine Vx.cb gw ?_
   refine Vx.spec (fun B1 W1 S1 H=>Bh Dy g3 JQ (by omega) (by omega) Wf H) ?_
   rintro _ _ ⟨n3,s3,lo3,e3,rfl,hP3,hs3,rfl⟩
   (repeat' first|constructor|exact ZQ|intro _)
   all_goals apply zL
   refine Vx.cb GZ ?_
   refine Vx.spec (fun B1 W1 S1 H=>Bi Dy g4 JQ (by omega) (by omega) Wg H) ?_
   rintro _ _ ⟨n4,s4,lo4,e4,rfl,hD4,Wh,rfl⟩
   obtain⟨rfl,rfl⟩:n4=n3∧s4=s3:=by
    have:=e4.trans e3.symm
    injection this with a b
    exact⟨a,b⟩
   (repeat' first|constructor|exact ZQ|intro _)
   all_goals apply zL
   all_goals(
    refine Vx.cb JV ?_
    refine Vx.spec (fun B1 W1 S1 H=>rK g3 hP3 hD4 H) ?_
    rintro _ _ ⟨rfl,rfl⟩
    (repeat' first|constructor|exact ZQ|intro _)
    all_goals apply zL
    refine Vx.cb JW ?_
    exact ih (i+1,s4.y) (n-1) (by omega) ⟨by dsimp only;omega,Wh.y,Wh.l,by have:=Wh.n;dsimp only;omega⟩)
 have XM:y.ws.length≤4096:=by omega
 refine Zx.ok (n:=false) ?_
 (repeat' first|constructor|exact ZQ|intro _)
 all_goals apply zL
 refine Vx.spec (Ψ:=fun u ab=>ab=.sl u 1 (bu y.ws)::_) (fun B1 W1 S1 H=>az (GU Wd (by rw[List.length_replicate];omega) H) fun r S' h=>⟨_,rfl,h⟩) ?_
 rintro r1 _ rfl
 (repeat' first|constructor|exact ZQ|intro _)
 all_goals apply zL
 refine Vx.cb hsF ?_
 refine Vx.spec (fun B1 W1 S1 H=>Dx XM H) ?_
 rintro r2 _ rfl
 (repeat' first|constructor|exact ZQ|intro _)
 all_goals apply zL
 refine Vx.cb hsG ?_
 refine Vx.spec (fun B1 W1 S1 H=>GW XM H) ?_
 rintro _ _ ⟨rfl,rfl⟩
 simp only[ad,aj,lA,lB,Me.rW,Me.HY,Me.last]
 (repeat' first|constructor|exact ZQ|intro _)
 all_goals apply zL
 all_goals skip
end
end Go.cY
