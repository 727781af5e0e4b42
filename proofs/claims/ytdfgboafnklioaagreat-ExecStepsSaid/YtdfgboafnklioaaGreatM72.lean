/- Contracts. Conditions: in each theorem. -/
import Derived.Test.YtdfgboafnklioaaGreatM71
import Derived.Test.YtdfgboafnklioaaGreatM60
set_option linter.all false
set_option maxRecDepth 100000
set_option maxHeartbeats 4000000
namespace Go.cG
open Go.Proofs
def Xc.of (e:X.Ex):Xc:=⟨⟨e.t.nd,e.t.hd,e.t.ht,⟨⟨⟨e.t.eJ,e.t.bo,e.t.aH⟩,e.t.an,e.t.aF,e.t.fJ⟩,⟨e.t.mR,e.t.pins,e.t.ad⟩,e.t.aL⟩⟩,e.dp,e.fj,⟨e.tJ,e.fk,⟨e.kz,e.cZ,e.cL⟩⟩,e.dq,e.aq,e.cF,⟨e.gf,e.d_,e.dU⟩,e.own,e.seq⟩
theorem IW {n:Nat}(h1:1<=n)(h2:n<=4096):(Me.fresh n).gd:=by unfold Me.gd Me.fresh;dsimp only;rw[List.length_replicate];refine⟨am,λw hw=>?_⟩;rw[(List.mem_replicate.1 hw).2];exact w0
theorem Vx.perm {M x K own ab ro Φ}(hp:own.Perm ab)(h:Vx M x K ab ro Φ):Vx M x K own ro Φ:=λB W S H=>h B W S (H.ic hp)
theorem D2 {a b R:List Own}:(a++(b++R)).Perm (b++(a++R)):=by rw[<-lC,<-lC];exact List.Perm.append_right R List.perm_append_comm
section
variable{B0 S:AH}{W:List Nat}{R:List Own}{ro:List aI}{x:Xc}{v:AV}{l:List dA.Tk}{k c t now high:Int}{bad:Bool}
end
def tM (x:Xc)(l:List dA.Tk)(c what t now high:Int):Od:=if what=1 then m9 l t now else if what=2 then bW 2 c high else if what=3 then bW 3 c 1 else if what=4 then bW 4 c high else bW 5 c 1
def CL (x:Xc)(l:List dA.Tk)(c what t now high:Int):aG:=if what=1 then hH l.length t now else if what=2 then bq x 2 c high else if what=3 then bq x 3 c 1 else if what=4 then bq x 4 c high else bq x 5 c 1
def Lu (c what t now high:Int):Int:=if what=1 then 0 else if what=2 then high else if what=3 then 1 else if what=4 then high else 1
def Mv (x:Xc)(o:Od)(σ:aG)(v:AV)(hg:Int)(R:List Own):AV->List Own->Prop:=λu ab=>∃q q' lo jx,u=.agg [.ptr q 0,.ptr q' 0]/\ft x o q 0 σ lo/\cd x o v hg q' 0 σ jx/\ab=lo++(jx++R)
theorem Bi {x o σ v}{hg:Int}{R own ro}{q q':Nat}{lo jx}(h:ft x o q 0 σ lo)(h':cd x o v hg q' 0 σ jx)(hs:Hs own (lo++(jx++R))):kx ro (Mv x o σ v hg R) .ret [.agg [.ptr q 0,.ptr q' 0]] own ro:=⟨rfl,rfl,_,⟨q,q',lo,jx,rfl,h,h',rfl⟩,hs⟩
section
variable{B0 S:AH}{W:List Nat}{R:List Own}{ro:List aI}{x:Xc}{v:AV}{l:List dA.Tk}{c k what t now high:Int}
theorem IX (hx:x.ok)(hv:aI.sl v 4 (dA.gK l)∈ro)(hs:x.ex.ok l)(H:Cx B0 W S R ro):
  aN EM (zF 19) [.agg (x.cs++[v]),I c,.agg [I k,I what,I t,I now,I high]] S λu S'=>∃ab,Mv x (tM x l c what t now high) (CL x l c what t now high) v (Lu c what t now high) R u ab/\Cx B0 W S' ab ro:=by
 have hl:iV S v 4 (dA.gK l):=(H.ku hv).1;obtain⟨ov,cv,bv⟩:=eI hl;have Nr:AV.beq (.agg (x.cs++[v])) (.agg (x.cs++[v]))=true:=by simp only[Xc.cs,Tw.cs,Lb.cs,Ar.cs,Ep.cs,lA,lB];simp[AV.beq,rO,aV,gl,bv]
 simp only[Xc.cs,Tw.cs,Lb.cs,Ar.cs,Ep.cs,lA,lB] at Nr;simp only[Xc.cs,Tw.cs,Lb.cs,Ar.cs,Ep.cs,lA,lB];refine Vx.fm H rfl ?_
 (repeat' first|constructor|exact ZQ|intro _)
 all_goals apply zL
 all_goals first
  |(have e:what=1:=be
    subst e;refine Vx.spec (λB1 W1 S1 H=>Fm hv hs H) ?_;rintro _ _ ⟨q,lo,rfl,h,rfl⟩;refine z1 ?_;refine Vx.spec (λB1 W1 S1 H=>CF hx hv hs H) ?_;rintro _ _ ⟨q',jx,rfl,h',rfl⟩;refine z1 ?_;exact Bi h h' HQ)
  |(have e:what=2:=be
    subst e;refine Vx.spec (λB1 W1 S1 H=>CE hx hv hs H) ?_;rintro _ _ ⟨q,lo,rfl,h,rfl⟩;refine z1 ?_;refine Vx.spec (λB1 W1 S1 H=>Bg hx hv hs H) ?_;rintro _ _ ⟨q',jx,rfl,h',rfl⟩;refine z1 ?_;exact Bi h h' HQ)
  |(have e:what=3:=be
    subst e;refine Vx.spec (λB1 W1 S1 H=>CD hx hv hs H) ?_;rintro _ _ ⟨q,lo,rfl,h,rfl⟩;refine z1 ?_;refine Vx.spec (λB1 W1 S1 H=>Bf hx hv hs H) ?_;rintro _ _ ⟨q',jx,rfl,h',rfl⟩;refine z1 ?_;exact Bi h h' HQ)
  |(have e:what=4:=be
    subst e;refine Vx.spec (λB1 W1 S1 H=>Be hx hv hs H) ?_;rintro _ _ ⟨q,lo,rfl,h,rfl⟩;refine z1 ?_;refine Vx.spec (λB1 W1 S1 H=>zh hx hv hs H) ?_;rintro _ _ ⟨q',jx,rfl,h',rfl⟩;refine z1 ?_;exact Bi h h' HQ)
  |skip
 have e1:what≠1:=be;have e2:what≠2:=be;have e3:what≠3:=be;have e4:what≠4:=be;refine Vx.spec (λB1 W1 S1 H=>we hx hv hs H) ?_;rintro _ _ ⟨q,lo,rfl,h,rfl⟩;refine z1 ?_;refine Vx.spec (λB1 W1 S1 H=>tL hx hv hs H) ?_;rintro _ _ ⟨q',jx,rfl,h',rfl⟩;refine z1 ?_;have a1:tM x l c what t now high=bW 5 c 1:=by unfold tM;rw[if_neg e1,if_neg e2,if_neg e3,if_neg e4]
 have a2:CL x l c what t now high=bq x 5 c 1:=by unfold CL;rw[if_neg e1,if_neg e2,if_neg e3,if_neg e4]
 have a3:Lu c what t now high=1:=by unfold Lu;rw[if_neg e1,if_neg e2,if_neg e3,if_neg e4]
 rw[a1,a2,a3];exact Bi h h' HQ
end
theorem Bj {n:Nat}{t now:Int}(h:(hH n t now).over=false):¬ec n t now:=by intro hb;unfold hH at h;rw[if_pos hb] at h;cases h
theorem jy {x}{k c high:Int}(h:(bq x k c high).over=false):¬bA x c high:=by intro hb;unfold bq at h;rw[if_pos hb] at h;cases h
theorem mS {x}{k c high:Int}:(bq x k c high).wd:=by unfold bq aG.first;exact db (P:=aG.wd) trivial (db (P:=aG.wd) trivial (db (P:=aG.wd) trivial (db (P:=aG.wd) trivial (db (P:=aG.wd) trivial trivial))))
theorem Fq {n:Nat}{t now:Int}:(hH n t now).wd:=db (P:=aG.wd) trivial trivial
section
variable{x:Xc}{l:List dA.Tk}{c what t now high:Int}
theorem PD (hx:x.ok)(hs:x.ex.ok l):((CL x l c what t now high).over=false->(tM x l c what t now high).ok x)/\(CL x l c what t now high).wd/\(tM x l c what t now high).k≠0:=by
 unfold CL tM;by_cases h1:what=1
 .rw[if_pos h1,if_pos h1];exact⟨λh=>IH hx hs (Bj h),Fq,by unfold m9;dsimp only;omega⟩
 rw[if_neg h1,if_neg h1];by_cases h2:what=2
 .rw[if_pos h2,if_pos h2];exact⟨λh=>oU am (jy h),mS,by unfold bW;dsimp only;omega⟩
 rw[if_neg h2,if_neg h2];by_cases h3:what=3
 .rw[if_pos h3,if_pos h3];exact⟨λh=>oU am (jy h),mS,by unfold bW;dsimp only;omega⟩
 rw[if_neg h3,if_neg h3];by_cases h4:what=4
 .rw[if_pos h4,if_pos h4];exact⟨λh=>oU am (jy h),mS,by unfold bW;dsimp only;omega⟩
 rw[if_neg h4,if_neg h4];exact⟨λh=>oU am (jy h),mS,by unfold bW;dsimp only;omega⟩
theorem PE {ro:List aI}{v:AV}(hs:x.ex.ok l)(hv:aI.sl v 4 (dA.gK l)∈ro)(ho:(tM x l c what t now high).ok x)(hk:(tM x l c what t now high).k=1):
  ∃(L:List (List AV)) (cc:List AV),aI.sl v 4 L∈ro/\L[(tM x l c what t now high).tk.toNat]?=some cc/\cc[1]?=some (I (tM x l c what t now high).prio):=by
 have hm:=Xc.rI hs;unfold tM at*
 by_cases h1:what=1
 .rw[if_pos h1] at*
  have hb:=(ho.2.2 rfl).1;exact⟨dA.gK l,(sz l t).cs,hv,wc hb.1 (by have:=hb.2;unfold m9 at this;dsimp only at this;omega),rfl⟩
 rw[if_neg h1] at*
 exfalso;by_cases h2:what=2;.rw[if_pos h2] at hk;cases hk
 rw[if_neg h2] at hk;by_cases h3:what=3;.rw[if_pos h3] at hk;cases hk
 rw[if_neg h3] at hk;by_cases h4:what=4;.rw[if_pos h4] at hk;cases hk
 rw[if_neg h4] at hk;cases hk
end
instance Uv {m:Nat}{most:Int}:VC EM (zF 33) [Np,.ptr m 0,I most] True (.ed [I 0,B true]):=.of rfl rfl λ_=>by show Zx EM false (Tryz.a33 _) _ _ _ _;refine z1 ?_;refine Vx.loop ?_;refine Zx.ok (n:=false) ?_;exact zZ
instance acv:cK 109 where
section
variable{B0 S:AH}{W:List Nat}{own R:List Own}{ro:List aI}{w:Nat}{v:AV}{y:Me}
theorem Fs (hy:y.ws.length<=4096)(H:Cx B0 W S (ai w v y++R) ro):aN EM (zF 29) [.ptr w 0] S λu S'=>∃ab,(ab=.sl u 1 (aW y.ws)::(ai w v y++R))/\Cx B0 W S' ab ro:=by
 unfold ai at H;simp only[lA,lB] at H;haveI:dQ:=⟨⟩;refine y2 H rfl ?_ ?_<;>intros
 .rw[di];simp only[List.map,List.length_nil];omega
 exact⟨rfl,rfl,_,rfl,by simp only[List.map,lB];unfold ai;exact HQ⟩
end
section
structure Ks where
 core:Int
 what:Int
 t:Int
 now:Int
 high:Int
def Ks.cs (a:Ks):List AV:=[I a.core,I a.what,I a.t,I a.now,I a.high]
def vD (l:List Ks):List (List AV):=l.map Ks.cs
theorem Bk (l:List Ks):(vD l).length=l.length:=List.length_map ..
instance abf {a n:Int}:VC EM (zF 18) [I a,I n] (n<=9223372036854775807) (I (pick a n)) where
 ok:=λhn S=>az (Kj rfl rfl hn) λr S1 ⟨hr,hs⟩=>⟨hr,by subst hs;exact bn.refl _⟩
theorem Lv {a n:Int}(h:0<n):0<=pick a n/\pick a n<n:=by unfold pick;rw[if_neg am];exact⟨Int.emod_nonneg _ am,Int.emod_lt_of_pos _ h⟩
instance acw {n:Nat}[Mn n [25,23,26,24]]:cK n where
theorem Cx.IY {B0 S W own ro}(H:Cx B0 W S own ro){i es:Nat}{u L}(hi:own[i]?=some (.sl u es L)):Cx B0 W S (own.eraseIdx i) (.sl u es L::ro):=by
 have kp:=List.mem_of_getElem? hi;have qZ:∀x∈own.eraseIdx i,x∈own:=λx hx=>List.mem_of_mem_eraseIdx hx;have K:Cx B0 W S (own.eraseIdx i) ro:=H.yF (List.eraseIdx_sublist _ _);refine K.qX (jW (H.oh _ kp)) λj hj=>⟨(H.oi _ kp j hj).1,λx hx wC=>?_⟩;have hj:j∈(Own.sl u es L).ids:=hj;obtain⟨m,hm⟩:=List.getElem?_of_mem hx;have hp:=H.od;rw[List.pairwise_iff_getElem] at hp;obtain⟨EG,wX⟩:=List.getElem?_eq_some_iff.1 hi;rw[List.getElem?_eraseIdx] at hm;split at hm
 .rename_i de;obtain⟨FH,tY⟩:=List.getElem?_eq_some_iff.1 hm;exact hp m i FH EG de j (by rw[tY];exact wC) (by rw[wX];exact hj)
 .rename_i Jr;obtain⟨FH,tY⟩:=List.getElem?_eq_some_iff.1 hm;exact hp i (m+1) EG FH am j (by rw[wX];exact hj) (by rw[tY];exact wC)
def Zq:gz:=λt vs _ _=>t=.ret/\oneOf vs=B true
theorem PF {f:Nat}{args b own ro B0 S W}(hk:EM.kn.v f ([]++(args++[]))=none)(hb:EM.iT f=some b)(h:Zx EM false (b ([]++(args++[]))) [] own ro Zq)(H:Cx B0 W S own ro):aN EM (.fn (.func f) [] []) args S λr _=>r=B true:=
 br hk hb (wp_mono (h.ok B0 W S H) λt vs S' ⟨ab,RG,h1,h2⟩=>h1)
theorem Vx.NL {M own ro Φ K v L c}{i:Int}{n:Nat}{k}(hv:aI.sl v n L∈ro)(hi:0<=i)(hc:L[i.toNat]?=some c)(h:∀id off,Vx M (k (.ptr id off)) K own (.pt id off c::ro) Φ):Vx M (.op (.cC n v (I i)) k) K own ro Φ:=λB W S H=>by obtain⟨n',rfl⟩:∃n:Nat,i=n:=⟨i.toNat,am⟩;exact nU H hv (by simpa using hc) λid off H1=>h id off B W S H1
theorem Vx.tl {M x own ro φ Φ K}(h:Vx M x K own ro Φ):Vx M x K own (φ::ro) Φ:=λB W S H=>h B W S H.tl
theorem Vx.ptl {M own ro Φ K}{id off n:Nat}{c k}(hm:aI.pt id off c∈ro)(hn:c.length=n)(h:Vx M (k (.agg c)) K own ro Φ):Vx M (.op (.load n true (.ptr id off)) k) K own ro Φ:=λB W S H=>by refine qY (off:=off) (j:=0) H hm am ?_;rw[List.drop_zero,List.take_of_length_le am];exact h B W S H
theorem Vx.pt1 {M own ro Φ K}{id off f:Nat}{c v k}(hm:aI.pt id off c∈ro)(hv:c[f]?=some v)(h:Vx M (k v) K own ro Φ):Vx M (.op (.kA f (.ptr id off)) λp=>.op (.load 1 false p) k) K own ro Φ:=λB W S H=>by refine dx ?_;obtain⟨d,g1,g2⟩:=pO (j:=f) (H.rh _ hm) hv;exact ah (ju g1 g2) (h B W S H)
theorem Zx.au {M own ro Φ K v i}{n:Nat}{k}(h:bP (Vx M (.op (.cC n v i) k) K own ro Φ)):Zx M false (.op (.cC n v i) k) K own ro Φ:=.z h
theorem ic {a b c d R o}:Hs (b++(d++(a++(c++(o::R))))) (a++(c++(b++(d++(o::R))))):=HQ
open dA (Tk gK oZ)
end
end Go.cG
