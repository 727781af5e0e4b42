/- Contracts. Conditions: in each theorem. -/
import Derived.Test.YtdfgboafnklioaaGreatM84
set_option linter.all false
set_option maxRecDepth 100000
set_option maxHeartbeats 4000000
noncomputable section
namespace Go.cO
open Go.Proofs
section
open dZ (Tk ep kq rZ)
theorem Vx.cut {α:Type}{M:cQ}{ro:List aB}{Φ:gn}{m:AC}{own:List Own}{id:Option Nat}{k:List AV->AC}{outs:List AV->List AV}{K:List Kf}(P:α->Prop)(vs:List AV)(ow:α->List Own)(h2:∀z,P z->Vx M (k vs) K (ow z) ro Φ)(h1:(∀z,P z->Vx M (k vs) K (ow z) ro Φ)->Vx M m (.bind id k outs::K) own ro Φ):Vx M m (.bind id k outs::K) own ro Φ:=h1 h2
section
variable{M:cQ}{R own:List Own}{ro:List aB}{Φ:gn}{K:List Kf}
theorem Zx.Pw {n m:Nat}{z:List AV}{ps:List (Nat×Nat×AV)}{k:AV->AC}(h:bL (Vx M (.op (.gK n m z ps) k) K own ro Φ)):Zx M false (.op (.gK n m z ps) k) K own ro Φ:=.z h
theorem Vx.Zh {a b:Int}{k:AV->AC}(h0:0<=a)(hb:0<b)(hm:a<=9223372036854775807)(h:Zx M false (k (I (a/b))) K own ro Φ):Vx M (.op (.bin .quo (I a) (I b)) k) K own ro Φ:=λB W S H=>by have h1:0<=a/b:=Int.ediv_nonneg h0 am;have h2:a/b<=a:=Int.ediv_le_self _ h0;exact GV (c:=a/b) am (by rw[Int.tdiv_eq_ediv_of_nonneg h0];exact wrap64 am am) (h.ok B W S H)
theorem Vx.Px (es:Nat){x:AC}(h:Vx M x K (.sl Ns es []::R) ro Φ):Vx M x K R ro Φ:=λB W S H=>h B W S (H.tT es)
theorem Vx.UF {v x:AV}{es bytes:Nat}{z:List AV}{L:List (List AV)}{k:AV->AC}(ho:odd x=false)(hx:x.cells.length=es)(hz:z.length=es)(hb:(L.length+1)*bytes<=ca)(hl:L.length+1<=cP)
  (h:∀v',odd v'=false->v'.cells=[v']->AV.beq v' v'=true->Zx M false (k v') K (.sl v' es (L++[x.cells])::R) ro Φ):Vx M (.op (.gK es 1 z [(0,es,x)]) λt=>.op (.append es bytes v t) k) K (.sl v es L::R) ro Φ:=λB W S H=>
 JP H 0 rfl ho hx hz hb hl λv1 S1 H1=>by have hs:=dB (iT (H1.oh _ (List.Mem.head _)));exact(h v1 hs.1 hs.2.1 hs.2.2).ok B W S1 H1
end
def X.Su.small (s:X.Su):Prop:=1<=s.ah/\s.ah<=4/\1<=s.mN/\s.mN<=5/\s.mN+1<=s.nodes/\s.nodes<=s.mN+2/\1<=s.ji/\s.ji<=3/\1<=s.room/\s.room<=3/\s.xz=1000
def Bb (x:Tk):Prop:=x.kind=2/\0<=x.prio/\x.prio<=4/\0<=x.every/\x.every<=2/\x.first=0
theorem KX {x:Tk}(h:Bb x):rZ x=0:=by unfold Bb at h;unfold rZ;rw[if_neg am,if_neg am]
theorem KY:∀{l:List Tk},(∀x∈l,Bb x)->l.length<=32->kq l=0:=by
 intro l h hl;unfold kq;rw[if_neg am];clear hl;induction l with
 |nil=>rfl
 |cons x r ih=>unfold dZ.jh;rw[KX (h x ac),ih λy hy=>h y (by simp[hy])];simp
theorem E7 {s:X.Su}{l:List Tk}(hs:s.small)(hl:∀x∈l,Bb x)(h1:1<=l.length)(h2:l.length<=3):s.lH l=0:=by unfold X.Su.small at hs;unfold X.Su.lH;rw[if_pos (by unfold X.Su.wJ;omega),KY hl am,if_neg ac,if_neg am]
section
variable{B0 S:AH}{W:List Nat}{R:List Own}{ro:List aB}{v:AV}{L:List Int}
theorem IL (hv:aB.sl v 1 (ints L)∈ro)(H:Cx B0 W S R ro):aG EM (zF 45) [v] S λr S'=>∃ab,(∃(s:X.Su) (u:AV) (tl:List Tk),r=.agg (s.cs u)/\s.small/\(∀x∈tl,Bb x)/\1<=tl.length/\tl.length<=3/\ab=.sl u 4 (ep tl)::R)/\Cx B0 W S' ab ro:=by
 refine Vx.fm H rfl (b:=Tryz.a45) ?_;repeat' first|refine Zx.y7 ?_|constructor|exact ZQ|intro _
 all_goals apply zL
 refine Vx.UC (n:=10) am am λq=>?_;rw[show List.replicate 10 [AV.sc (Value.int .i64 0)]=ints (List.replicate 10 0) from by unfold ints;simp];refine Zx.ok (n:=false) ?_
 (repeat' first|constructor|exact ZQ|intro _)
 try all_goals apply zL
 rename_i p;refine Vx.cut (α:=List Int) (P:=λN=>N.length=10/\∀a∈N,0<=a/\a<1000) (vs:=[]) (ow:=λN=>.sl (.sl q 0 10 10) 1 (ints N)::.obj p (.row [I 0,I 0,I 0,I 0,I 0,I 0,Ns])::R) ?_ λtail=>?_
 .rintro N ⟨hN,hb⟩;obtain⟨a0,a1,a2,a3,a4,a5,a6,a7,a8,a9,rfl⟩:∃a0 a1 a2 a3 a4 a5 a6 a7 a8 a9,N=[a0,a1,a2,a3,a4,a5,a6,a7,a8,a9]:=by
   match N,hN with
   |[a0,a1,a2,a3,a4,a5,a6,a7,a8,a9],_=>exact⟨a0,a1,a2,a3,a4,a5,a6,a7,a8,a9,rfl⟩
  have b0:=hb a0 ac;have b1:=hb a1 ac;have b2:=hb a2 ac;have b3:=hb a3 ac;have b4:=hb a4 ac;have b5:=hb a5 ac;refine Zx.ok (n:=false) ?_;repeat' first|refine Zx.dN ?_|constructor|exact ZQ|intro _
  all_goals apply zL
  refine Zx.ok (n:=false) (Zx.y6 (List.Mem.head _) am (w:=I a0) rfl ?_);repeat' first|refine Zx.dN ?_|constructor|exact ZQ|intro _
  all_goals apply zL
  refine Zx.ok (n:=false) (Zx.y6 (List.Mem.head _) am (w:=I a1) rfl ?_);repeat' first|refine Zx.dN ?_|constructor|exact ZQ|intro _
  all_goals apply zL
  refine Zx.ok (n:=false) (Zx.y6 (List.Mem.head _) am (w:=I a2) rfl ?_);repeat' first|refine Zx.dN ?_|constructor|exact ZQ|intro _
  all_goals apply zL
  refine Zx.ok (n:=false) (Zx.y6 (List.Mem.head _) am (w:=I a3) rfl ?_);repeat' first|refine Zx.dN ?_|constructor|exact ZQ|intro _
  all_goals apply zL
  refine Zx.ok (n:=false) (Zx.y6 (List.Mem.tail _ (List.Mem.head _)) am (w:=I a4) rfl ?_);repeat' first|refine Zx.dN ?_|constructor|exact ZQ|intro _
  all_goals apply zL
  rename_i x;refine Vx.bB (own:=.obj x (.row [I (1+a0%4),I (1+a1%5),I (1+a1%5+1+a4%2),I (1+a2%3),I (1+a3%3),I 1000,Ns])::.sl (.sl q 0 10 10) 1 (ints [a0,a1,a2,a3,a4,a5,a6,a7,a8,a9])::.obj p (.row [I 0,I 0,I 0,I 0,I 0,I 0,Ns])::R) HQ ?_;generalize hs:X.Su.mk (1+a0%4) (1+a1%5) (1+a1%5+1+a4%2) (1+a2%3) (1+a3%3) 1000=s;have UG:s.small:=by subst hs;unfold X.Su.small;dsimp only;omega
  rw[show [I (1+a0%4),I (1+a1%5),I (1+a1%5+1+a4%2),I (1+a2%3),I (1+a3%3),I 1000,Ns]=s.cs Ns from by subst hs;rfl];refine Vx.Px 4 ?_;generalize hN2:[a0,a1,a2,a3,a4,a5,a6,a7,a8,a9]=N at*
  have h5:N[5]?=some a5:=by subst hN2;rfl
  refine Vx.inv (α:=Nat×AV×List Tk) (P:=λz k=>k+z.1=8/\5<=z.1/\z.2.2.length=z.1-5/\(6<=z.1->(z.1:Int)<=6+a5%3)/\(∀x∈z.2.2,Bb x)/\odd z.2.1=false/\z.2.1.cells=[z.2.1]/\AV.beq z.2.1 z.2.1=true) (λz=>[I (z.1:Int)]) (λz=>.sl z.2.1 4 (ep z.2.2)::.obj x (.row (s.cs z.2.1))::.sl (.sl q 0 10 10) 1 (ints N)::.obj p (.row [I 0,I 0,I 0,I 0,I 0,I 0,Ns])::R) ?_ (a0:=(5,Ns,[])) (n0:=3) ⟨rfl,ac,rfl,ac,ac,rfl,rfl,rfl⟩;rintro⟨i,u,T⟩ k ⟨hk,hi5,hT,hi6,Py,o1,o2,o3⟩ ih;dsimp only at hk hi5 hT hi6 Py o1 o2 o3 ih⊢;unfold X.Su.cs at ih⊢;refine Zx.ok (n:=false) ?_;repeat' first|refine Zx.dN ?_|constructor|exact ZQ|intro _
  all_goals apply zL
  refine Zx.ok (n:=false) (Zx.y6 (v:=.sl q 0 10 10) (L:=ints N) ac am (gx h5) ?_);repeat' first|refine Zx.dN ?_|constructor|exact ZQ|intro _
  all_goals apply zL
  .next cA=>
   have h10:N.length=10:=hN;have hp:=hb N[i+1] (List.getElem_mem am);have zw:N[i+1]?=some N[i+1]:=List.getElem?_eq_getElem am;generalize N[i+1]=a at hp zw;refine Zx.ok (n:=false) (Zx.y6 (v:=.sl q 0 10 10) (L:=ints N) ac am (by rw[show((i:Int)+1).toNat=i+1 by omega];exact gx zw) ?_);repeat' first|refine Zx.dN ?_|constructor|exact ZQ|intro _
   all_goals apply zL
   refine Zx.ok (n:=false) (Zx.y6 (v:=.sl q 0 10 10) (L:=ints N) ac am (by rw[show((i:Int)+1).toNat=i+1 by omega];exact gx zw) ?_)
   (repeat' first|constructor|exact ZQ|intro _)
   all_goals apply zL
   refine Vx.Zh hp.1 am am ?_;have We:0<=a/5:=am;generalize L8:a/5=VY at We;repeat' first|refine Zx.Pw ?_|constructor|exact ZQ|intro _
   all_goals apply zL
   refine Vx.UF (x:=.agg (Tk.cs ⟨2,a%5,VY%3,0⟩)) rfl rfl rfl (by rw[dZ.d_];unfold ca;omega) (by rw[dZ.d_];unfold cP;omega) λu' q1 q2 q3=>?_;have e2:ep T++[(AV.agg (Tk.cs ⟨2,a%5,VY%3,0⟩)).cells]=ep (T++[⟨2,a%5,VY%3,0⟩]):=by unfold dZ.ep;rw[List.map_append];rfl
   rw[e2];have h2:=ih (i+1,u',T++[⟨2,a%5,VY%3,0⟩]) (k-1) am ⟨by dsimp only;omega,by dsimp only;omega,by simp;omega,λ_=>by dsimp only;omega,λy hy=>by
    rcases List.mem_append.1 hy with hy|hy;.exact Py y hy
    .rw[List.mem_singleton.1 hy];unfold Bb;dsimp only;omega,q1,q2,q3⟩
   dsimp only at h2
   (repeat' first|constructor|exact ZQ|intro _)
   all_goals apply zL
  .next zw=>exact⟨rfl,rfl,_,⟨s,u,T,rfl,UG,Py,am,am,rfl⟩,HQ⟩
 .refine Vx.inv (α:=Nat×List Int) (P:=λz k=>k+z.1=10/\z.2.length=10/\∀a∈z.2,0<=a/\a<1000) (λz=>[I (z.1:Int)]) (λz=>.sl (.sl q 0 10 10) 1 (ints z.2)::.obj p (.row [I 0,I 0,I 0,I 0,I 0,I 0,Ns])::R) ?_ (a0:=(0,List.replicate 10 0)) (n0:=10) ⟨rfl,ac,ac⟩;rintro⟨i,N⟩ k ⟨hk,hN,hb⟩ ih;dsimp only at hk hN hb ih⊢;refine Zx.ok (n:=false) ?_;repeat' first|refine Zx.bV (v:=v) ?_|refine Zx.aA (v:=v) ?_|refine Zx.dN ?_|constructor|exact ZQ|intro _
  all_goals apply zL
  .next cA=>
   replace cA:(i:Int)<10:=cA;refine Vx.A1 hv ?_;rw[bJ];repeat' first|refine Zx.aA (v:=v) ?_|refine Zx.dN ?_|constructor|exact ZQ|intro _
   all_goals apply zL
   .next oS=>
    have Zi:i<L.length:=am;refine Zx.ok (n:=false) (Zx.Ur hv am (by rw[Int.toNat_natCast];exact gx (List.getElem?_eq_getElem Zi)) ?_);repeat' first|refine Zx.dN ?_|constructor|exact ZQ|intro _
    all_goals apply zL
    have hp:=ry (a:=L[i]) (n:=1000) am;generalize pick L[i] 1000=a at hp;refine Zx.ok (n:=false) (Zx.Uq (y:=I a) (i:=(i:Int)) am (by rw[bJ];omega) rfl rfl ?_);rw[Int.toNat_natCast,show(I a).cells=[I a] from rfl,ints_set];have h2:=ih (i+1,N.set i a) (k-1) am ⟨by dsimp only;omega,by dsimp only;rw[List.length_set];exact hN,λb tC=>by
     rcases List.mem_or_eq_of_mem_set tC with h|h;.exact hb b h
     .subst h;exact hp⟩
    dsimp only at h2
    (repeat' first|constructor|exact ZQ|intro _)
    all_goals apply zL
   .exact tail N ⟨hN,hb⟩
  .exact tail N ⟨hN,hb⟩
end
end
structure Tn where
 what:Int
 core:Int
 t:Int
 now:Int
 high:Int
 most:Int
 pk:AV
 p:List Int
def Tn.cs (a:Tn):List AV:=[I a.what,I a.core,I a.t,I a.now,I a.high,I a.most,a.pk]
def Cy (l:List Tn):List (List AV):=l.map Tn.cs
theorem oH (l:List Tn):(Cy l).length=l.length:=List.length_map ..
theorem IM {l:List Tn}{i:Nat}{a:Tn}(h:l[i]?=some a):(Cy l)[(i:Int).toNat]?=some a.cs:=by rw[Int.toNat_natCast];unfold Cy;rw[List.getElem?_map,h];rfl
section
variable{B0 S:AH}{W:List Nat}{R:List Own}{ro:List aB}{u:AV}{l:List Tn}
theorem KZ (hu:aB.sl u 7 (Cy l)∈ro)(hp:∀a∈l,aB.sl a.pk 1 (ints a.p)∈ro)(H:Cx B0 W S R ro):
  aG EM (zF 43) [u] S λr S'=>∃ab,((∃b,r=B b/\(b=false->l.length<=40/\∀a∈l,a.p.length<=20))/\ab=R)/\Cx B0 W S' ab ro:=by
 refine Vx.fm H rfl (b:=Tryz.a43) ?_
 (repeat' first|refine Zx.bV (v:=u) ?_|refine Zx.aA (v:=u) ?_|constructor|exact ZQ|intro _)
 try all_goals apply zL
 refine Vx.inv (α:=Nat) (P:=λi k=>k+i=41/\i<=l.length/\∀a∈l.take i,a.p.length<=20) (λi=>[I (i:Int),B false]) (λ_=>R) ?_ (a0:=0) (n0:=41) ⟨rfl,ac,ac⟩;rintro i k ⟨hk,hi,hs⟩ ih;replace hk:k+i=41:=hk;refine Zx.ok (n:=false) ?_
 (repeat' first|refine Zx.bV (v:=u) ?_|refine Zx.aA (v:=u) ?_|constructor|exact ZQ|intro _)
 all_goals apply zL
 refine Vx.A1 hu ?_;rw[oH]
 (repeat' first|refine Zx.bV (v:=u) ?_|refine Zx.aA (v:=u) ?_|constructor|exact ZQ|intro _)
 all_goals apply zL
 .next cA h41=>
  have Pz:i<l.length:=am;have ha:=List.getElem?_eq_getElem Pz;have I3:=hp l[i] (List.getElem_mem Pz);generalize Jy:l[i]=a at ha I3;refine Zx.ok (n:=false) (Zx.Ft hu am (IM ha) (f:=6) (w:=a.pk) rfl ?_)
  (repeat' first|refine Zx.bV (v:=a.pk) ?_|refine Zx.aA (v:=a.pk) ?_|constructor|exact ZQ|intro _)
  all_goals apply zL
  refine Vx.A1 I3 ?_;rw[bJ]
  (repeat' first|constructor|exact ZQ|intro _)
  all_goals apply zL
  .exact⟨rfl,rfl,_,⟨⟨true,rfl,λh=>by cases h⟩,rfl⟩,HQ⟩
  .next h20=>
   have h2:=ih (i+1) (k-1) am ⟨am,am,λb hb=>by
    rw[<-List.take_append_getElem Pz,Jy] at hb;rcases List.mem_append.1 hb with h|h;.exact hs b h
    .rw[List.mem_singleton.1 h];omega⟩
   exact h2
 .next cA h41=>
  refine Vx.A1 hu ?_;rw[oH]
  (repeat' first|constructor|exact ZQ|intro _)
  all_goals apply zL
  all_goals first|(exfalso;omega)|exact⟨rfl,rfl,_,⟨⟨true,rfl,λh=>by cases h⟩,rfl⟩,HQ⟩
 .next zw=>
  refine Vx.A1 hu ?_;rw[oH]
  (repeat' first|constructor|exact ZQ|intro _)
  all_goals apply zL
  all_goals first|exact⟨rfl,rfl,_,⟨⟨true,rfl,λh=>by cases h⟩,rfl⟩,HQ⟩|exact⟨rfl,rfl,_,⟨⟨false,rfl,λ_=>⟨am,λa ha=>hs a (by rwa[List.take_of_length_le am])⟩⟩,rfl⟩,HQ⟩
end
section
variable{B0 S:AH}{W:List Nat}{R:List Own}{ro:List aB}{v w:AV}{L:List Int}{K:List Kf}{own:List Own}{Φ:gn}{k:AV->AC}
theorem Vx.UH (hv:aB.sl v 1 (ints L)∈ro)(hl:L.length<=100000)(h:∀r,odd r=false->r.cells=[r]->AV.beq r r=true->Vx EM (k r) K own (.sl r 1 (ints L)::ro) Φ):
  Vx EM (.call (zF 48) [v] k) K own ro Φ:=
 Vx.Pf (P:=λr φ=>φ=.sl r 1 (ints L)/\(odd r=false/\r.cells=[r]/\AV.beq r r=true)) (λB1 W1 S1 H=>aw (JO (es:=1) (bytes:=8) (z:=[I 0]) rfl rfl rfl (H.hH hv) IC (by rw[bJ];unfold ca;omega) (by rw[bJ];unfold cP;omega)) λr S' K=>⟨_,⟨rfl,dB ((H.DK K).hH (List.Mem.head _)).1⟩,H.DK K⟩) λr φ ⟨e,o1,o2,o3⟩=>by subst e;exact h r o1 o2 o3
theorem UI (hv:aB.sl v 1 (ints L)∈ro)(hw:aB.sl w 1 (ints L)∈ro)(hl:L.length<=100000)(H:Cx B0 W S R ro):
  aG EM (zF 51) [v,w] S λr S'=>∃ab,(r=B true/\ab=R)/\Cx B0 W S' ab ro:=by
 refine Vx.fm H rfl (b:=Tryz.a51) ?_
 (repeat' first|refine Zx.bV (v:=v) ?_|refine Zx.aA (v:=v) ?_|constructor|exact ZQ|intro _)
 all_goals apply zL
 refine Vx.A1 hv ?_;rw[bJ]
 (repeat' first|refine Zx.bV (v:=w) ?_|refine Zx.aA (v:=w) ?_|constructor|exact ZQ|intro _)
 all_goals apply zL
 refine Vx.A1 hw ?_;rw[bJ]
 (repeat' first|constructor|exact ZQ|intro _)
 try all_goals apply zL
 refine Vx.inv (α:=Nat) (P:=λi k=>k+i=L.length) (λi=>[I (i:Int),B true]) (λ_=>R) ?_ (a0:=0) (n0:=L.length) rfl;rintro i k hk ih;replace hk:k+i=L.length:=hk;refine Zx.ok (n:=false) ?_
 (repeat' first|refine Zx.bV (v:=v) ?_|refine Zx.aA (v:=v) ?_|constructor|exact ZQ|intro _)
 all_goals apply zL
 refine Vx.A1 hv ?_;rw[bJ]
 (repeat' first|refine Zx.bV (v:=v) ?_|refine Zx.aA (v:=v) ?_|constructor|exact ZQ|intro _)
 all_goals apply zL
 .next cA=>
  have hi:i<L.length:=am;have hg:(ints L)[(i:Int).toNat]?=some [I L[i]]:=by rw[Int.toNat_natCast];exact gx (List.getElem?_eq_getElem hi)
  refine Zx.ok (n:=false) (Zx.Ur hv am hg ?_)
  (repeat' first|refine Zx.bV (v:=w) ?_|refine Zx.aA (v:=w) ?_|constructor|exact ZQ|intro _)
  all_goals apply zL
  refine Zx.ok (n:=false) (Zx.Ur hw am hg ?_);have h2:=ih (i+1) (k-1) am (show k-1+(i+1)=L.length by omega)
  (repeat' first|constructor|exact ZQ|intro _)
  all_goals apply zL
  all_goals first|(exfalso;omega)|exact h2
 .exact⟨rfl,rfl,_,⟨rfl,rfl⟩,HQ⟩
end
section
open dZ (Tk ep kq)
theorem Vx.UJ {own:List Own}{ro:List aB}{Φ:gn}{K:List Kf}{a b c d:Int}{e:Bool}{k:AV->AC}(h:Zx EM false (k (B false)) K own ro Φ):Vx EM (.op (.eq 71 true (.agg [I a,I b,U c,U d,B e]) (.agg [I a,I b,U c,U d,B e])) k) K own ro Φ:=
 λ_ W S H=>by obtain⟨fs,hu⟩:=nQ Ux;have hk:aE [some .i64,some .i64,some .u64,some .u64,none] [.int .i64 a,.int .i64 b,.int .u64 c,.int .u64 d,.bool e]=true:=rfl;refine ae (LA Pj am hu Uw (qO hk) (qO hk) hk hk) ?_;simpa[rN hk] using h.ok _ W S H
def IP (Zj Zk v34 v37 Zl:AV)(v77:List AV):AC:=.op (.da 1 v37 Zl) λv78=>.op (.load 1 false v78) λv79=>.op (.eq 64 true v79 Np) λFw=>.hZ Fw true (.mv v34) λv81=>.hZ Fw true (.mv Zl) λv82=>.hZ Fw true (.da 1 v81 v82) λv83=>(.hZ Fw true (.load 1 false v83) λv84=>.hZ Fw true (.mv v37) λv85=>.hZ Fw true (.mv Zl) λv86=>.hZ Fw true (.da 1 v85 v86) λv87=>.hZ Fw true (.load 1 false v87) λv88=>.hZ Fw true (.build [Np,Np] [(0,1,v84),(1,1,v88)]) λv89=>(.dO Fw true (zF 22) [v89] λv90=>.hZ Fw true (.un .not v90) λv91=>.op (.pick Fw v91 (B false)) λQC=>.hZ QC false (.mv Zj) λv93=>.hZ QC false (.mv Zk) λv94=>.dO QC false (zF 23) [v93] λv95=>(.dO QC false (zF 24) [v94] λv96=>.hZ QC false (.eq 71 true v95 v96) λZm=>.op (.pick QC (B true) Zm) λE8=>.hZ E8 false (.mv Zj) λZn=>.hZ E8 false (.mv Zk) λPA=>.dO E8 false (zF 25) [Zn] λPB=>(.dO E8 false (zF 26) [PA] λPC=>.hZ E8 false (.bin .neq PB PC) λPD=>.op (.pick E8 (B true) PD) λpY=>.hZ pY false (.mv Zj) λPE=>.hZ pY false (.mv Zk) λPF=>.dO pY false (zF 28) [PE] λPG=>(.dO pY false (zF 29) [PF] λPH=>.dO pY false (zF 27) [PG,PH] λPI=>.hZ pY false (.un .not PI) λPJ=>.op (.pick pY (B true) PJ) λPK=>.ite PK (.ret .ret [(B false)]) (.ret .normal [(nth v77 0)]))))))
section
variable{B0 S:AH}{W:List Nat}{R:List Own}{ro:List aB}{x:Xc}{v va vb:AV}{a b:List (Option Sd)}{c:Int}{y:Me}{m bl w vm N:Nat}{K:List Kf}{Φ:gn}{vw:AV}
theorem Vx.UK (hc:0<=c/\c<a.length)(DN:b.map co=a.map co)(hP:fS x v ro a)(hD:mP x v ro b)(Bc:y.gd)(Bf:y.ws.length=N)(hN:N<=4096)
  (h:Vx EM (.ret .normal [B false]) K (.sl va 1 (dj a)::.sl vb 1 (dj b)::(eF a++(eF b++(ad m bl y (List.replicate (4096-N) (U 0))++(ai w vw y++R))))) ro Φ):
  Vx EM (IP (.ptr m 0) (.ptr w 0) va vb (I c) [B false]) K (.sl va 1 (dj a)::.sl vb 1 (dj b)::(eF a++(eF b++(ad m bl y (List.replicate (4096-N) (U 0))++(ai w vw y++R))))) ro Φ:=by
 have Qc:b.length=a.length:=by
  have:=congrArg List.length DN
  rwa[List.length_map,List.length_map] at this
 obtain⟨sa,PL⟩:∃s,a[c.toNat]?=some s:=⟨_,List.getElem?_eq_getElem am⟩;obtain⟨sb,E9⟩:∃s,b[c.toNat]?=some s:=⟨_,List.getElem?_eq_getElem am⟩;have CM:co sb=co sa:=by
  have h1:(b.map co)[c.toNat]?=(a.map co)[c.toNat]?:=by rw[DN]
  rw[List.getElem?_map,List.getElem?_map,PL,E9] at h1;exact Option.some.inj h1
 have Wo:y.ws.length+(List.replicate (4096-N) (U 0)).length=4096:=by rw[List.length_replicate];omega
 unfold IP;refine Zx.ok (n:=false) ?_;repeat' first|refine Zx.aA (v:=vb) ?_|refine Zx.aA (v:=va) ?_|constructor|exact ZQ|intro _
 all_goals apply zL
 refine Zx.ok (n:=false) (Zx.y6 (v:=vb) (L:=dj b) ac hc.1 (jk E9) ?_);have tail:Vx EM (.op (.eq 71 true (.agg [I y.kind,I y.cb,U y.iR,U y.new,B y.held]) (.agg [I y.kind,I y.cb,U y.iR,U y.new,B y.held])) λZm=>.op (.pick (B false) (B true) Zm) λE8=>.hZ E8 false (.mv (.ptr m 0)) λZn=>.hZ E8 false (.mv (.ptr w 0)) λPA=>.dO E8 false (zF 25) [Zn] λPB=>(.dO E8 false (zF 26) [PA] λPC=>.hZ E8 false (.bin .neq PB PC) λPD=>.op (.pick E8 (B true) PD) λpY=>.hZ pY false (.mv (.ptr m 0)) λPE=>.hZ pY false (.mv (.ptr w 0)) λPF=>.dO pY false (zF 28) [PE] λPG=>(.dO pY false (zF 29) [PF] λPH=>.dO pY false (zF 27) [PG,PH] λPI=>.hZ pY false (.un .not PI) λPJ=>.op (.pick pY (B true) PJ) λPK=>.ite PK (.ret .ret [(B false)]) (.ret .normal [B false])))) K (.sl va 1 (dj a)::.sl vb 1 (dj b)::(eF a++(eF b++(ad m bl y (List.replicate (4096-N) (U 0))++(ai w vw y++R))))) ro Φ:=by
  refine Vx.UJ ?_
  (repeat' first|constructor|exact ZQ|intro _)
  all_goals apply zL
  refine Vx.bB (own:=ad m bl y (List.replicate (4096-N) (U 0))++(ai w vw y++(.sl va 1 (dj a)::.sl vb 1 (dj b)::(eF a++(eF b++R))))) (by simp only[ad,ai,lA,lB,Me.td,Me.JU,Me.last];exact HQ) ?_;refine Vx.spec (Ψ:=λu ab=>ab=.sl u 1 (bq y.ws)::_) (λB1 W1 S1 H=>aw (Ir Bc Wo H) λr S' h=>⟨_,rfl,h⟩) ?_;rintro r1 _ rfl
  (repeat' first|constructor|exact ZQ|intro _)
  all_goals apply zL
  refine Vx.bB (own:=ai w vw y++(.sl r1 1 (bq y.ws)::(ad m bl y (List.replicate (4096-N) (U 0))++(.sl va 1 (dj a)::.sl vb 1 (dj b)::(eF a++(eF b++R)))))) ?_ ?_
  .generalize ad m bl _ _=MM;generalize ai w vw _=RR;exact HQ
  refine Vx.spec (λB1 W1 S1 H=>EZ am H) ?_;rintro r2 _ rfl
  (repeat' first|constructor|exact ZQ|intro _)
  all_goals apply zL
  refine Vx.bB (own:=.sl r1 1 (bq y.ws)::.sl r2 1 (bq y.ws)::(ai w vw y++(ad m bl y (List.replicate (4096-N) (U 0))++(.sl va 1 (dj a)::.sl vb 1 (dj b)::(eF a++(eF b++R)))))) ?_ ?_
  .generalize ad m bl _ _=MM;generalize ai w vw _=RR;exact HQ
  refine Vx.spec (λB1 W1 S1 H=>It am H) ?_;rintro _ _ ⟨rfl,rfl⟩
  (repeat' first|constructor|exact ZQ|intro _)
  all_goals apply zL
  refine Vx.bB ?_ h;generalize ad m bl _ _=MM;generalize ai w vw _=RR;exact HQ
 cases sb with
 |none=>
  show Zx EM false (.op (.eq _ true Np Np) _) _ _ _ _
  (repeat' first|constructor|exact ZQ|intro _)
  all_goals apply zL
  refine Vx.bB ?_ tail;generalize ad m bl _ _=MM;generalize ai w vw _=RR;exact HQ
 |some tb=>
  obtain⟨ta,rfl⟩:∃t,sa=some t:=by
   cases sa with
   |none=>cases CM
   |some t=>exact⟨t,rfl⟩
  show Zx EM false (.op (.eq _ true (.ptr tb.q 0) Np) _) _ _ _ _;repeat' first|refine Zx.aA (v:=vb) ?_|refine Zx.aA (v:=va) ?_|constructor|exact ZQ|intro _
  all_goals apply zL
  refine Zx.ok (n:=false) (Zx.E1 (v:=va) (L:=dj a) ac hc.1 (jk PL) ?_);repeat' first|refine Zx.aA (v:=vb) ?_|refine Zx.aA (v:=va) ?_|constructor|exact ZQ|intro _
  all_goals apply zL
  refine Zx.ok (n:=false) (Zx.E1 (v:=vb) (L:=dj b) ac hc.1 (jk E9) ?_);repeat' first|refine Zx.dK 22 ?_|constructor|exact ZQ|intro _
  all_goals apply zL
  refine Vx.bB (own:=so (some ta)++(so (some tb)++(.sl va 1 (dj a)::.sl vb 1 (dj b)::(eF (a.take c.toNat)++(eF (a.drop (c.toNat+1))++(eF (b.take c.toNat)++(eF (b.drop (c.toNat+1))++(ad m bl y (List.replicate (4096-N) (U 0))++(ai w vw y++R))))))))) ?_ ?_
  .rw[gX PL,gX E9];simp only[@List.append_assoc Own];generalize ad m bl _ _=MM;generalize ai w vw _=RR;exact HQ
  refine Vx.spec (λB1 W1 S1 H=>Iz (s:=some ⟨ta.s.o,ta.s.σ,ta.s.b,tb.h,ta.q,tb.q,[],[]⟩) CM.symm rfl rfl (λt ht=>by cases ht;exact hP _ (List.mem_of_getElem? PL)) (λt ht=>by cases ht;exact hD _ (List.mem_of_getElem? E9)) H) ?_;rintro _ _ ⟨rfl,rfl⟩;refine Zx.bB (own:=.sl va 1 (dj a)::.sl vb 1 (dj b)::(eF a++(eF b++(ad m bl y (List.replicate (4096-N) (U 0))++(ai w vw y++R))))) ?_ ?_
  .rw[gX PL,gX E9];simp only[@List.append_assoc Own];generalize ad m bl _ _=MM;generalize ai w vw _=RR;exact HQ
  (repeat' first|constructor|exact ZQ|intro _)
  all_goals apply zL
  refine Vx.bB ?_ tail;generalize ad m bl _ _=MM;generalize ai w vw _=RR;exact HQ
theorem Vx.IQ {k:List AV->AC}{outs:List AV->List AV}{id:Option Nat}(hc:0<=c/\c<a.length)(DN:b.map co=a.map co)(hP:fS x v ro a)(hD:mP x v ro b)(Bc:y.gd)(Bf:y.ws.length=N)(hN:N<=4096)
  (h:Vx EM (k [B false]) K (.sl va 1 (dj a)::.sl vb 1 (dj b)::(eF a++(eF b++(ad m bl y (List.replicate (4096-N) (U 0))++(ai w vw y++R))))) ro Φ):
  Vx EM (IP (.ptr m 0) (.ptr w 0) va vb (I c) [B false]) (.bind id k outs::K) (.sl va 1 (dj a)::.sl vb 1 (dj b)::(eF a++(eF b++(ad m bl y (List.replicate (4096-N) (U 0))++(ai w vw y++R))))) ro Φ:=by
 refine Vx.UK hc DN hP hD Bc Bf hN ?_;refine Zx.ok (n:=false) ?_
 (repeat' first|constructor|exact ZQ|intro _)
theorem DO {l:List (Option Sd)}{i q:Nat}{s:Sd}(h:s.q=q):(dj l).set i (AV.ptr q 0).cells=dj (l.set i (some s)):=by subst h;unfold dj;rw[List.map_set];rfl
end
end
end Go.cO
