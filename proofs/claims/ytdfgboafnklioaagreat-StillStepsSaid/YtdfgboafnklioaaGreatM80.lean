/- Contracts. Conditions: in each theorem. -/
import Derived.Test.YtdfgboafnklioaaGreatM72
import Derived.Test.YtdfgboafnklioaaGreatM60
set_option linter.all false
set_option maxRecDepth 100000
set_option maxHeartbeats 4000000
namespace Go.cI
open Go.Proofs
structure tB where
 o:Od
 σ:az
 b:Int
 hg:Int
 q:Nat
 q':Nat
 lo:List Own
 i4:List Own
def pA:Option tB->AV
 |none=>Np
 |some s=>.ptr s.q 0
def pB:Option tB->AV
 |none=>Np
 |some s=>.ptr s.q' 0
def DS (s:Option tB):List AV:=[pA s,pB s]
def Mf:Option tB->List Own
 |none=>[]
 |some s=>s.lo++s.i4
def oq (l:List (Option tB)):List Own:=(l.map Mf).flatten
structure tB.ok (x:Xc)(v:AV)(ro:List aF)(s:tB):Prop where
 p:dR x s.o s.q s.b s.σ s.lo
 d:bH x s.o v s.hg s.q' s.b s.σ s.i4
 k:s.σ.over=false->s.o.ok x
 w:s.σ.wd
 z:s.o.k≠0
 t:s.o.ok x->s.o.k=1->∃(L:List (List AV)) (c:List AV),aF.sl v 4 L∈ro/\L[s.o.tk.toNat]?=some c/\c[1]?=some (I s.o.prio)
def iS (x:Xc)(v:AV)(ro:List aF)(l:List (Option tB)):Prop:=∀s,some s∈l->s.ok x v ro
theorem iS.set {x v ro l}{i:Nat}{s}(h:iS x v ro l)(hs:s.ok x v ro):iS x v ro (l.set i (some s)):=λt ht=>by
 rcases List.mem_or_eq_of_mem_set ht with ht|ht;.exact h t ht
 .cases ht;exact hs
theorem iS.nil {x v ro}{n:Nat}:iS x v ro (List.replicate n none):=λs hs=>by have:=(List.mem_replicate.1 hs).2;cases this
theorem iS.at {x v ro l}{i:Nat}{s}(h:iS x v ro l)(hi:l[i]?=some (some s)):s.ok x v ro:=h s (List.mem_of_getElem? hi)
theorem zd {l}{i:Nat}{s}(h:l[i]?=some s):oq l=oq (l.take i)++(Mf s++oq (l.drop (i+1))):=by
 obtain⟨hi,h2⟩:=List.getElem?_eq_some_iff.1 h;have e:l=l.take i++(s::l.drop (i+1)):=by rw[<-h2,<-List.drop_eq_getElem_cons hi,List.take_append_drop]
 unfold oq;conv=>lhs;rw[e]
 simp
theorem Bm {l:List (Option tB)}{i:Nat}{s:Option tB}(h:i<l.length):oq (l.set i s)=oq (l.take i)++(Mf s++oq (l.drop (i+1))):=by rw[zd (l:=l.set i s) (i:=i) (s:=s) (by rw[List.getElem?_set];simp[h])];rw[List.take_set_of_le (Nat.le_refl i),List.drop_set_of_lt (Nat.lt_succ_self i)]
theorem wb {l:List (Option tB)}{i:Nat}{s:Option tB}(h:l[i]?=some s):(l.map DS)[i]?=some (DS s):=by rw[List.getElem?_map,h];rfl
theorem DT {l:List (Option tB)}{i:Nat}{s:tB}:(l.map DS).set i [.ptr s.q 0,.ptr s.q' 0]=(l.set i (some s)).map DS:=by rw[List.map_set];rfl
theorem KZ (s:Option tB):odd (pA s)=false/\(pA s).cells=[pA s]:=by cases s<;>exact⟨rfl,rfl⟩
theorem K0 (s:Option tB):odd (pB s)=false/\(pB s).cells=[pB s]:=by cases s<;>exact⟨rfl,rfl⟩
theorem Ix {a b c:Own}{R:List Own}:(a::b::c::R).Perm (c::a::b::R):=((List.Perm.swap c b R).cons a).trans (List.Perm.swap c a (b::R))
theorem four {α:Type}{l:List α}(h:l.length=4):∃a b c d,l=[a,b,c,d]:=by
 rcases l with _|⟨a,_|⟨b,_|⟨c,_|⟨d,_|⟨e,r⟩⟩⟩⟩⟩<;>simp at h
 exact⟨a,b,c,d,rfl⟩
theorem Iy {l:List (Option tB)}{i:Nat}{s:tB}(h:l[i]?=some (some s)):(l.map DS).set i [.ptr s.q 0,.ptr s.q' 0]=l.map DS:=by
 apply List.ext_getElem?;intro j;rw[List.getElem?_set];split
 .next e=>subst e;have hi:=(List.getElem?_eq_some_iff.1 h).1;rw[if_pos (by rw[List.length_map];exact hi),wb h];rfl
 .rfl
theorem Cx.head {B S W o o' R ro}(H:Cx B W S (o::R) ro)(hi:o'.ids=o.ids)(hh:o.holds S->o'.holds S):Cx B W S (o'::R) ro where
 next:=H.next
 iD:=H.iD
 oh:=λx hx=>by
  rcases List.mem_cons.1 hx with rfl|hx;.exact hh (H.oh _ (List.Mem.head _))
  .exact H.oh x (List.mem_cons_of_mem _ hx)
 oi:=λx hx=>by
  rcases List.mem_cons.1 hx with rfl|hx;.exact λid bR=>H.oi _ (List.Mem.head _) id (hi▸bR)
  .exact H.oi x (List.mem_cons_of_mem _ hx)
 od:=by have:=List.pairwise_cons.1 H.od;exact List.pairwise_cons.2 ⟨λy hy id h=>this.1 y hy id (hi▸h),this.2⟩
 rh:=H.rh
 ri:=λφ iW id bR=>⟨(H.ri φ iW id bR).1,λx hx=>by
  rcases List.mem_cons.1 hx with rfl|hx
  .have:=(H.ri φ iW id bR).2 _ (List.Mem.head _)
   rwa[hi]
  .exact(H.ri φ iW id bR).2 x (List.mem_cons_of_mem _ hx)⟩
section
variable{M:dS}{own R:List Own}{ro:List aF}{Φ:ma}{K:List Kf}{v w:AV}{L:List (List AV)}{c:List AV}{i:Int}{es f:Nat}
theorem Vx.Pp {x}{p n:Nat}{c}(hc:c=L.flatten)(hn:L.length=n)(CU:∀x∈L,x.length=es)(h:Vx M x K (.sl (.sl p 0 n n) es L::R) ro Φ):Vx M x K (.obj p (.row c)::R) ro Φ:=λB W S H=>h B W S (H.head rfl λg=>by
 have hf:c.length=n*es:=by rw[hc,bw CU,hn]
 refine .inr ⟨p,0,c,.inl ⟨n,am,am,by rw[hn]⟩,g,?_,CU⟩;rw[List.drop_zero,hn,<-hf,List.take_length,hc])
theorem Vx.Zi {x}{p n:Nat}(hn:L.length=n)(h:∀tl,Vx M x K (.obj p (.row (L.flatten++tl))::R) ro Φ):Vx M x K (.sl (.sl p 0 n n) es L::R) ro Φ:=λB W S H=>by
 rcases H.oh _ (List.Mem.head _) with⟨g,_⟩|⟨id,off,c,g1,g2,g3,g4⟩;.cases g
 .rcases g1 with⟨cap,_,_,g⟩|⟨_,_,_,g⟩
  .cases g;have e:c=L.flatten++c.drop (L.length*es):=by rw[List.drop_zero] at g3;rw[<-g3,List.take_append_drop]
   rw[e] at g2;exact h _ B W S (H.head rfl λ_=>g2)
  .cases g
theorem Zx.slf {k}(hm:Own.sl v es L∈own)(hi:0<=i)(hc:L[i.toNat]?=some c)(hw:c[f]?=some w)(h:Zx M false (k w) K own ro Φ):Zx M false (.op (.dp es v (I i)) λp=>.op (.jO f p) λq=>.op (.load 1 false q) k) K own ro Φ:=.z (.of λB W S H=>by
 obtain⟨n,rfl⟩:∃n:Nat,i=n:=⟨i.toNat,am⟩;obtain⟨j,hj⟩:=List.getElem?_of_mem hm;exact gP H j hj (by simpa using hc) λid off hp=>cD (ve hp hw (h.ok B W S H)))
theorem Zx.Zj {k}(hm:Own.sl v 1 L∈own)(hi:0<=i)(hc:L[i.toNat]?=some [w])(h:Zx M false (k w) K own ro Φ):Zx M false (.op (.dp 1 v (I i)) λp=>.op (.load 1 false p) k) K own ro Φ:=.z (.of λB W S H=>by
 obtain⟨n,rfl⟩:∃n:Nat,i=n:=⟨i.toNat,am⟩;obtain⟨j,hj⟩:=List.getElem?_of_mem hm;exact gP H j hj (by simpa using hc) λid off hp=>ve (j:=0) hp rfl (h.ok B W S H))
theorem Zx.t_ {v u}{bytes:Nat}{k}(h:bL (Vx M (.op (.append es bytes v u) k) K own ro Φ)):Zx M false (.op (.append es bytes v u) k) K own ro Φ:=.z h
theorem Vx.apR {v u}{bytes:Nat}{N k}(hx:aF.sl u es N∈ro)(hN:∀y∈N,y.length=es)(hb:(L.length+N.length)*bytes<=140737488355328)(hl:L.length+N.length<=9223372036854775807)(h:∀v',odd v'=false->v'.cells=[v']->AV.beq v' v'=true->Zx M false (k v') K (.sl v' es (L++N)::R) ro Φ):Vx M (.op (.append es bytes v u) k) K (.sl v es L::R) ro Φ:=λB W S H=>
 o5 H 0 rfl hx hN hb hl λv1 S1 H1=>by obtain⟨g1,g2,g3⟩:=bx (ij (H1.oh _ (List.Mem.head _)));exact(h v1 g1 g2 g3).ok B W S1 H1
theorem Zx.sls {k y}(hi:0<=i)(hl:i<L.length)(ho:odd y=false)(hy:y.cells.length=es)(h:Zx M false (k uv) K (.sl v es (L.set i.toNat y.cells)::R) ro Φ):Zx M false (.op (.dp es v (I i)) λp=>.op (.store es p y) k) K (.sl v es L::R) ro Φ:=.z (.of λB W S H=>by
 obtain⟨n,rfl⟩:∃n:Nat,i=n:=⟨i.toNat,am⟩;exact rL H 0 rfl am ho hy λS1 H1=>h.ok B W S1 H1)
theorem Zx.Ub {k}(hv:aF.sl v es L∈ro)(hi:0<=i)(hc:L[i.toNat]?=some c)(hw:c[f]?=some w)(h:Zx M false (k w) K own ro Φ):Zx M false (.op (.dp es v (I i)) λp=>.op (.jO f p) λq=>.op (.load 1 false q) k) K own ro Φ:=
 .z (.of (Vx.Nj hv hi hc λid off=>Vx.pt1 (List.Mem.head _) hw (Vx.tl h.ok)))
theorem Zx.Zk {k}(hv:aF.sl v es L∈ro)(hi:0<=i)(hc:L[i.toNat]?=some c)(hw:c[f]?=some w)(h:Zx M false (k w) K own ro Φ):Zx M false (.op (.dp es v (I i)) λp=>.rp (B true) true (.jO f p) λq=>.rp (B true) true (.load 1 false q) k) K own ro Φ:=
 .z (.of (Vx.Nj hv hi hc λid off=>λB W S H=>cC (cD (cC (ny H (List.Mem.head _) hw (h.ok B W S H.tl))))))
theorem Zx.Uc {k}(hm:Own.sl v es L∈own)(hi:0<=i)(hc:L[i.toNat]?=some c)(hw:c[f]?=some w)(h:Zx M false (k w) K own ro Φ):Zx M false (.op (.dp es v (I i)) λp=>.rp (B true) true (.jO f p) λq=>.rp (B true) true (.load 1 false q) k) K own ro Φ:=.z (.of λB W S H=>by
 obtain⟨n,rfl⟩:∃n:Nat,i=n:=⟨i.toNat,am⟩;obtain⟨j,hj⟩:=List.getElem?_of_mem hm;exact gP H j hj (by simpa using hc) λid off hp=>cC (cD (cC (ve hp hw (h.ok B W S H)))))
theorem Zx.sra {k}(hv:aF.sl v es L∈ro)(hi:0<=i)(hc:L[i.toNat]?=some c)(hn:c.length=es)(h:Zx M false (k (.agg c)) K own ro Φ):Zx M false (.op (.dp es v (I i)) λp=>.op (.load es true p) k) K own ro Φ:=
 .z (.of (Vx.Nj hv hi hc λid off=>Vx.ptl (List.Mem.head _) hn (Vx.tl h.ok)))
theorem Zx.Ud {k}(hv:aF.sl v 1 L∈ro)(hi:0<=i)(hc:L[i.toNat]?=some [w])(h:Zx M false (k w) K own ro Φ):Zx M false (.op (.dp 1 v (I i)) λp=>.op (.load 1 false p) k) K own ro Φ:=
 .z (.of (Vx.Nj hv hi hc λid off=>λB W S H=>u_ H (List.Mem.head _) rfl (h.ok B W S H.tl)))
end
theorem Bn {B0 S W R ro}(H:Cx B0 W S R ro):
  aG EM (zF 22) [.agg [Np,Np]] S λu S'=>∃ab,(u=B true/\ab=R)/\Cx B0 W S' ab ro:=by
 refine y1 H rfl ?_;intros;all_goals exact⟨rfl,rfl,_,⟨rfl,rfl⟩,HQ⟩
def VY (ws:List Int)(i:Nat)(y:Me):Me:=y.st i (ws[i]?.getD 0)
def Mg (ws:List Int)(y:Me):Me:=rep (VY ws) ws.length y
theorem Iz {ws}(hw:∀w∈ws,Me.au w){n:Nat}(hn:n<=ws.length):Gd (n*1) (rep (VY ws) n):=Gd.rep (c:=1) am n λi hi=>Gd.st (by
 rw[List.getElem?_eq_getElem am];exact hw _ (List.getElem_mem _))
section
variable{B0 S:AH}{W:List Nat}{R:List Own}{ro:List aF}{x:Xc}{v u:AV}{l:List cX.Tk}{ws:List Int}
theorem K1 {n:Nat}(hx:x.ok)(hv:aF.sl v 4 (cX.dm l)∈ro)(hs:x.ex.ok l)(h1:1<=n)(h2:n<=4096)(hu:aF.sl u 1 (aJ ws)∈ro)(hw:∀w∈ws,Me.au w)(hl:ws.length<=250)(H:Cx B0 W S R ro):
  aG EM (zF 32) [.agg (x.cs++[v]),I (n:Int),u] S λu S'=>∃ab,(∃m bl w vm,u=.dh [.ptr m 0,.ptr w 0]/\ab=ad m bl (Mg ws (x.fill (Me.fresh n))) (List.replicate (4096-n) (U 0))++(ai w vm (Mg ws (x.fill (Me.fresh n)))++R))/\Cx B0 W S' ab ro:=by
 have og:gl S v 4 (cX.dm l):=(H.eT hv).1;obtain⟨ov,cv⟩:=X.dC og;have IA:bN 100000000 (Me.fresh n):=⟨wa h1 h2,by unfold Me.fresh;dsimp only;omega⟩;have VZ:=Xc.a_ hx (Me.fresh n) IA.1 (by have:=IA.2;omega);have Er:=VZ.2.1;have hf2:=IA.2;have uz:∀i:Nat,i<=ws.length->(rep (VY ws) i (x.fill (Me.fresh n))).gd:=λi hi=>(Iz hw hi _ VZ.1 am).1;simp only[Xc.cs,Tw.cs,Lb.cs,Ar.cs,Ep.cs,lA,lB];refine Vx.fm H rfl ?_
 (repeat' first|refine Zx.an 14 ?_|refine Zx.an 15 ?_|constructor|exact ZQ|intro _)
 all_goals apply zL
 refine Vx.spec (Ψ:=λu ab=>∃m bl,u=.dh [.ptr m 0,I 0]/\ab=ad m bl (Me.fresh n) (List.replicate (4096-n) (U 0))++_) (λB1 W1 S1 H=>ar (KU h1 h2 H) λr S' ⟨m,bl,h,H'⟩=>⟨_,⟨m,bl,h,rfl⟩,H'⟩) ?_;rintro _ _ ⟨m,bl,rfl,rfl⟩
 (repeat' first|refine Zx.an 14 ?_|refine Zx.an 15 ?_|constructor|exact ZQ|intro _)
 all_goals apply zL
 refine Vx.spec (Ψ:=λu ab=>∃w vm,u=.dh [.ptr w 0,I 0]/\ab=ai w vm (Me.fresh n)++_) (λB1 W1 S1 H=>ar (KV h1 h2 H) λr S' ⟨m,bl,h,H'⟩=>⟨_,⟨m,bl,h,rfl⟩,H'⟩) ?_;rintro _ _ ⟨w,vm,rfl,rfl⟩
 (repeat' first|refine Zx.an 14 ?_|refine Zx.an 15 ?_|constructor|exact ZQ|intro _)
 all_goals apply zL
 refine Vx.perm DR ?_;refine Vx.spec (λB1 W1 S1 H=>Pl hx hv hs IA H) ?_;rintro _ _ ⟨rfl,rfl⟩
 (repeat' first|refine Zx.an 14 ?_|refine Zx.an 15 ?_|constructor|exact ZQ|intro _)
 all_goals apply zL
 refine Vx.perm DR ?_;refine Vx.spec (λB1 W1 S1 H=>KT hx hv hs IA H) ?_;rintro _ _ ⟨rfl,rfl⟩
 (repeat' first|refine Zx.aX (v:=u) ?_|refine Zx.aK (v:=u) ?_|constructor|exact ZQ|intro _)
 all_goals apply zL
 unfold Mg;generalize x.fill (Me.fresh n)=y0 at uz;rw[<-lC];refine Vx.forM (C:=λl=>l) (mm:=λy=>ai w vm y++ad m bl y (List.replicate (4096-n) (U 0))) (f:=VY ws) ws.length (λi=>[I (i:Int)]) ?_ ?_
 .intro i hi gD;have kU:=uz i am;have lR:(aJ ws)[(i:Int).toNat]?=some [U (ws[i]?.getD 0)]:=by rw[Int.toNat_natCast];exact gR (by rw[List.getElem?_eq_getElem hi];rfl)
  rw[@lC Own] at gD⊢;refine .z (.of (Vx.E0 hu ?_));rw[bZ]
  (repeat' first|refine Zx.aX (v:=u) ?_|refine Zx.aK (v:=u) ?_|constructor|exact ZQ|intro _)
  all_goals apply zL
  refine Zx.ok (n:=false) (Zx.Ud hu am lR ?_)
  (repeat' first|refine Zx.aX (v:=u) ?_|refine Zx.aK (v:=u) ?_|constructor|exact ZQ|intro _)
  all_goals apply zL
  refine Zx.ok (n:=false) (Zx.Ud hu am lR ?_);exact zZ
 .rw[@lC Own];refine .z (.of (Vx.E0 hu ?_));rw[bZ];refine z1 ?_;intros;refine⟨rfl,rfl,_,⟨m,bl,w,vm,rfl,rfl⟩,?_⟩;generalize ad m bl _ _=MM;generalize ai w vm _=NN;exact HQ
end
def lJ (d s:Nat)(v:AV)(L:List Int)(a:Nat):List Own:=[.obj d (.row [.ptr s 0]),.obj s (.row [v,I (a:Int)]),.sl v 1 (ints L)]
def pJ (d:Nat)(v:AV)(L:List Int)(a:Nat):List Own:=[.obj d (.row [v,I (a:Int)]),.sl v 1 (ints L)]
def se (L:List Int)(a:Nat):Int:=L[a]?.getD 0
def mz (L:List Int)(a:Nat):Nat:=if a<L.length then a+1 else a
def Gz:Nat->Int->Int->Int->Int
 |0,_,h,_=>h
 |k+1,w,h,m=>if h<m/\w%2=1 then Gz k (w/2) (h+1) m else h
instance acx:cA 42 where
section
variable{B0 S:AH}{W:List Nat}{R:List Own}{ro:List aF}{u:AV}{L:List Int}{d a:Nat}{v:AV}{w m:Int}
theorem DU (hm:0<=m/\m<=100)(H:Cx B0 W S R ro):aG EM (zF 225) [I w,I m] S λu S'=>∃ab,(u=I (Gz 100 (w%18446744073709551616) 1 m)/\ab=R)/\Cx B0 W S' ab ro:=by
 refine y1 H rfl ?_;refine Vx.inv (α:=Int×Int) (P:=λz n=>(0<=z.1/\z.1<18446744073709551616)/\(1<=z.2/\z.2+n=101)/\Gz n z.1 z.2 m=Gz 100 (w%18446744073709551616) 1 m) (λz=>[U z.1,I z.2]) (λ_=>R) ?_ (a0:=(w%18446744073709551616,1)) (n0:=100) ⟨by dsimp only;omega,by dsimp only;omega,rfl⟩;rintro⟨x,h⟩ n ⟨hx,hh,e⟩ ih;dsimp only at hx hh e ih⊢;refine x3 ?_ ?_ ?_<;>intros
 .refine ih (x/2,h+1) (n-1) am ⟨by dsimp only;omega,by dsimp only;omega,?_⟩;rw[<-e];obtain⟨k,rfl⟩:∃k,n=k+1:=⟨n-1,am⟩;show _=if h<m/\x%2=1 then _ else _
  rw[if_pos ⟨ci,ci⟩];rfl
 all_goals(
  refine⟨rfl,rfl,_,⟨?_,rfl⟩,HQ⟩;rw[<-e];cases n with
  |zero=>rfl
  |succ k=>
   show _=I (if h<m/\x%2=1 then _ else _);rw[if_neg am];rfl)
theorem kT (L:List Int):(ints L).length=L.length:=List.length_map ..
theorem IB (L:List Int):∀y∈ints L,y.length=1:=λy hy=>by obtain⟨n,_,rfl⟩:=List.mem_map.1 hy;rfl
theorem IC {L}{a:Nat}(h:a<L.length):(ints L)[a]?=some [I (se L a)]:=by unfold ints se;rw[List.getElem?_map,List.getElem?_eq_getElem h];rfl
theorem Zl (hl:L.length<=4096)(hu:aF.sl u 1 (ints L)∈ro)(H:Cx B0 W S R ro):aG EM (zF 38) [u] S λr S'=>∃ab,(∃d v,r=.dh [.ptr d 0,I 0]/\ab=pJ d v L 0++R)/\Cx B0 W S' ab ro:=by
 refine Vx.fm H rfl ?_
 (repeat' first|refine Zx.aX (v:=u) ?_|refine Zx.aK (v:=u) ?_|constructor|exact ZQ|intro _)
 all_goals apply zL
 refine Vx.E0 hu ?_;rw[kT];repeat' first|refine Zx.t_ (u:=u) ?_|constructor|exact ZQ|intro _
 all_goals apply zL
 refine Vx.Pp (n:=0) (es:=1) (L:=[]) rfl rfl (by intro x hx;cases hx) ?_;refine Vx.apR hu (IB L) (by rw[kT];simp;omega) (by rw[kT];simp;omega) λv' g1 g2 g3=>?_;have hf:eg [Ns,I 0] [(0,1,v')]=some [v',I 0]:=by unfold eg;rw[g1,g2];rfl
 refine z1 ?_;intros;exact⟨rfl,rfl,_,⟨_,_,rfl,rfl⟩,HQ⟩
theorem Mh (ha:a<=L.length)(hl:L.length<=4096)(H:Cx B0 W S (pJ d v L a++R) ro):aG EM (zF 226) [.ptr d 0] S λr S'=>∃ab,(r=I (se L a)/\ab=pJ d v L (mz L a)++R)/\Cx B0 W S' ab ro:=by
 unfold pJ at*
 have el:=kT L;refine y3 H bF ?_ ?_ ?_<;>intros
 .rw[el];simp only[Int.ofNat_eq_natCast];omega
 .next h=>rw[el] at h;simp only[Int.ofNat_eq_natCast] at h;exact⟨rfl,rfl,_,⟨by unfold se;rw[List.getElem?_eq_none am];rfl,by unfold mz;rw[if_neg am]⟩,HQ⟩
 .next h=>rw[el] at h;simp only[Int.ofNat_eq_natCast] at h;refine Zx.ok (n:=false) (Zx.Zj (L:=ints L) (w:=I (se L a)) ac am (by rw[show((a:Int)+1-1).toNat=a by omega];exact IC am) ?_);refine z1 ?_;refine⟨rfl,rfl,_,⟨rfl,rfl⟩,?_⟩;rw[show mz L a=a+1 from if_pos am];exact HQ
end
instance acy {n:Nat}[Mn n [122,542,584]]:cA n where
section
variable{B0 S:AH}{W:List Nat}{R:List Own}{ro:List aF}{u:AV}{L:List Int}{d s a:Nat}{v:AV}{w m:Int}
theorem Pq (hv:lq S v 1 (ints L))(hl:L.length<=100000):aG EM (zF 117) [v] S λr S'=>Cx S [] S' [.sl r 1 (ints L)] []:=by
 refine bk (b:=Tryz.a117) rfl rfl ?_;have H:=Cx.M8 hv;rw[Tryz.u117];have Ue:v≠Ns->evalOp EM.P (.eq 87 false v Ns) S=some (B false,S):=λfF=>by
  rcases hv.1 with⟨rfl,_⟩|⟨id,off,c,(⟨_,_,_,rfl⟩|⟨_,_,_,rfl⟩),_⟩;.exact absurd rfl fF
  .kernel_rfl
  .kernel_rfl
 by_cases hn:v=Ns
 .subst hn;have h0:ints L=[]:=by
   rcases hv.1 with⟨_,h⟩|⟨id,off,c,(⟨_,_,_,h⟩|⟨_,_,_,h⟩),_⟩;.exact h
   .cases h
   .cases h
  refine ah (v:=B true) (S1:=S) (by kernel_rfl) ?_
  (try(refine zz ?_;(repeat constructor);intro _))
  refine wp_ret ⟨rfl,?_⟩;rw[h0];rw[h0] at H;exact(H.yZ 1).tl
 .refine ah (Ue hn) ?_
  (try(refine zz ?_;(repeat constructor);intro _))
  refine X.vQ H rfl λu S1 H=>?_;refine o5 (x:=v) (N:=ints L) H 0 rfl Mm (IB L) (by rw[kT];unfold cK;simp;omega) (by rw[kT];unfold dL;simp;omega) λv1 S2 H=>?_;refine wp_ret ⟨rfl,?_⟩;exact H.tl
theorem Cx.Uf {B0 S S1 W own ro}(H:Cx B0 W S own ro){v}{es:Nat}{L}(K:Cx S [] S1 [.sl v es L] []):Cx B0 W S1 (.sl v es L::own) ro:=H.gM K.cq (K.oh _ (List.Mem.head _)) λid bR=>by
 have:=K.oi _ (List.Mem.head _) id bR;refine⟨?_,this.1⟩;have h2:=this.2;exact Nat.le_of_not_lt λh=>by have:=h2 h;simp at this
theorem Zm (hl:L.length<=4096)(hu:aF.sl u 1 (ints L)∈ro)(H:Cx B0 W S R ro):aG EM (zF 37) [u] S λr S'=>∃ab,(∃d s v,r=.dh [.ptr d 0,I 0]/\ab=lJ d s v L 0++R)/\Cx B0 W S' ab ro:=by
 refine Vx.fm H rfl ?_
 (repeat' first|refine Zx.aX (v:=u) ?_|refine Zx.aK (v:=u) ?_|constructor|exact ZQ|intro _)
 all_goals apply zL
 refine Vx.E0 hu ?_;rw[kT];refine z1 ?_;intros;refine Vx.spec (Ψ:=λr ab=>(odd r=false/\r.cells=[r]/\AV.beq r r=true)/\ab=.sl r 1 (ints L)::R) (λB1 W1 S1 H=>ar (Pq (H.eT hu) am) λr S' K=>⟨_,⟨bx (ij (K.oh _ (List.Mem.head _))),rfl⟩,H.Uf K⟩) ?_;rintro v' _ ⟨⟨g1,g2,g3⟩,rfl⟩;have hf:eg [Ns,I 0] [(0,1,v')]=some [v',I 0]:=by unfold eg;rw[g1,g2];rfl
 refine z1 ?_;intros;next ps pd=>exact⟨rfl,rfl,lJ pd ps v' L 0++R,⟨pd,ps,v',rfl,rfl⟩,by simp only[lJ,lA,lB];exact HQ⟩
theorem Mi (ha:a<=L.length)(hl:L.length<=4096)(H:Cx B0 W S (lJ d s v L a++R) ro):aG EM (zF 470) [.ptr d 0] S λr S'=>∃ab,(r=I (se L a)/\ab=lJ d s v L (mz L a)++R)/\Cx B0 W S' ab ro:=by
 unfold lJ at*
 have el:=kT L;refine Vx.fm H bF ?_;haveI:aV:=⟨⟩;refine z2 ?_ ?_<;>intros
 .next h=>rw[el] at h;simp only[Int.ofNat_eq_natCast] at h;refine Zx.ok (n:=false) (Zx.Zj (L:=ints L) (w:=I (se L a)) ac am (by rw[show((a:Int)+1-1).toNat=a by omega];exact IC am) ?_);refine z1 ?_;refine⟨rfl,rfl,_,⟨rfl,rfl⟩,?_⟩;rw[show mz L a=a+1 from if_pos am];simp only[lA,lB];exact HQ
 .next h=>rw[el] at h;simp only[Int.ofNat_eq_natCast] at h;refine⟨rfl,rfl,_,⟨by unfold se;rw[List.getElem?_eq_none am];rfl,rfl⟩,?_⟩;rw[show mz L a=a from if_neg am];simp only[lA,lB];exact HQ
theorem ID {a:Int}(h:0<=a):qB a 1=a%2:=by obtain⟨n,rfl⟩:∃n:Nat,a=n:=⟨a.toNat,am⟩;unfold qB;rw[Int.toNat_natCast,show(1:Int).toNat=1 from rfl,Nat.and_one_is_mod];omega
theorem ze {k:Nat}{w h m:Int}(c:¬(h<m/\w%2=1)):Gz k w h m=h:=by
 cases k with
 |zero=>rfl
 |succ k=>exact if_neg c
theorem n_ {k:Nat}{w h m:Int}(c:h<m/\w%2=1):Gz (k+1) w h m=Gz k (w/2) (h+1) m:=if_pos c
theorem DV (hm:0<=m/\m<=4)(H:Cx B0 W S R ro):aG EM (zF 469) [I w,I m] S λu S'=>∃ab,(u=I (Gz 100 (w%18446744073709551616) 1 m)/\ab=R)/\Cx B0 W S' ab ro:=by
 have hw:0<=w%18446744073709551616/\w%18446744073709551616<18446744073709551616:=am;refine Vx.fm H rfl ?_;haveI:aV:=⟨⟩
 (repeat' first|constructor|exact ZQ|intro _)
 all_goals apply zL
 all_goals(
  generalize w%18446744073709551616=x at*
  refine⟨rfl,rfl,_,⟨?_,rfl⟩,HQ⟩;show I _=I _;congr 1;have u0:qB (x/2^0) 1=x%2:=by rw[show(2:Int)^0=1 from rfl,Int.ediv_one,ID hw.1]
  have u1:qB (x/2^(0+1)) 1=x/2%2:=by rw[show(2:Int)^(0+1)=2 from rfl,ID am]
  have u2:qB (x/2^(0+1+1)) 1=x/2/2%2:=by rw[show(2:Int)^(0+1+1)=4 from rfl,ID am];omega
  simp only[u0,u1,u2] at*
  first
   |rw[ze am]
   |rw[n_ ⟨am,am⟩,ze am]
   |rw[n_ ⟨am,am⟩,n_ ⟨am,am⟩,ze am]
   |rw[n_ ⟨am,am⟩,n_ ⟨am,am⟩,n_ ⟨am,am⟩,ze am])
end
structure gy where
 ended:Int
 rounds:Int
 ops:Int
 steps:Int
 iJ:Bool
def gy.cs (r:gy):List AV:=[I r.ended,I r.rounds,I r.ops,I r.steps,B r.iJ]
def gy.plus (r:gy)(n:Int)(s:f_):gy:=⟨r.ended,r.rounds,r.ops,r.steps+n,r.iJ||decide (s.σ.err=12)⟩
theorem iy {x o}{most:Int}:∀{n:Nat} {i:Int} {s},i<=(f_.alone x o most n i s).1/\(f_.alone x o most n i s).1<=i+n
 |0,i,s=>⟨Int.le_refl _,by show i<=_;omega⟩
 |n+1,i,s=>by
  unfold f_.alone;split
  .have:=iy (x:=x) (o:=o) (most:=most) (n:=n) (i:=i+1) (s:=s.xP x o);omega
  .exact⟨Int.le_refl _,by show i<=_;omega⟩
section
variable{B0 S:AH}{W:List Nat}{R l:List Own}{ro:List aF}{m bl q pm p3:Nat}{rest:List AV}{x:Xc}{o:Od}{N:Int}{s:f_}{L:Nat}{r:gy}
theorem IE (hx:x.ok)(hk:o.k≠0)(hs:s.ok x o N L)(hN:0<=N/\N<=1000000000000)(hr:0<=r.steps/\r.steps<=1000000000000)(h:dR x o q s.b s.σ l)(H:Cx B0 W S (l++(ad m bl s.y rest++(.obj pm (.row [.ptr m 0])::.obj p3 (.row r.cs)::R))) ro):
  aG EM (.fn (.func 118) [] [.ptr pm 0,.ptr p3 0]) [.ptr q 0] S λu S'=>∃ab,(∃n s' l',(n,s')=f_.alone x o 100000 100000 0 s/\u=B (decide (s'.σ.err≠14))/\dR x o q s'.b s'.σ l'/\s'.ok x o (N+1000000) L/\ab=l'++(ad m bl s'.y rest++(.obj pm (.row [.ptr m 0])::.obj p3 (.row (r.plus n s').cs)::R)))/\Cx B0 W S' ab ro:=by
 obtain⟨r0,r1,r2,r3,r4⟩:=r;unfold gy.cs at H;dsimp only at H hr;have fin:∀{n:Int} {s':f_} {l':List Own} {w:Bool} {own:List Own},(n,s')=f_.alone x o 100000 (100000:Int).toNat 0 s->dR x o q s'.b s'.σ l'->s'.ok x o (N+1000000) L->w=(r4||decide (s'.σ.err=12))->Hs own (l'++(ad m bl s'.y rest++(.obj pm (.row [.ptr m 0])::.obj p3 (.row [I r0,I r1,I r2,I (r3+n),B w])::R)))->
   gQ ro (λu ab=>∃n s' l',(n,s')=f_.alone x o 100000 100000 0 s/\u=B (decide (s'.σ.err≠14))/\dR x o q s'.b s'.σ l'/\s'.ok x o (N+1000000) L/\ab=l'++(ad m bl s'.y rest++(.obj pm (.row [.ptr m 0])::.obj p3 (.row (gy.plus ⟨r0,r1,r2,r3,r4⟩ n s').cs)::R))) .ret [B (decide (s'.σ.err≠14))] own ro:=by
  intro n s' l' w own e h' aZ hw hh;subst hw;exact⟨rfl,rfl,_,⟨n,s',l',e,rfl,h',aZ,rfl⟩,hh⟩
 refine Vx.fm H rfl ?_
 (repeat' first|refine Zx.an 33 ?_|refine Zx.an 104 ?_|constructor|exact ZQ|intro _)
 all_goals apply zL
 refine Vx.spec (λB1 W1 S1 H=>O8 hx hk hs hN am h H) ?_;rintro _ _ ⟨n,s',l',e,rfl,h',aZ,rfl⟩;have hb:=iy (x:=x) (o:=o) (most:=100000) (n:=(100000:Int).toNat) (i:=0) (s:=s);rw[<-e] at hb;dsimp only at hb;cases r4
 ·(repeat' first|refine Zx.an 33 ?_|refine Zx.an 104 ?_|constructor|exact ZQ|intro _)
  all_goals apply zL
  refine Vx.spec (λB1 W1 S1 H=>y5 hk h' H) ?_;rintro _ _ ⟨rfl,rfl⟩;refine z2 ?_ ?_<;>intros
  .next h1=>exact fin e h' aZ (by rw[decide_eq_true h1]) HQ
  .next h1=>exact fin e h' aZ (by rw[decide_eq_false h1]) HQ
 ·(repeat' first|refine Zx.an 33 ?_|refine Zx.an 104 ?_|constructor|exact ZQ|intro _)
  all_goals apply zL
  exact fin e h' aZ rfl HQ
end
def wc (x:Xc)(L:List Int)(a:Nat):Int:=Gz 100 (se L a%18446744073709551616) 1 x.t.ht
instance acz:cA 357 where
section
variable{B0 S:AH}{W:List Nat}{R:List Own}{ro:List aF}{pe pd d sd a:Nat}{x:Xc}{v dv:AV}{l:List cX.Tk}{L:List Int}{c:Int}
theorem K3 (hx:x.ok)(hv:aF.sl v 4 (cX.dm l)∈ro)(hs:x.ex.ok l)(ha:a<=L.length)(hl:L.length<=4096)(H:Cx B0 W S (lJ d sd dv L a++(.obj pe (.row (x.cs++[v]))::.obj pd (.row [.ptr d 0])::R)) ro):
  aG EM (.fn (.func 356) [] [.ptr pe 0,.ptr pd 0]) [I c] S λu S'=>∃ab,(∃q lo,u=.ptr q 0/\dR x (aY 4 c (wc x L a)) q 0 (aM x 4 c (wc x L a)) lo/\ab=lo++(lJ d sd dv L (mz L a)++(.obj pe (.row (x.cs++[v]))::.obj pd (.row [.ptr d 0])::R)))/\Cx B0 W S' ab ro:=by
 obtain⟨ov,cv,bv⟩:=bx (H.eT hv).1;have eL:1<=x.t.ht/\x.t.ht<=4:=by have h:=hx.1;unfold Tw.ok at h;omega
 have ym:AV.beq (.agg (x.cs++[v])) (.agg (x.cs++[v]))=true:=by simp only[Xc.cs,Tw.cs,Lb.cs,Ar.cs,Ep.cs,lA,lB];simp[AV.beq,lQ,aH,dX,bv]
 simp only[Xc.cs,Tw.cs,Lb.cs,Ar.cs,Ep.cs,lJ,lA,lB] at H ym⊢;refine Vx.fm H rfl ?_
 (repeat' first|refine Zx.an 470 ?_|refine Zx.an 469 ?_|constructor|exact ZQ|intro _)
 all_goals apply zL
 refine Vx.spec (λB1 W1 S1 H=>Mi ha hl H) ?_;rintro _ _ ⟨rfl,rfl⟩
 (repeat' first|refine Zx.an 470 ?_|refine Zx.an 469 ?_|constructor|exact ZQ|intro _)
 all_goals apply zL
 refine Vx.spec (λB1 W1 S1 H=>DV (w:=se L a) (m:=x.t.ht) am H) ?_;rintro _ _ ⟨rfl,rfl⟩;simp only[lJ,lA,lB]
 (repeat' first|refine Zx.an 87 ?_|constructor|exact ZQ|intro _)
 all_goals apply zL
 refine Vx.spec (λB1 W1 S1 H=>sT hx hv hs H) ?_;rintro _ _ ⟨q,lo,rfl,h,rfl⟩;refine z1 ?_;exact⟨rfl,rfl,_,⟨q,lo,rfl,h,rfl⟩,HQ⟩
theorem Pr (hx:x.ok)(hv:aF.sl v 4 (cX.dm l)∈ro)(hs:x.ex.ok l)(ha:a<=L.length)(hl:L.length<=4096)(H:Cx B0 W S (lJ d sd dv L a++(.obj pe (.row (x.cs++[v]))::.obj pd (.row [.ptr d 0])::R)) ro):
  aG EM (.fn (.func 358) [] [.ptr pe 0,.ptr pd 0]) [I c] S λu S'=>∃ab,(∃q lo,u=.ptr q 0/\dR x (aY 2 c (wc x L a)) q 0 (aM x 2 c (wc x L a)) lo/\ab=lo++(lJ d sd dv L (mz L a)++(.obj pe (.row (x.cs++[v]))::.obj pd (.row [.ptr d 0])::R)))/\Cx B0 W S' ab ro:=by
 obtain⟨ov,cv,bv⟩:=bx (H.eT hv).1;have eL:1<=x.t.ht/\x.t.ht<=4:=by have h:=hx.1;unfold Tw.ok at h;omega
 have ym:AV.beq (.agg (x.cs++[v])) (.agg (x.cs++[v]))=true:=by simp only[Xc.cs,Tw.cs,Lb.cs,Ar.cs,Ep.cs,lA,lB];simp[AV.beq,lQ,aH,dX,bv]
 simp only[Xc.cs,Tw.cs,Lb.cs,Ar.cs,Ep.cs,lJ,lA,lB] at H ym⊢;refine Vx.fm H rfl ?_
 (repeat' first|refine Zx.an 470 ?_|refine Zx.an 469 ?_|constructor|exact ZQ|intro _)
 all_goals apply zL
 refine Vx.spec (λB1 W1 S1 H=>Mi ha hl H) ?_;rintro _ _ ⟨rfl,rfl⟩
 (repeat' first|refine Zx.an 470 ?_|refine Zx.an 469 ?_|constructor|exact ZQ|intro _)
 all_goals apply zL
 refine Vx.spec (λB1 W1 S1 H=>DV (w:=se L a) (m:=x.t.ht) am H) ?_;rintro _ _ ⟨rfl,rfl⟩;simp only[lJ,lA,lB]
 (repeat' first|refine Zx.an 83 ?_|constructor|exact ZQ|intro _)
 all_goals apply zL
 refine Vx.spec (λB1 W1 S1 H=>vV hx hv hs H) ?_;rintro _ _ ⟨q,lo,rfl,h,rfl⟩;refine z1 ?_;exact⟨rfl,rfl,_,⟨q,lo,rfl,h,rfl⟩,HQ⟩
theorem Ps (hx:x.ok)(hv:aF.sl v 4 (cX.dm l)∈ro)(hs:x.ex.ok l)(H:Cx B0 W S (.obj pe (.row (x.cs++[v]))::R) ro):
  aG EM (.fn (.func 359) [] [.ptr pe 0]) [I c] S λu S'=>∃ab,(∃q lo,u=.ptr q 0/\dR x (aY 3 c 1) q 0 (aM x 3 c 1) lo/\ab=lo++(.obj pe (.row (x.cs++[v]))::R))/\Cx B0 W S' ab ro:=by
 obtain⟨ov,cv,bv⟩:=bx (H.eT hv).1;have ym:AV.beq (.agg (x.cs++[v])) (.agg (x.cs++[v]))=true:=by simp only[Xc.cs,Tw.cs,Lb.cs,Ar.cs,Ep.cs,lA,lB];simp[AV.beq,lQ,aH,dX,bv]
 simp only[Xc.cs,Tw.cs,Lb.cs,Ar.cs,Ep.cs,lA,lB] at H ym⊢;refine Vx.fm H rfl ?_
 (repeat' first|refine Zx.an 85 ?_|constructor|exact ZQ|intro _)
 all_goals apply zL
 refine Vx.spec (λB1 W1 S1 H=>vT hx hv hs H) ?_;rintro _ _ ⟨q,lo,rfl,h,rfl⟩;refine z1 ?_;exact⟨rfl,rfl,_,⟨q,lo,rfl,h,rfl⟩,HQ⟩
theorem Zn (hx:x.ok)(hv:aF.sl v 4 (cX.dm l)∈ro)(hs:x.ex.ok l)(ha:a<=L.length)(hl:L.length<=4096)(H:Cx B0 W S (pJ d dv L a++R) ro):
  aG EM (zF 121) [.agg (x.cs++[v]),I 4,I c,.ptr d 0] S λu S'=>∃ab,(∃q lo,u=.ptr q 0/\bH x (aY 4 c (wc x L a)) v (wc x L a) q 0 (aM x 4 c (wc x L a)) lo/\ab=lo++(pJ d dv L (mz L a)++R))/\Cx B0 W S' ab ro:=by
 obtain⟨ov,cv,bv⟩:=bx (H.eT hv).1;have eL:1<=x.t.ht/\x.t.ht<=4:=by have h:=hx.1;unfold Tw.ok at h;omega
 have ym:AV.beq (.agg (x.cs++[v])) (.agg (x.cs++[v]))=true:=by simp only[Xc.cs,Tw.cs,Lb.cs,Ar.cs,Ep.cs,lA,lB];simp[AV.beq,lQ,aH,dX,bv]
 simp only[Xc.cs,Tw.cs,Lb.cs,Ar.cs,Ep.cs,pJ,lA,lB] at H ym⊢;refine Vx.fm H rfl ?_
 (repeat' first|refine Zx.an 226 ?_|refine Zx.an 225 ?_|constructor|exact ZQ|intro _)
 all_goals apply zL
 refine Vx.perm Ix.symm ?_;refine Vx.spec (λB1 W1 S1 H=>Mh ha hl H) ?_;rintro _ _ ⟨rfl,rfl⟩;simp only[pJ,lA,lB]
 (repeat' first|refine Zx.an 226 ?_|refine Zx.an 225 ?_|constructor|exact ZQ|intro _)
 all_goals apply zL
 refine Vx.spec (λB1 W1 S1 H=>DU (w:=se L a) (m:=x.t.ht) am H) ?_;rintro _ _ ⟨rfl,rfl⟩
 (repeat' first|refine Zx.an 88 ?_|constructor|exact ZQ|intro _)
 all_goals apply zL
 refine Vx.spec (λB1 W1 S1 H=>rb hx hv hs H) ?_;rintro _ _ ⟨q,lo,rfl,h,rfl⟩;refine z1 ?_;exact⟨rfl,rfl,_,⟨q,lo,rfl,h,rfl⟩,HQ⟩
theorem Zo (hx:x.ok)(hv:aF.sl v 4 (cX.dm l)∈ro)(hs:x.ex.ok l)(ha:a<=L.length)(hl:L.length<=4096)(H:Cx B0 W S (pJ d dv L a++R) ro):
  aG EM (zF 121) [.agg (x.cs++[v]),I 2,I c,.ptr d 0] S λu S'=>∃ab,(∃q lo,u=.ptr q 0/\bH x (aY 2 c (wc x L a)) v (wc x L a) q 0 (aM x 2 c (wc x L a)) lo/\ab=lo++(pJ d dv L (mz L a)++R))/\Cx B0 W S' ab ro:=by
 obtain⟨ov,cv,bv⟩:=bx (H.eT hv).1;have eL:1<=x.t.ht/\x.t.ht<=4:=by have h:=hx.1;unfold Tw.ok at h;omega
 have ym:AV.beq (.agg (x.cs++[v])) (.agg (x.cs++[v]))=true:=by simp only[Xc.cs,Tw.cs,Lb.cs,Ar.cs,Ep.cs,lA,lB];simp[AV.beq,lQ,aH,dX,bv]
 simp only[Xc.cs,Tw.cs,Lb.cs,Ar.cs,Ep.cs,pJ,lA,lB] at H ym⊢;refine Vx.fm H rfl ?_
 (repeat' first|refine Zx.an 226 ?_|refine Zx.an 225 ?_|constructor|exact ZQ|intro _)
 all_goals apply zL
 refine Vx.perm Ix.symm ?_;refine Vx.spec (λB1 W1 S1 H=>Mh ha hl H) ?_;rintro _ _ ⟨rfl,rfl⟩;simp only[pJ,lA,lB]
 (repeat' first|refine Zx.an 226 ?_|refine Zx.an 225 ?_|constructor|exact ZQ|intro _)
 all_goals apply zL
 refine Vx.spec (λB1 W1 S1 H=>DU (w:=se L a) (m:=x.t.ht) am H) ?_;rintro _ _ ⟨rfl,rfl⟩
 (repeat' first|refine Zx.an 84 ?_|constructor|exact ZQ|intro _)
 all_goals apply zL
 refine Vx.spec (λB1 W1 S1 H=>sV hx hv hs H) ?_;rintro _ _ ⟨q,lo,rfl,h,rfl⟩;refine z1 ?_;exact⟨rfl,rfl,_,⟨q,lo,rfl,h,rfl⟩,HQ⟩
theorem Zp (hx:x.ok)(hv:aF.sl v 4 (cX.dm l)∈ro)(hs:x.ex.ok l){u}(H:Cx B0 W S R ro):
  aG EM (zF 121) [.agg (x.cs++[v]),I 3,I c,u] S λu S'=>∃ab,(∃q lo,u=.ptr q 0/\bH x (aY 3 c 1) v 1 q 0 (aM x 3 c 1) lo/\ab=lo++R)/\Cx B0 W S' ab ro:=by
 obtain⟨ov,cv,bv⟩:=bx (H.eT hv).1;have ym:AV.beq (.agg (x.cs++[v])) (.agg (x.cs++[v]))=true:=by simp only[Xc.cs,Tw.cs,Lb.cs,Ar.cs,Ep.cs,lA,lB];simp[AV.beq,lQ,aH,dX,bv]
 simp only[Xc.cs,Tw.cs,Lb.cs,Ar.cs,Ep.cs,lA,lB] at H ym⊢;refine Vx.fm H rfl ?_
 (repeat' first|refine Zx.an 86 ?_|constructor|exact ZQ|intro _)
 all_goals apply zL
 refine Vx.spec (λB1 W1 S1 H=>sU hx hv hs H) ?_;rintro _ _ ⟨q,lo,rfl,h,rfl⟩;refine z1 ?_;exact⟨rfl,rfl,_,⟨q,lo,rfl,h,rfl⟩,HQ⟩
end
structure RS where
 y:Me
 a:Nat
 r:gy
 busy:Bool
def kd (k:Nat):Int:=match k%3 with|0=>4|1=>2|_=>3
structure Opk where
 o:Od
 σ:az
 a:Nat
 h:Int
def jG (x:Xc)(L:List Int)(k:Nat)(a:Nat):Opk:=
 if kd k=3 then⟨aY 3 (k/3:Nat) 1,aM x 3 (k/3:Nat) 1,a,1⟩ else⟨aY (kd k) (k/3:Nat) (wc x L a),aM x (kd k) (k/3:Nat) (wc x L a),mz L a,wc x L a⟩
def sW (x:Xc)(o:Od)(σ:az)(z:RS):RS×Bool:=
 let q:=f_.alone x o 100000 100000 0 ⟨σ,z.y,0⟩
 let r:=z.r.plus q.1 q.2
 if q.2.σ.err=14 then(⟨q.2.y,z.a,r,z.busy⟩,true) else(⟨q.2.y,z.a,⟨r.ended,r.rounds,r.ops+1,r.steps,r.iJ⟩,z.busy||decide (q.2.σ.err=0)⟩,false)
def iz (x:Xc)(L:List Int)(k:Nat)(z:RS):RS×Bool:=sW x (jG x L k z.a).o (jG x L k z.a).σ ⟨z.y,(jG x L k z.a).a,z.r,z.busy⟩
def rl (x:Xc)(L:List Int):Nat->Nat->RS->RS×Bool
 |0,_,z=>(z,false)
 |n+1,k,z=>if(iz x L k z).2 then iz x L k z else rl x L n (k+1) (iz x L k z).1
def gy.up (r:gy):gy:=⟨r.ended,r.rounds+1,r.ops,r.steps,r.iJ⟩
def pC (x:Xc)(L:List Int)(m:Nat):Nat->RS->RS×Int
 |0,z=>(z,4)
 |n+1,z=>
  let w:=rl x L m 0 ⟨z.y,z.a,z.r.up,false⟩
  if w.2 then(w.1,4) else if w.1.busy then pC x L m n w.1 else(w.1,0)
structure Pt where
 o:Od
 σ:az
 b:Int
def gy.en (r:gy):gy:=⟨r.ended+1,r.rounds,r.ops,r.steps,r.iJ⟩
def gz (x:Xc):List (Option Pt)->Me->gy->List (Option Pt)×Me×gy×Bool
 |[],y,r=>([],y,r,false)
 |none::l,y,r=>(none::(gz x l y r).1,(gz x l y r).2)
 |some p::l,y,r=>
  let q:=f_.alone x p.o 100000 100000 0 ⟨p.σ,y,p.b⟩
  let r1:=r.plus q.1 q.2
  if q.2.σ.err=14 then(some ⟨p.o,q.2.σ,q.2.b⟩::l,q.2.y,r1,true)
  else(some ⟨p.o,q.2.σ,q.2.b⟩::(gz x l q.2.y r1.en).1,(gz x l q.2.y r1.en).2)
def IF (x:Xc)(L:List Int)(l:List (Option Pt))(y:Me)(a:Nat):List (Option Pt)×RS×Int:=
 let f:=gz x (l.take x.r.ae.toNat) y ⟨0,0,0,0,false⟩
 let l':=f.1++l.drop x.r.ae.toNat
 if f.2.2.2 then(l',⟨f.2.1,a,f.2.2.1,false⟩,4)
 else(l',pC x L (3*x.r.ae.toNat) (2*x.r.ae*x.j.f.size+x.room+4).toNat ⟨f.2.1,a,f.2.2.1,false⟩)
theorem zf {x L}{k a:Nat}:((jG x L k a).σ.over=false->(jG x L k a).o.ok x)/\(jG x L k a).σ.wd/\(jG x L k a).o.k≠0/\(jG x L k a).o.k≠1:=by
 unfold jG;split;.exact⟨λh=>je am (ft h),gY,by unfold aY;dsimp only;omega,by unfold aY;dsimp only;omega⟩
 .have hk:kd k=4\/kd k=2\/kd k=3:=by unfold kd;split<;>omega
  exact⟨λh=>je am (ft h),gY,by unfold aY;dsimp only;omega,by unfold aY;dsimp only;omega⟩
theorem zg {L}{a:Nat}(h:a<=L.length):mz L a<=L.length:=by
 unfold mz;split<;>omega
theorem Ug {x L}{k a:Nat}(h:a<=L.length):(jG x L k a).a<=L.length:=by
 unfold jG;split;.exact h
 .exact zg h
theorem Uh {x L}{k a c:Nat}(h:k=3*c):jG x L k a=⟨aY 4 c (wc x L a),aM x 4 c (wc x L a),mz L a,wc x L a⟩:=by
 have e:kd k=4:=by unfold kd;rw[show k%3=0 by omega];rfl
 unfold jG;rw[e,if_neg am,show k/3=c by omega]
theorem Ui {x L}{k a c:Nat}(h:k=3*c+1):jG x L k a=⟨aY 2 c (wc x L a),aM x 2 c (wc x L a),mz L a,wc x L a⟩:=by
 have e:kd k=2:=by unfold kd;rw[show k%3=1 by omega];rfl
 unfold jG;rw[e,if_neg am,show k/3=c by omega]
theorem Uj {x L}{k a c:Nat}(h:k=3*c+2):jG x L k a=⟨aY 3 c 1,aM x 3 c 1,a,1⟩:=by
 have e:kd k=3:=by unfold kd;rw[show k%3=2 by omega];rfl
 unfold jG;rw[e,if_pos rfl,show k/3=c by omega]
structure RS.ok (N:Int)(Ln len:Nat)(κ:Int)(z:RS):Prop where
 g:z.y.gd
 l:z.y.ws.length=Ln
 n:z.y.n<=N+κ*1000000
 s:0<=z.r.steps/\z.r.steps<=κ*100000
 p:0<=z.r.ops/\z.r.ops<=κ
 a:z.a<=len
end Go.cI
