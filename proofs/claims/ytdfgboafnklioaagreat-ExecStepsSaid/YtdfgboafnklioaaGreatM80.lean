/- Contracts. Conditions: in each theorem. -/
import Derived.Test.YtdfgboafnklioaaGreatM72
import Derived.Test.YtdfgboafnklioaaGreatM60
set_option linter.all false
set_option maxRecDepth 100000
set_option maxHeartbeats 4000000
namespace Go.cG
open Go.Proofs
structure um where
 o:Od
 σ:aG
 b:Int
 hg:Int
 q:Nat
 q':Nat
 lo:List Own
 jx:List Own
def pA:Option um->AV
 |none=>Np
 |some s=>.ptr s.q 0
def pB:Option um->AV
 |none=>Np
 |some s=>.ptr s.q' 0
def zy (s:Option um):List AV:=[pA s,pB s]
def PG:Option um->List Own
 |none=>[]
 |some s=>s.lo++s.jx
def kj (l:List (Option um)):List Own:=(l.map PG).flatten
structure um.ok (x:Xc)(v:AV)(ro:List aI)(s:um):Prop where
 p:ft x s.o s.q s.b s.σ s.lo
 d:cd x s.o v s.hg s.q' s.b s.σ s.jx
 k:s.σ.over=false->s.o.ok x
 w:s.σ.wd
 z:s.o.k≠0
 t:s.o.ok x->s.o.k=1->∃(L:List (List AV)) (c:List AV),aI.sl v 4 L∈ro/\L[s.o.tk.toNat]?=some c/\c[1]?=some (I s.o.prio)
def kX (x:Xc)(v:AV)(ro:List aI)(l:List (Option um)):Prop:=∀s,some s∈l->s.ok x v ro
theorem kX.set {x v ro l}{i:Nat}{s}(h:kX x v ro l)(hs:s.ok x v ro):kX x v ro (l.set i (some s)):=λt ht=>by
 rcases List.mem_or_eq_of_mem_set ht with ht|ht;.exact h t ht
 .cases ht;exact hs
theorem kX.nil {x v ro}{n:Nat}:kX x v ro (List.replicate n none):=λs hs=>by have:=(List.mem_replicate.1 hs).2;cases this
theorem kX.at {x v ro l}{i:Nat}{s}(h:kX x v ro l)(hi:l[i]?=some (some s)):s.ok x v ro:=h s (List.mem_of_getElem? hi)
theorem uo {l}{i:Nat}{s}(h:l[i]?=some s):kj l=kj (l.take i)++(PG s++kj (l.drop (i+1))):=by
 obtain⟨hi,h2⟩:=List.getElem?_eq_some_iff.1 h;have e:l=l.take i++(s::l.drop (i+1)):=by rw[<-h2,<-List.drop_eq_getElem_cons hi,List.take_append_drop]
 unfold kj;conv=>lhs;rw[e]
 simp
theorem Bl {l:List (Option um)}{i:Nat}{s:Option um}(h:i<l.length):kj (l.set i s)=kj (l.take i)++(PG s++kj (l.drop (i+1))):=by rw[uo (l:=l.set i s) (i:=i) (s:=s) (by rw[List.getElem?_set];simp[h])];rw[List.take_set_of_le (Nat.le_refl i),List.drop_set_of_lt (Nat.lt_succ_self i)]
theorem oC {l:List (Option um)}{i:Nat}{s:Option um}(h:l[i]?=some s):(l.map zy)[i]?=some (zy s):=by rw[List.getElem?_map,h];rfl
theorem D3 {l:List (Option um)}{i:Nat}{s:um}:(l.map zy).set i [.ptr s.q 0,.ptr s.q' 0]=(l.set i (some s)).map zy:=by rw[List.map_set];rfl
theorem IZ {l:List (Option um)}{i:Nat}{s:um}(h:l[i]?=some (some s)):(l.map zy).set i [.ptr s.q 0,.ptr s.q' 0]=l.map zy:=by
 apply List.ext_getElem?;intro j;rw[List.getElem?_set];split
 .next e=>subst e;have hi:=(List.getElem?_eq_some_iff.1 h).1;rw[if_pos (by rw[List.length_map];exact hi),oC h];rfl
 .rfl
theorem Cx.head {B S W o o' R ro}(H:Cx B W S (o::R) ro)(hi:o'.ids=o.ids)(hh:o.holds S->o'.holds S):Cx B W S (o'::R) ro where
 next:=H.next
 jc:=H.jc
 oh:=λx hx=>by
  rcases List.mem_cons.1 hx with rfl|hx;.exact hh (H.oh _ (List.Mem.head _))
  .exact H.oh x (List.mem_cons_of_mem _ hx)
 oi:=λx hx=>by
  rcases List.mem_cons.1 hx with rfl|hx;.exact λid bT=>H.oi _ (List.Mem.head _) id (hi▸bT)
  .exact H.oi x (List.mem_cons_of_mem _ hx)
 od:=by have:=List.pairwise_cons.1 H.od;exact List.pairwise_cons.2 ⟨λy hy id h=>this.1 y hy id (hi▸h),this.2⟩
 rh:=H.rh
 ri:=λφ jt id bT=>⟨(H.ri φ jt id bT).1,λx hx=>by
  rcases List.mem_cons.1 hx with rfl|hx
  .have:=(H.ri φ jt id bT).2 _ (List.Mem.head _)
   rwa[hi]
  .exact(H.ri φ jt id bT).2 x (List.mem_cons_of_mem _ hx)⟩
section
variable{M:cP}{own R:List Own}{ro:List aI}{Φ:gz}{K:List Kf}{v w:AV}{L:List (List AV)}{c:List AV}{i:Int}{es f:Nat}
theorem Vx.Lw {x}{p n:Nat}{c}(hc:c=L.flatten)(hn:L.length=n)(zt:∀x∈L,x.length=es)(h:Vx M x K (.sl (.sl p 0 n n) es L::R) ro Φ):Vx M x K (.obj p (.row c)::R) ro Φ:=λB W S H=>h B W S (H.head rfl λg=>by
 have hf:c.length=n*es:=by rw[hc,bB zt,hn]
 refine .inr ⟨p,0,c,.inl ⟨n,am,am,by rw[hn]⟩,g,?_,zt⟩;rw[List.drop_zero,hn,<-hf,List.take_length,hc])
theorem Zx.slf {k}(hm:Own.sl v es L∈own)(hi:0<=i)(hc:L[i.toNat]?=some c)(hw:c[f]?=some w)(h:Zx M false (k w) K own ro Φ):Zx M false (.op (.cC es v (I i)) λp=>.op (.kA f p) λq=>.op (.load 1 false q) k) K own ro Φ:=.z (.of λB W S H=>by
 obtain⟨n,rfl⟩:∃n:Nat,i=n:=⟨i.toNat,am⟩;obtain⟨j,hj⟩:=List.getElem?_of_mem hm;exact fW H j hj (by simpa using hc) λid off hp=>dx (nV hp hw (h.ok B W S H)))
theorem Zx.sl1 {k}(hm:Own.sl v 1 L∈own)(hi:0<=i)(hc:L[i.toNat]?=some [w])(h:Zx M false (k w) K own ro Φ):Zx M false (.op (.cC 1 v (I i)) λp=>.op (.load 1 false p) k) K own ro Φ:=.z (.of λB W S H=>by
 obtain⟨n,rfl⟩:∃n:Nat,i=n:=⟨i.toNat,am⟩;obtain⟨j,hj⟩:=List.getElem?_of_mem hm;exact fW H j hj (by simpa using hc) λid off hp=>nV (j:=0) hp rfl (h.ok B W S H))
theorem Zx.ck {v u}{bytes:Nat}{k}(h:bP (Vx M (.op (.append es bytes v u) k) K own ro Φ)):Zx M false (.op (.append es bytes v u) k) K own ro Φ:=.z h
theorem Vx.apR {v u}{bytes:Nat}{N k}(hx:aI.sl u es N∈ro)(hN:∀y∈N,y.length=es)(hb:(L.length+N.length)*bytes<=140737488355328)(hl:L.length+N.length<=9223372036854775807)(h:∀v',odd v'=false->v'.cells=[v']->AV.beq v' v'=true->Zx M false (k v') K (.sl v' es (L++N)::R) ro Φ):Vx M (.op (.append es bytes v u) k) K (.sl v es L::R) ro Φ:=λB W S H=>
 Cb H 0 rfl hx hN hb hl λv1 S1 H1=>by obtain⟨g1,g2,g3⟩:=eI (jW (H1.oh _ (List.Mem.head _)));exact(h v1 g1 g2 g3).ok B W S1 H1
theorem Zx.sla {k}(hm:Own.sl v es L∈own)(hi:0<=i)(hc:L[i.toNat]?=some c)(hn:c.length=es)(h:Zx M false (k (.agg c)) K own ro Φ):Zx M false (.op (.cC es v (I i)) λp=>.op (.load es true p) k) K own ro Φ:=.z (.of λB W S H=>by
 obtain⟨n,rfl⟩:∃n:Nat,i=n:=⟨i.toNat,am⟩;obtain⟨j,hj⟩:=List.getElem?_of_mem hm;refine fW H j hj (by simpa using hc) λid off hp=>?_;refine EH (j:=0) hp am ?_;rw[List.drop_zero,List.take_of_length_le am];exact h.ok B W S H)
theorem Zx.sls {k y}(hi:0<=i)(hl:i<L.length)(ho:odd y=false)(hy:y.cells.length=es)(h:Zx M false (k uv) K (.sl v es (L.set i.toNat y.cells)::R) ro Φ):Zx M false (.op (.cC es v (I i)) λp=>.op (.store es p y) k) K (.sl v es L::R) ro Φ:=.z (.of λB W S H=>by
 obtain⟨n,rfl⟩:∃n:Nat,i=n:=⟨i.toNat,am⟩;exact sf H 0 rfl am ho hy λS1 H1=>h.ok B W S1 H1)
theorem Zx.V_ {k}(hv:aI.sl v es L∈ro)(hi:0<=i)(hc:L[i.toNat]?=some c)(hw:c[f]?=some w)(h:Zx M false (k w) K own ro Φ):Zx M false (.op (.cC es v (I i)) λp=>.op (.kA f p) λq=>.op (.load 1 false q) k) K own ro Φ:=
 .z (.of (Vx.NL hv hi hc λid off=>Vx.pt1 (List.Mem.head _) hw (Vx.tl h.ok)))
theorem Zx.Zr {k}(hv:aI.sl v es L∈ro)(hi:0<=i)(hc:L[i.toNat]?=some c)(hw:c[f]?=some w)(h:Zx M false (k w) K own ro Φ):Zx M false (.op (.cC es v (I i)) λp=>.qh (B true) true (.kA f p) λq=>.qh (B true) true (.load 1 false q) k) K own ro Φ:=
 .z (.of (Vx.NL hv hi hc λid off=>λB W S H=>cN (dx (cN (nT H (List.Mem.head _) hw (h.ok B W S H.tl))))))
theorem Zx.Uw {k}(hm:Own.sl v es L∈own)(hi:0<=i)(hc:L[i.toNat]?=some c)(hw:c[f]?=some w)(h:Zx M false (k w) K own ro Φ):Zx M false (.op (.cC es v (I i)) λp=>.qh (B true) true (.kA f p) λq=>.qh (B true) true (.load 1 false q) k) K own ro Φ:=.z (.of λB W S H=>by
 obtain⟨n,rfl⟩:∃n:Nat,i=n:=⟨i.toNat,am⟩;obtain⟨j,hj⟩:=List.getElem?_of_mem hm;exact fW H j hj (by simpa using hc) λid off hp=>cN (dx (cN (nV hp hw (h.ok B W S H)))))
theorem Zx.Wa {k}(hv:aI.sl v es L∈ro)(hi:0<=i)(hc:L[i.toNat]?=some c)(hn:c.length=es)(h:Zx M false (k (.agg c)) K own ro Φ):Zx M false (.op (.cC es v (I i)) λp=>.op (.load es true p) k) K own ro Φ:=
 .z (.of (Vx.NL hv hi hc λid off=>Vx.ptl (List.Mem.head _) hn (Vx.tl h.ok)))
theorem Zx.QI {k}(hv:aI.sl v 1 L∈ro)(hi:0<=i)(hc:L[i.toNat]?=some [w])(h:Zx M false (k w) K own ro Φ):Zx M false (.op (.cC 1 v (I i)) λp=>.op (.load 1 false p) k) K own ro Φ:=
 .z (.of (Vx.NL hv hi hc λid off=>λB W S H=>vB H (List.Mem.head _) rfl (h.ok B W S H.tl)))
end
theorem Bm {B0 S W R ro}(H:Cx B0 W S R ro):
  aN EM (zF 22) [.agg [Np,Np]] S λu S'=>∃ab,(u=B true/\ab=R)/\Cx B0 W S' ab ro:=by
 refine y1 H rfl ?_;intros;all_goals exact⟨rfl,rfl,_,⟨rfl,rfl⟩,HQ⟩
def Ux (ws:List Int)(i:Nat)(y:Me):Me:=y.st i (ws[i]?.getD 0)
def Uy (ws:List Int)(y:Me):Me:=rep (Ux ws) ws.length y
theorem I0 {ws}(hw:∀w∈ws,Me.aC w){n:Nat}(hn:n<=ws.length):Gd (n*1) (rep (Ux ws) n):=Gd.rep (c:=1) am n λi hi=>Gd.st (by
 rw[List.getElem?_eq_getElem am];exact hw _ (List.getElem_mem _))
section
variable{B0 S:AH}{W:List Nat}{R:List Own}{ro:List aI}{x:Xc}{v u:AV}{l:List dA.Tk}{ws:List Int}
end
def acx (L:List Int)(a:Nat):Int:=L[a]?.getD 0
def acz (L:List Int)(a:Nat):Nat:=if a<L.length then a+1 else a
def Qu:Nat->Int->Int->Int->Int
 |0,_,h,_=>h
 |k+1,w,h,m=>if h<m/\w%2=1 then Qu k (w/2) (h+1) m else h
section
variable{B0 S:AH}{W:List Nat}{R:List Own}{ro:List aI}{u:AV}{L:List Int}{d a:Nat}{v:AV}{w m:Int}
end
section
variable{B0 S:AH}{W:List Nat}{R:List Own}{ro:List aI}{u:AV}{L:List Int}{d s a:Nat}{v:AV}{w m:Int}
end
structure wm where
 ended:Int
 rounds:Int
 ops:Int
 steps:Int
 aF:Bool
def wm.cs (r:wm):List AV:=[I r.ended,I r.rounds,I r.ops,I r.steps,B r.aF]
def wm.plus (r:wm)(n:Int)(s:tj):wm:=⟨r.ended,r.rounds,r.ops,r.steps+n,r.aF||decide (s.σ.err=12)⟩
theorem Bn {x o}{most:Int}:∀{n:Nat} {i:Int} {s},i<=(tj.alone x o most n i s).1/\(tj.alone x o most n i s).1<=i+n
 |0,i,s=>⟨Int.le_refl _,by show i<=_;omega⟩
 |n+1,i,s=>by
  unfold tj.alone;split
  .have:=Bn (x:=x) (o:=o) (most:=most) (n:=n) (i:=i+1) (s:=s.CJ x o);omega
  .exact⟨Int.le_refl _,by show i<=_;omega⟩
section
variable{B0 S:AH}{W:List Nat}{R l:List Own}{ro:List aI}{m bl q pm p3:Nat}{rest:List AV}{x:Xc}{o:Od}{N:Int}{s:tj}{L:Nat}{r:wm}
end
def Zs (x:Xc)(L:List Int)(a:Nat):Int:=Qu 100 (acx L a%18446744073709551616) 1 x.t.ht
instance acy:cK 357 where
section
variable{B0 S:AH}{W:List Nat}{R:List Own}{ro:List aI}{pe pd d sd a:Nat}{x:Xc}{v dv:AV}{l:List dA.Tk}{L:List Int}{c:Int}
end
structure RS where
 y:Me
 a:Nat
 r:wm
 busy:Bool
def kd (k:Nat):Int:=match k%3 with|0=>4|1=>2|_=>3
structure Opk where
 o:Od
 σ:aG
 a:Nat
 h:Int
def Zt (x:Xc)(L:List Int)(k:Nat)(a:Nat):Opk:=
 if kd k=3 then⟨bW 3 (k/3:Nat) 1,bq x 3 (k/3:Nat) 1,a,1⟩ else⟨bW (kd k) (k/3:Nat) (Zs x L a),bq x (kd k) (k/3:Nat) (Zs x L a),acz L a,Zs x L a⟩
def yst (x:Xc)(o:Od)(σ:aG)(z:RS):RS×Bool:=
 let q:=tj.alone x o 100000 100000 0 ⟨σ,z.y,0⟩
 let r:=z.r.plus q.1 q.2
 if q.2.σ.err=14 then(⟨q.2.y,z.a,r,z.busy⟩,true) else(⟨q.2.y,z.a,⟨r.ended,r.rounds,r.ops+1,r.steps,r.aF⟩,z.busy||decide (q.2.σ.err=0)⟩,false)
def I1 (x:Xc)(L:List Int)(k:Nat)(z:RS):RS×Bool:=yst x (Zt x L k z.a).o (Zt x L k z.a).σ ⟨z.y,(Zt x L k z.a).a,z.r,z.busy⟩
def rnd (x:Xc)(L:List Int):Nat->Nat->RS->RS×Bool
 |0,_,z=>(z,false)
 |n+1,k,z=>if(I1 x L k z).2 then I1 x L k z else rnd x L n (k+1) (I1 x L k z).1
def wm.up (r:wm):wm:=⟨r.ended,r.rounds+1,r.ops,r.steps,r.aF⟩
def PH (x:Xc)(L:List Int)(m:Nat):Nat->RS->RS×Int
 |0,z=>(z,4)
 |n+1,z=>
  let w:=rnd x L m 0 ⟨z.y,z.a,z.r.up,false⟩
  if w.2 then(w.1,4) else if w.1.busy then PH x L m n w.1 else(w.1,0)
structure PI where
 o:Od
 σ:aG
 b:Int
def wm.en (r:wm):wm:=⟨r.ended+1,r.rounds,r.ops,r.steps,r.aF⟩
def jj (x:Xc):List (Option PI)->Me->wm->List (Option PI)×Me×wm×Bool
 |[],y,r=>([],y,r,false)
 |none::l,y,r=>(none::(jj x l y r).1,(jj x l y r).2)
 |some p::l,y,r=>
  let q:=tj.alone x p.o 100000 100000 0 ⟨p.σ,y,p.b⟩
  let r1:=r.plus q.1 q.2
  if q.2.σ.err=14 then(some ⟨p.o,q.2.σ,q.2.b⟩::l,q.2.y,r1,true)
  else(some ⟨p.o,q.2.σ,q.2.b⟩::(jj x l q.2.y r1.en).1,(jj x l q.2.y r1.en).2)
def Mw (x:Xc)(L:List Int)(l:List (Option PI))(y:Me)(a:Nat):List (Option PI)×RS×Int:=
 let f:=jj x (l.take x.r.ad.toNat) y ⟨0,0,0,0,false⟩
 let l':=f.1++l.drop x.r.ad.toNat
 if f.2.2.2 then(l',⟨f.2.1,a,f.2.2.1,false⟩,4)
 else(l',PH x L (3*x.r.ad.toNat) (2*x.r.ad*x.j.f.size+x.room+4).toNat ⟨f.2.1,a,f.2.2.1,false⟩)
structure RS.ok (N:Int)(Ln len:Nat)(κ:Int)(z:RS):Prop where
 g:z.y.gd
 l:z.y.ws.length=Ln
 n:z.y.n<=N+κ*1000000
 s:0<=z.r.steps/\z.r.steps<=κ*100000
 p:0<=z.r.ops/\z.r.ops<=κ
 a:z.a<=len
end Go.cG
