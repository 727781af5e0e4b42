/- Contracts. Conditions: in each theorem. -/
import Derived.Test.YtdfgboafnklioaaGreatM72
import Derived.Test.YtdfgboafnklioaaGreatM60
set_option linter.all false
set_option maxRecDepth 100000
set_option maxHeartbeats 4000000
namespace Go.cO
open Go.Proofs
structure Pg where
 o:Od
 σ:an
 b:Int
 hg:Int
 q:Nat
 q':Nat
 lo:List Own
 ki:List Own
def pA:Option Pg->AV
 |none=>Np
 |some s=>.ptr s.q 0
def pB:Option Pg->AV
 |none=>Np
 |some s=>.ptr s.q' 0
structure Pg.ok (x:Xc)(v:AV)(ro:List aB)(s:Pg):Prop where
 p:eP x s.o s.q s.b s.σ s.lo
 d:bU x s.o v s.hg s.q' s.b s.σ s.ki
 k:s.σ.over=false->s.o.ok x
 w:s.σ.wd
 z:s.o.k≠0
 t:s.o.ok x->s.o.k=1->∃(L:List (List AV)) (c:List AV),aB.sl v 4 L∈ro/\L[s.o.tk.toNat]?=some c/\c[1]?=some (I s.o.prio)
def n9 (x:Xc)(v:AV)(ro:List aB)(l:List (Option Pg)):Prop:=∀s,some s∈l->s.ok x v ro
theorem n9.set {x v ro l}{i:Nat}{s}(h:n9 x v ro l)(hs:s.ok x v ro):n9 x v ro (l.set i (some s)):=λt ht=>by
 rcases List.mem_or_eq_of_mem_set ht with ht|ht;.exact h t ht
 .cases ht;exact hs
theorem n9.nil {x v ro}{n:Nat}:n9 x v ro (List.replicate n none):=λs hs=>by have:=(List.mem_replicate.1 hs).2;cases this
theorem n9.at {x v ro l}{i:Nat}{s}(h:n9 x v ro l)(hi:l[i]?=some (some s)):s.ok x v ro:=h s (List.mem_of_getElem? hi)
theorem Cx.head {B S W o o' R ro}(H:Cx B W S (o::R) ro)(hi:o'.ids=o.ids)(hh:o.holds S->o'.holds S):Cx B W S (o'::R) ro where
 next:=H.next
 iR:=H.iR
 oh:=λx hx=>by
  rcases List.mem_cons.1 hx with rfl|hx;.exact hh (H.oh _ (List.Mem.head _))
  .exact H.oh x (List.mem_cons_of_mem _ hx)
 oi:=λx hx=>by
  rcases List.mem_cons.1 hx with rfl|hx;.exact λid bQ=>H.oi _ (List.Mem.head _) id (hi▸bQ)
  .exact H.oi x (List.mem_cons_of_mem _ hx)
 od:=by have:=List.pairwise_cons.1 H.od;exact List.pairwise_cons.2 ⟨λy hy id h=>this.1 y hy id (hi▸h),this.2⟩
 rh:=H.rh
 ri:=λφ jt id bQ=>⟨(H.ri φ jt id bQ).1,λx hx=>by
  rcases List.mem_cons.1 hx with rfl|hx
  .have:=(H.ri φ jt id bQ).2 _ (List.Mem.head _)
   rwa[hi]
  .exact(H.ri φ jt id bQ).2 x (List.mem_cons_of_mem _ hx)⟩
section
variable{M:cQ}{own R:List Own}{ro:List aB}{Φ:gn}{K:List Kf}{v w:AV}{L:List (List AV)}{c:List AV}{i:Int}{es f:Nat}
theorem Zx.y6 {k}(hm:Own.sl v 1 L∈own)(hi:0<=i)(hc:L[i.toNat]?=some [w])(h:Zx M false (k w) K own ro Φ):Zx M false (.op (.da 1 v (I i)) λp=>.op (.load 1 false p) k) K own ro Φ:=.z (.of λB W S H=>by
 obtain⟨n,rfl⟩:∃n:Nat,i=n:=⟨i.toNat,am⟩;obtain⟨j,hj⟩:=List.getElem?_of_mem hm;exact jI H j hj (by simpa using hc) λid off hp=>Ai (j:=0) hp rfl (h.ok B W S H))
theorem Zx.DL {v u}{bytes:Nat}{k}(h:bL (Vx M (.op (.append es bytes v u) k) K own ro Φ)):Zx M false (.op (.append es bytes v u) k) K own ro Φ:=.z h
theorem Vx.apR {v u}{bytes:Nat}{N k}(hx:aB.sl u es N∈ro)(hN:∀y∈N,y.length=es)(hb:(L.length+N.length)*bytes<=140737488355328)(hl:L.length+N.length<=9223372036854775807)(h:∀v',odd v'=false->v'.cells=[v']->AV.beq v' v'=true->Zx M false (k v') K (.sl v' es (L++N)::R) ro Φ):Vx M (.op (.append es bytes v u) k) K (.sl v es L::R) ro Φ:=λB W S H=>
 pI H 0 rfl hx hN hb hl λv1 S1 H1=>by obtain⟨g1,g2,g3⟩:=dB (iT (H1.oh _ (List.Mem.head _)));exact(h v1 g1 g2 g3).ok B W S1 H1
theorem Zx.Uq {k y}(hi:0<=i)(hl:i<L.length)(ho:odd y=false)(hy:y.cells.length=es)(h:Zx M false (k uv) K (.sl v es (L.set i.toNat y.cells)::R) ro Φ):Zx M false (.op (.da es v (I i)) λp=>.op (.store es p y) k) K (.sl v es L::R) ro Φ:=.z (.of λB W S H=>by
 obtain⟨n,rfl⟩:∃n:Nat,i=n:=⟨i.toNat,am⟩;exact rQ H 0 rfl am ho hy λS1 H1=>h.ok B W S1 H1)
theorem Zx.Ft {k}(hv:aB.sl v es L∈ro)(hi:0<=i)(hc:L[i.toNat]?=some c)(hw:c[f]?=some w)(h:Zx M false (k w) K own ro Φ):Zx M false (.op (.da es v (I i)) λp=>.op (.lG f p) λq=>.op (.load 1 false q) k) K own ro Φ:=
 .z (.of (Vx.Ql hv hi hc λid off=>Vx.pt1 (List.Mem.head _) hw (Vx.tl h.ok)))
theorem Zx.Y4 {k}(hv:aB.sl v es L∈ro)(hi:0<=i)(hc:L[i.toNat]?=some c)(hw:c[f]?=some w)(h:Zx M false (k w) K own ro Φ):Zx M false (.op (.da es v (I i)) λp=>.hZ (B true) true (.lG f p) λq=>.hZ (B true) true (.load 1 false q) k) K own ro Φ:=
 .z (.of (Vx.Ql hv hi hc λid off=>λB W S H=>cI (cV (cI (lU H (List.Mem.head _) hw (h.ok B W S H.tl))))))
theorem Zx.Ur {k}(hv:aB.sl v 1 L∈ro)(hi:0<=i)(hc:L[i.toNat]?=some [w])(h:Zx M false (k w) K own ro Φ):Zx M false (.op (.da 1 v (I i)) λp=>.op (.load 1 false p) k) K own ro Φ:=
 .z (.of (Vx.Ql hv hi hc λid off=>λB W S H=>Ae H (List.Mem.head _) rfl (h.ok B W S H.tl)))
end
theorem A_ {B0 S W R ro}(H:Cx B0 W S R ro):
  aG EM (zF 22) [.agg [Np,Np]] S λu S'=>∃ab,(u=B true/\ab=R)/\Cx B0 W S' ab ro:=by
 refine y1 H rfl ?_;intros;all_goals exact⟨rfl,rfl,_,⟨rfl,rfl⟩,HQ⟩
section
variable{B0 S:AH}{W:List Nat}{R:List Own}{ro:List aB}{x:Xc}{v u:AV}{l:List dZ.Tk}{ws:List Int}
end
def Y5 (L:List Int)(a:Nat):Int:=L[a]?.getD 0
def Y6 (L:List Int)(a:Nat):Nat:=if a<L.length then a+1 else a
def I4:Nat->Int->Int->Int->Int
 |0,_,h,_=>h
 |k+1,w,h,m=>if h<m/\w%2=1 then I4 k (w/2) (h+1) m else h
section
variable{B0 S:AH}{W:List Nat}{R:List Own}{ro:List aB}{u:AV}{L:List Int}{d a:Nat}{v:AV}{w m:Int}
end
section
variable{B0 S:AH}{W:List Nat}{R:List Own}{ro:List aB}{u:AV}{L:List Int}{d s a:Nat}{v:AV}{w m:Int}
end
structure vS where
 ended:Int
 rounds:Int
 ops:Int
 steps:Int
 lW:Bool
def vS.cs (r:vS):List AV:=[I r.ended,I r.rounds,I r.ops,I r.steps,B r.lW]
def vS.plus (r:vS)(n:Int)(s:i4):vS:=⟨r.ended,r.rounds,r.ops,r.steps+n,r.lW||decide (s.σ.err=12)⟩
theorem Ba {x o}{most:Int}:∀{n:Nat} {i:Int} {s},i<=(i4.alone x o most n i s).1/\(i4.alone x o most n i s).1<=i+n
 |0,i,s=>⟨Int.le_refl _,by show i<=_;omega⟩
 |n+1,i,s=>by
  unfold i4.alone;split
  .have:=Ba (x:=x) (o:=o) (most:=most) (n:=n) (i:=i+1) (s:=s.mb x o);omega
  .exact⟨Int.le_refl _,by show i<=_;omega⟩
section
variable{B0 S:AH}{W:List Nat}{R l:List Own}{ro:List aB}{m bl q pm p3:Nat}{rest:List AV}{x:Xc}{o:Od}{N:Int}{s:i4}{L:Nat}{r:vS}
end
def Y7 (x:Xc)(L:List Int)(a:Nat):Int:=I4 100 (Y5 L a%18446744073709551616) 1 x.t.ht
instance acs:cH 357 where
section
variable{B0 S:AH}{W:List Nat}{R:List Own}{ro:List aB}{pe pd d sd a:Nat}{x:Xc}{v dv:AV}{l:List dZ.Tk}{L:List Int}{c:Int}
end
structure RS where
 y:Me
 a:Nat
 r:vS
 busy:Bool
def kd (k:Nat):Int:=match k%3 with|0=>4|1=>2|_=>3
structure Opk where
 o:Od
 σ:an
 a:Nat
 h:Int
def Y8 (x:Xc)(L:List Int)(k:Nat)(a:Nat):Opk:=
 if kd k=3 then⟨bY 3 (k/3:Nat) 1,aX x 3 (k/3:Nat) 1,a,1⟩ else⟨bY (kd k) (k/3:Nat) (Y7 x L a),aX x (kd k) (k/3:Nat) (Y7 x L a),Y6 L a,Y7 x L a⟩
def yst (x:Xc)(o:Od)(σ:an)(z:RS):RS×Bool:=
 let q:=i4.alone x o 100000 100000 0 ⟨σ,z.y,0⟩
 let r:=z.r.plus q.1 q.2
 if q.2.σ.err=14 then(⟨q.2.y,z.a,r,z.busy⟩,true) else(⟨q.2.y,z.a,⟨r.ended,r.rounds,r.ops+1,r.steps,r.lW⟩,z.busy||decide (q.2.σ.err=0)⟩,false)
def Iw (x:Xc)(L:List Int)(k:Nat)(z:RS):RS×Bool:=yst x (Y8 x L k z.a).o (Y8 x L k z.a).σ ⟨z.y,(Y8 x L k z.a).a,z.r,z.busy⟩
def rnd (x:Xc)(L:List Int):Nat->Nat->RS->RS×Bool
 |0,_,z=>(z,false)
 |n+1,k,z=>if(Iw x L k z).2 then Iw x L k z else rnd x L n (k+1) (Iw x L k z).1
def vS.up (r:vS):vS:=⟨r.ended,r.rounds+1,r.ops,r.steps,r.lW⟩
def Ph (x:Xc)(L:List Int)(m:Nat):Nat->RS->RS×Int
 |0,z=>(z,4)
 |n+1,z=>
  let w:=rnd x L m 0 ⟨z.y,z.a,z.r.up,false⟩
  if w.2 then(w.1,4) else if w.1.busy then Ph x L m n w.1 else(w.1,0)
structure xD where
 o:Od
 σ:an
 b:Int
def vS.en (r:vS):vS:=⟨r.ended+1,r.rounds,r.ops,r.steps,r.lW⟩
def jj (x:Xc):List (Option xD)->Me->vS->List (Option xD)×Me×vS×Bool
 |[],y,r=>([],y,r,false)
 |none::l,y,r=>(none::(jj x l y r).1,(jj x l y r).2)
 |some p::l,y,r=>
  let q:=i4.alone x p.o 100000 100000 0 ⟨p.σ,y,p.b⟩
  let r1:=r.plus q.1 q.2
  if q.2.σ.err=14 then(some ⟨p.o,q.2.σ,q.2.b⟩::l,q.2.y,r1,true)
  else(some ⟨p.o,q.2.σ,q.2.b⟩::(jj x l q.2.y r1.en).1,(jj x l q.2.y r1.en).2)
def L5 (x:Xc)(L:List Int)(l:List (Option xD))(y:Me)(a:Nat):List (Option xD)×RS×Int:=
 let f:=jj x (l.take x.r.ah.toNat) y ⟨0,0,0,0,false⟩
 let l':=f.1++l.drop x.r.ah.toNat
 if f.2.2.2 then(l',⟨f.2.1,a,f.2.2.1,false⟩,4)
 else(l',Ph x L (3*x.r.ah.toNat) (2*x.r.ah*x.j.f.size+x.room+4).toNat ⟨f.2.1,a,f.2.2.1,false⟩)
structure RS.ok (N:Int)(Ln len:Nat)(κ:Int)(z:RS):Prop where
 g:z.y.gd
 l:z.y.ws.length=Ln
 n:z.y.n<=N+κ*1000000
 s:0<=z.r.steps/\z.r.steps<=κ*100000
 p:0<=z.r.ops/\z.r.ops<=κ
 a:z.a<=len
theorem Vx.ydf {M}{p m:Nat}{args b own ro Ψ B0 S W}(h:Vx M (b (.yd p::args)) [.yd p λv=>.ret .ret [v]] own ro (jy ro Ψ))(hl:args.length=m)(hm:Own.obj p (.loop .ready none m b)∈own)(H:Cx B0 W S own ro):aG M (.yd p) args S λr S'=>∃ab,Ψ r ab/\Cx B0 W S' ab ro:=by
 have fin:∀{v:AV} {S':AH},wp M (.ret .ret [v]) S' (post M [] (cl B0 W (jy ro Ψ)))->∃ab,Ψ v ab/\Cx B0 W S' ab ro:=by rintro v S' ⟨t,vs,S1,⟨n0,h1⟩,ab,GM,⟨_,hr,tgt,h3,h4⟩,h5⟩;cases h1 n0 (Nat.le_refl _);subst hr;exact⟨tgt,h3,h4.cx h5⟩
 refine GI (H.oh _ hm) hl (wp_mono (h B0 W S H) ?_);rintro t vs S' ⟨pd,m',b',hg,h2⟩;refine⟨pd,m',b',hg,?_⟩;cases t<;>exact fin h2
section
variable{a1 a2 a3 a4 a5 c q k e f g:Own}{mm dr lo R:List Own}
end
instance acu:cH 119 where
instance acv:cH 224 where
section
variable{R:List Own}{ro:List aB}{p pm p3 p4 p8 p29 m bl pe pd d sd:Nat}{rest:List AV}{x:Xc}{v dv:AV}{l:List dZ.Tk}{L:List Int}{N:Int}{Ln:Nat}{lp:Bool->Own}{z:RS}{κ:Int}
end
structure Sd where
 s:xD
 q:Nat
 h:Int
 lo:List Own
def pv:Option Sd->AV
 |none=>Np
 |some s=>.ptr s.q 0
def so:Option Sd->List Own
 |none=>[]
 |some s=>s.lo
def eF (l:List (Option Sd)):List Own:=(l.map so).flatten
def co:Option Sd->Option xD:=Option.map Sd.s
def dj (l:List (Option Sd)):List (List AV):=l.map λs=>[pv s]
structure si (x:Xc)(v:AV)(ro:List aB)(s:xD):Prop where
 k:s.σ.over=false->s.o.ok x
 w:s.σ.wd
 z:s.o.k≠0
 t:s.o.ok x->s.o.k=1->∃(L:List (List AV)) (c:List AV),aB.sl v 4 L∈ro/\L[s.o.tk.toNat]?=some c/\c[1]?=some (I s.o.prio)
def fS (x:Xc)(v:AV)(ro:List aB)(l:List (Option Sd)):Prop:=∀s,some s∈l->eP x s.s.o s.q s.s.b s.s.σ s.lo/\si x v ro s.s
def mP (x:Xc)(v:AV)(ro:List aB)(l:List (Option Sd)):Prop:=∀s,some s∈l->bU x s.s.o v s.h s.q s.s.b s.s.σ s.lo/\si x v ro s.s
theorem jk {l}{i:Nat}{s}(h:l[i]?=some s):(dj l)[i]?=some [pv s]:=by unfold dj;rw[List.getElem?_map,h];rfl
theorem jC (l:List (Option Sd)):(dj l).length=l.length:=List.length_map ..
theorem cutAt {α:Type}{l r:List α}{i:Nat}{a:α}(h:l.drop i=a::r):l[i]?=some a/\l.drop (i+1)=r/\l.take (i+1)=l.take i++[a]:=by
 have e:l=l.take i++(a::r):=by rw[<-h,List.take_append_drop]
 have hl:i<l.length:=by apply Nat.lt_of_not_le;intro hn;rw[List.drop_eq_nil_of_le hn] at h;cases h
 have h1:l[i]?=some a:=by have:=congrArg (λl=>l[0]?) h;simpa[List.getElem?_drop] using this
 refine⟨h1,?_,?_⟩
 .rw[<-List.drop_drop,h];rfl
 .rw[List.take_add_one,h1];rfl
structure Ix (x:Xc)(l:List (Option Sd))(y0:Me)(N:Int)(Ln n:Nat)(j:Nat)(dn rm:List (Option Sd))(y:Me)(r:vS):Prop where
 e:jj x (l.map co) y0 ⟨0,0,0,0,false⟩=(dn.map co++(jj x (rm.map co) y r).1,(jj x (rm.map co) y r).2)
 i:dn.length=j
 c:l.drop j=rm
 q:dn.map pv=(l.take j).map pv
 o:RS.ok N Ln n j ⟨y,0,r,false⟩
 d:0<=r.ended/\r.ended<=j
 u:r.rounds=0/\r.ops=0
theorem Ix.zero {x l y0}{N:Int}{n:Nat}(h:y0.gd)(hn:y0.n<=N):Ix x l y0 N y0.ws.length n 0 [] l y0 ⟨0,0,0,0,false⟩:=
 ⟨rfl,rfl,rfl,rfl,⟨h,rfl,by dsimp only;omega,by dsimp only;omega,by dsimp only;omega,by dsimp only;omega⟩,by dsimp only;omega,⟨rfl,rfl⟩⟩
section
variable{x:Xc}{l dn rm:List (Option Sd)}{y0 y:Me}{N k:Int}{Ln n i:Nat}{r:vS}{s:Sd}{s':i4}{lo:List Own}
theorem Ix.nil (h:Ix x l y0 N Ln n i dn (none::rm) y r):Ix x l y0 N Ln n (i+1) (dn++[none]) rm y r:=by have o:=h.o;obtain⟨g1,g2,g3⟩:=cutAt h.c;refine⟨?_,by rw[List.length_append,h.i];rfl,g2,by rw[g3,List.map_append,List.map_append,h.q],⟨o.g,o.l,by have:=o.n;dsimp only at this⊢;omega,by have:=o.s;dsimp only at this⊢;omega,by have:=o.p;dsimp only at this⊢;omega,o.a⟩,by have:=h.d;omega,h.u⟩;rw[h.e,List.map_append,lC];rfl
theorem Ix.cons (h:Ix x l y0 N Ln n i dn (some s::rm) y r)(e:(k,s')=i4.alone x s.s.o 100000 100000 0 ⟨s.s.σ,y,s.s.b⟩)(hs:s'.ok x s.s.o (N+i*1000000+1000000) Ln)(xE:s'.σ.err≠14):
  Ix x l y0 N Ln n (i+1) (dn++[some ⟨⟨s.s.o,s'.σ,s'.b⟩,s.q,s.h,lo⟩]) rm s'.y (r.plus k s').en:=by
 have o:=h.o;obtain⟨g1,g2,g3⟩:=cutAt h.c;have hb:=Ba (x:=x) (o:=s.s.o) (most:=100000) (n:=100000) (i:=0) (s:=⟨s.s.σ,y,s.s.b⟩);rw[<-e] at hb;dsimp only at hb;refine⟨?_,by rw[List.length_append,h.i];rfl,g2,by rw[g3,List.map_append,List.map_append,h.q];rfl,⟨hs.y,hs.l,by have:=hs.n;dsimp only at this⊢;omega,by have:=o.s;unfold vS.en vS.plus;dsimp only at this⊢;omega,by have:=o.p;unfold vS.en vS.plus;dsimp only at this⊢;omega,o.a⟩,by have:=h.d;unfold vS.en vS.plus;dsimp only at this⊢;omega,h.u⟩;rw[h.e,List.map_append,lC];have e1:jj x ((some s::rm).map co) y r=(some ⟨s.s.o,s'.σ,s'.b⟩::(jj x (rm.map co) s'.y (r.plus k s').en).1,(jj x (rm.map co) s'.y (r.plus k s').en).2):=by show(if(i4.alone x s.s.o 100000 100000 0 ⟨s.s.σ,y,s.s.b⟩).2.σ.err=14 then _ else _)=_;rw[<-e,if_neg xE]
 rw[e1];rfl
theorem Ix.fin (h:Ix x l y0 N Ln n i dn [] y r):jj x (l.map co) y0 ⟨0,0,0,0,false⟩=(dn.map co,y,r,false):=by rw[h.e];show(dn.map co++[],y,r,false)=_;rw[List.append_nil]
end
structure Ut (x:Xc)(L:List Int)(l:List (Option Sd))(y:Me)(a:Nat)(l':List (Option Sd))(z:RS)(e:Int):Prop where
 e:(l'.map co,z,e)=L5 x L (l.map co) y a
 p:l'.map pv=l.map pv
 g:z.y.gd
 w:z.y.ws.length=y.ws.length
 n:z.y.n<=1000000000000
 a:z.a<=L.length
theorem Ut.rest {x L l dn y0 y}{N:Int}{n i a:Nat}{r z}{e:Int}(h:Ix x (l.take x.r.ah.toNat) y0 N y0.ws.length n i dn [] y r)(he:Ph x L (3*x.r.ah.toNat) (2*x.r.ah*x.j.f.size+x.room+4).toNat ⟨y,a,r,false⟩=(z,e))(hg:z.y.gd)(hl:z.y.ws.length=y0.ws.length)(hn:z.y.n<=1000000000000)(ha:z.a<=L.length):
  Ut x L l y0 a (dn++l.drop x.r.ah.toNat) z e:=by
 refine⟨?_,?_,hg,hl,hn,ha⟩
 .unfold L5;rw[<-List.map_take,h.fin];dsimp only;rw[if_neg ac,<-List.map_drop,he];simp
 .rw[List.map_append,h.q,<-List.map_append];have e2:=List.take_append_drop x.r.ah.toNat l;have e3:=List.take_append_drop i (l.take x.r.ah.toNat);rw[h.c,List.append_nil] at e3;rw[e3,e2]
end Go.cO
