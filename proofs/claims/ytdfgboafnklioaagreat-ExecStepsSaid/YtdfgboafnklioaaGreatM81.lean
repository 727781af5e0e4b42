/- Contracts. Conditions: in each theorem. -/
import Derived.Test.YtdfgboafnklioaaGreatM80
set_option linter.all false
set_option maxRecDepth 100000
set_option maxHeartbeats 4000000
namespace Go.cG
open Go.Proofs
section
variable{a1 a2 a3 a4 a5 c q k e f g:Own}{mm dr lo R:List Own}
end
instance ac0:cK 119 where
instance ac1:cK 224 where
section
variable{R:List Own}{ro:List aI}{p pm p3 p4 p8 p29 m bl pe pd d sd:Nat}{rest:List AV}{x:Xc}{v dv:AV}{l:List dA.Tk}{L:List Int}{N:Int}{Ln:Nat}{lp:Bool->Own}{z:RS}{κ:Int}
end
structure Sd where
 s:PI
 q:Nat
 h:Int
 lo:List Own
def pv:Option Sd->AV
 |none=>Np
 |some s=>.ptr s.q 0
def so:Option Sd->List Own
 |none=>[]
 |some s=>s.lo
def co:Option Sd->Option PI:=Option.map Sd.s
structure I3 (x:Xc)(v:AV)(ro:List aI)(s:PI):Prop where
 k:s.σ.over=false->s.o.ok x
 w:s.σ.wd
 z:s.o.k≠0
 t:s.o.ok x->s.o.k=1->∃(L:List (List AV)) (c:List AV),aI.sl v 4 L∈ro/\L[s.o.tk.toNat]?=some c/\c[1]?=some (I s.o.prio)
def zj (x:Xc)(v:AV)(ro:List aI)(l:List (Option Sd)):Prop:=∀s,some s∈l->ft x s.s.o s.q s.s.b s.s.σ s.lo/\I3 x v ro s.s
def Zu (x:Xc)(v:AV)(ro:List aI)(l:List (Option Sd)):Prop:=∀s,some s∈l->cd x s.s.o v s.h s.q s.s.b s.s.σ s.lo/\I3 x v ro s.s
theorem cutAt {α:Type}{l r:List α}{i:Nat}{a:α}(h:l.drop i=a::r):l[i]?=some a/\l.drop (i+1)=r/\l.take (i+1)=l.take i++[a]:=by
 have e:l=l.take i++(a::r):=by rw[<-h,List.take_append_drop]
 have hl:i<l.length:=by apply Nat.lt_of_not_le;intro hn;rw[List.drop_eq_nil_of_le hn] at h;cases h
 have h1:l[i]?=some a:=by have:=congrArg (λl=>l[0]?) h;simpa[List.getElem?_drop] using this
 refine⟨h1,?_,?_⟩
 .rw[<-List.drop_drop,h];rfl
 .rw[List.take_add_one,h1];rfl
structure I4 (x:Xc)(l:List (Option Sd))(y0:Me)(N:Int)(Ln n:Nat)(j:Nat)(dn rm:List (Option Sd))(y:Me)(r:wm):Prop where
 e:jj x (l.map co) y0 ⟨0,0,0,0,false⟩=(dn.map co++(jj x (rm.map co) y r).1,(jj x (rm.map co) y r).2)
 i:dn.length=j
 c:l.drop j=rm
 q:dn.map pv=(l.take j).map pv
 o:RS.ok N Ln n j ⟨y,0,r,false⟩
 d:0<=r.ended/\r.ended<=j
 u:r.rounds=0/\r.ops=0
theorem I4.zero {x l y0}{N:Int}{n:Nat}(h:y0.gd)(hn:y0.n<=N):I4 x l y0 N y0.ws.length n 0 [] l y0 ⟨0,0,0,0,false⟩:=
 ⟨rfl,rfl,rfl,rfl,⟨h,rfl,by dsimp only;omega,by dsimp only;omega,by dsimp only;omega,by dsimp only;omega⟩,by dsimp only;omega,⟨rfl,rfl⟩⟩
section
variable{x:Xc}{l dn rm:List (Option Sd)}{y0 y:Me}{N k:Int}{Ln n i:Nat}{r:wm}{s:Sd}{s':tj}{lo:List Own}
theorem I4.nil (h:I4 x l y0 N Ln n i dn (none::rm) y r):I4 x l y0 N Ln n (i+1) (dn++[none]) rm y r:=by have o:=h.o;obtain⟨g1,g2,g3⟩:=cutAt h.c;refine⟨?_,by rw[List.length_append,h.i];rfl,g2,by rw[g3,List.map_append,List.map_append,h.q],⟨o.g,o.l,by have:=o.n;dsimp only at this⊢;omega,by have:=o.s;dsimp only at this⊢;omega,by have:=o.p;dsimp only at this⊢;omega,o.a⟩,by have:=h.d;omega,h.u⟩;rw[h.e,List.map_append,lC];rfl
theorem I4.cons (h:I4 x l y0 N Ln n i dn (some s::rm) y r)(e:(k,s')=tj.alone x s.s.o 100000 100000 0 ⟨s.s.σ,y,s.s.b⟩)(hs:s'.ok x s.s.o (N+i*1000000+1000000) Ln)(Xr:s'.σ.err≠14):
  I4 x l y0 N Ln n (i+1) (dn++[some ⟨⟨s.s.o,s'.σ,s'.b⟩,s.q,s.h,lo⟩]) rm s'.y (r.plus k s').en:=by
 have o:=h.o;obtain⟨g1,g2,g3⟩:=cutAt h.c;have hb:=Bn (x:=x) (o:=s.s.o) (most:=100000) (n:=100000) (i:=0) (s:=⟨s.s.σ,y,s.s.b⟩);rw[<-e] at hb;dsimp only at hb;refine⟨?_,by rw[List.length_append,h.i];rfl,g2,by rw[g3,List.map_append,List.map_append,h.q];rfl,⟨hs.y,hs.l,by have:=hs.n;dsimp only at this⊢;omega,by have:=o.s;unfold wm.en wm.plus;dsimp only at this⊢;omega,by have:=o.p;unfold wm.en wm.plus;dsimp only at this⊢;omega,o.a⟩,by have:=h.d;unfold wm.en wm.plus;dsimp only at this⊢;omega,h.u⟩;rw[h.e,List.map_append,lC];have e1:jj x ((some s::rm).map co) y r=(some ⟨s.s.o,s'.σ,s'.b⟩::(jj x (rm.map co) s'.y (r.plus k s').en).1,(jj x (rm.map co) s'.y (r.plus k s').en).2):=by show(if(tj.alone x s.s.o 100000 100000 0 ⟨s.s.σ,y,s.s.b⟩).2.σ.err=14 then _ else _)=_;rw[<-e,if_neg Xr]
 rw[e1];rfl
theorem I4.fin (h:I4 x l y0 N Ln n i dn [] y r):jj x (l.map co) y0 ⟨0,0,0,0,false⟩=(dn.map co,y,r,false):=by rw[h.e];show(dn.map co++[],y,r,false)=_;rw[List.append_nil]
end
structure Uz (x:Xc)(L:List Int)(l:List (Option Sd))(y:Me)(a:Nat)(l':List (Option Sd))(z:RS)(e:Int):Prop where
 e:(l'.map co,z,e)=Mw x L (l.map co) y a
 p:l'.map pv=l.map pv
 g:z.y.gd
 w:z.y.ws.length=y.ws.length
 n:z.y.n<=1000000000000
 a:z.a<=L.length
theorem Uz.rest {x L l dn y0 y}{N:Int}{n i a:Nat}{r z}{e:Int}(h:I4 x (l.take x.r.ad.toNat) y0 N y0.ws.length n i dn [] y r)(he:PH x L (3*x.r.ad.toNat) (2*x.r.ad*x.j.f.size+x.room+4).toNat ⟨y,a,r,false⟩=(z,e))(hg:z.y.gd)(hl:z.y.ws.length=y0.ws.length)(hn:z.y.n<=1000000000000)(ha:z.a<=L.length):
  Uz x L l y0 a (dn++l.drop x.r.ad.toNat) z e:=by
 refine⟨?_,?_,hg,hl,hn,ha⟩
 .unfold Mw;rw[<-List.map_take,h.fin];dsimp only;rw[if_neg ac,<-List.map_drop,he];simp
 .rw[List.map_append,h.q,<-List.map_append];have e2:=List.take_append_drop x.r.ad.toNat l;have e3:=List.take_append_drop i (l.take x.r.ad.toNat);rw[h.c,List.append_nil] at e3;rw[e3,e2]
section
variable{B0 S:AH}{W:List Nat}{R:List Own}{ro:List aI}{m bl d sd a:Nat}{rest:List AV}{x:Xc}{v dv vo:AV}{l:List dA.Tk}{L:List Int}{y:Me}{ls:List (Option Sd)}
theorem Vx.UA {M own Φ K}{es i:Nat}{N k}(hv:aI.sl v es N∈ro)(hi:i<=N.length)(h:∀v',Vx M (k v') K own (.sl v' es (N.take i)::ro) Φ):Vx M (.op (.i_ es v none (some (I (i:Int))) none) k) K own ro Φ:=λB W S H=>EJ H hv hi λv' H1=>h v' B W S H1
theorem zj.app {a b}(h:zj x v ro a)(h2:zj x v ro b):zj x v ro (a++b):=λs hs=>(List.mem_append.1 hs).elim (h s) (h2 s)
theorem zj.one {s}(h:ft x s.s.o s.q s.s.b s.s.σ s.lo)(h2:I3 x v ro s.s):zj x v ro [some s]:=λt ht=>by cases List.mem_singleton.1 ht;exact⟨h,h2⟩
theorem zj.no:zj x v ro [none]:=λt ht=>by cases List.mem_singleton.1 ht
end
section
variable{M:cP}{own:List Own}{ro:List aI}{Φ:gz}{K:List Kf}
theorem Zx.UB {v w}{i:Int}{L}{g:Bool}{k}(hv:aI.sl v 1 L∈ro)(hi:0<=i)(hc:L[i.toNat]?=some [w])(h:Zx M false (k w) K own ro Φ):Zx M false (.op (.cC 1 v (I i)) λp=>.qh (B g) g (.load 1 false p) k) K own ro Φ:=
 .z (.of (Vx.NL hv hi hc λid off=>λB W S H=>cN (vB H (List.Mem.head _) rfl (h.ok B W S H.tl))))
end
section
variable{B0 S:AH}{W:List Nat}{R:List Own}{ro:List aI}{m d a:Nat}{x:Xc}{v vm dv vo:AV}{l:List dA.Tk}{L:List Int}{y:Me}{N:Int}{ls:List (Option Sd)}
section
variable{kv c3 c2 c1:Own}{mm dr sa sb lo R:List Own}
end
end
end Go.cG
