/- Contracts. Conditions: in each theorem. -/
import Derived.Test.YtdfgboafnklioaaGreatAc
import Derived.Test.YtdfgboafnklioaaGreatT
set_option linter.all false
set_option maxRecDepth 100000
set_option maxHeartbeats 4000000
namespace Go.cO
open Go.Proofs
inductive Kf where
 |call (k:AV->AC)
 |bind (id:Option Nat)(k:List AV->AC)(outs:List AV->List AV)
 |fin (k:List AV->AC)
 |loop (body:List AV->AC)(outs:List AV->List AV)
 |DP (p:Nat)(k:AC)(outs:List AV)
 |yd (p:Nat)(k:AV->AC)
def post (M:cQ):List Kf->ga->ga
 |[],Q=>Q
 |.call k::K,Q=>λt vs S=>t=.ret/\wp M (k (oneOf vs)) S (post M K Q)
 |.bind id k outs::K,Q=>yg M id k outs (post M K Q)
 |.fin k::K,Q=>λt vs S=>(t=.normal\/t=.ret)/\wp M (k vs) S (post M K Q)
 |.loop body outs::K,Q=>λt vs S=>(t=.normal/\Qb M body vs S λt vs S'=>post M K Q t (outs vs) S')\/(t≠.normal/\post M K Q t (outs vs) S)
 |.DP p k outs::K,Q=>λt vs S=>t=.normal/\∃st dE m b,S.get p=some (.loop st dE m b)/\st≠.busy/\
   match dE with
   |none=>wp M k (S.set p (.loop .exhausted dE m b)) (post M K Q)
   |some t=>post M K Q t outs (S.set p (.loop .exhausted dE m b))
 |.yd p k::K,Q=>λt vs S=>∃pd m b,S.get p=some (.loop .busy pd m b)/\
   match t with
   |.normal=>wp M (k (.sc (.bool true))) (S.set p (.loop .ready none m b)) (post M K Q)
   |t=>wp M (k (.sc (.bool false))) (S.set p (.loop .done (some t) m b)) (post M K Q)
abbrev gn:=Tag->List AV->List Own->List aB->Prop
def cl (B:AH)(W:List Nat)(Φ:gn):ga:=λt vs S=>∃own ro,Φ t vs own ro/\Cx B W S own ro
def Vx (M:cQ)(x:AC)(K:List Kf)(own:List Own)(ro:List aB)(Φ:gn):Prop:=∀B W S,Cx B W S own ro->wp M x S (post M K (cl B W Φ))
def bL (p:Prop):Prop:=p=True
theorem bL.of {p:Prop}(h:p):bL p:=eq_true h
theorem bL.out {p:Prop}(h:bL p):p:=of_eq_true h
attribute[irreducible] bL
theorem Cx.hX {B S W own ab ro}(H:Cx B W S own ro)(h:own.Perm ab):Cx B W S ab ro where
 next:=H.next
 iR:=H.iR
 oh:=λx hx=>H.oh x (h.mem_iff.2 hx)
 oi:=λx hx=>H.oi x (h.mem_iff.2 hx)
 od:=(h.pairwise_iff (λ{x y} hxy id hy hx=>hxy id hx hy)).1 H.od
 rh:=H.rh
 ri:=λφ jt id bQ=>⟨(H.ri φ jt id bQ).1,λx hx=>(H.ri φ jt id bQ).2 x (h.mem_iff.2 hx)⟩
inductive Lo:List Own->Nat->List AV->Prop
 |hd {p:Nat}{c r}:Lo (.obj p (.row c)::r) p c
 |tl {p:Nat}{c x r}(h:Lo r p c):Lo (x::r) p c
 |ap {p:Nat}{c l r}(h:Lo r p c):Lo (l++r) p c
inductive Lr:List aB->Nat->List AV->Prop
 |hd {p:Nat}{c r}:Lr (.pt p 0 c::r) p c
 |tl {p:Nat}{c x r}(h:Lr r p c):Lr (x::r) p c
 |ap {p:Nat}{c l r}(h:Lr r p c):Lr (l++r) p c
 |me {p:Nat}{c r}(h:bL (aB.pt p 0 c∈r)):Lr r p c
inductive Lk:List Own->List aB->Nat->List AV->Prop
 |hd {p:Nat}{c r ro}:Lk (.obj p (.row c)::r) ro p c
 |tl {p:Nat}{c x r ro}(h:Lk r ro p c):Lk (x::r) ro p c
 |ap {p:Nat}{c l r ro}(h:Lk r ro p c):Lk (l++r) ro p c
 |ro {p:Nat}{c r ro}(h:Lr ro p c):Lk r ro p c
theorem Lr.mem {r}{p:Nat}{c}(h:Lr r p c):aB.pt p 0 c∈r:=by
 induction h with
 |hd=>exact List.Mem.head _
 |tl h ih=>exact List.mem_cons_of_mem _ ih
 |ap h ih=>exact List.mem_append_right _ ih
 |me h=>exact h.out
theorem Lk.cells {own ro}{p:Nat}{c}(h:Lk own ro p c){S}(ho:∀x∈own,x.holds S)(hr:∀φ∈ro,φ.holds S):∃d,S.cells? p=some d/\c.length<=d.length/\d.take c.length=c:=by
 induction h with
 |hd=>exact⟨_,dh (ho _ (List.Mem.head _)),Nat.le_refl _,List.take_length⟩
 |tl h ih=>exact ih (λx hx=>ho x (List.mem_cons_of_mem _ hx)) hr
 |ap h ih=>exact ih (λx hx=>ho x (List.mem_append_right _ hx)) hr
 |ro h=>obtain⟨d,h1,h2,h3⟩:=hr _ h.mem;exact⟨d,h1,am,by simpa using h3⟩
inductive Cut:Nat->Nat->List AV->List AV->Prop
 |d {o n:Nat}{v c l}(h:Cut o n c l):Cut (o+1) n (v::c) l
 |t {n:Nat}{v c l}(h:Cut 0 n c l):Cut 0 (n+1) (v::c) (v::l)
 |z {c}:Cut 0 0 c []
theorem Cut.eq {o n:Nat}{c l}(h:Cut o n c l):(c.drop o).take n=l/\o+n<=c.length:=by
 induction h with
 |d h ih=>exact⟨ih.1,by have:=ih.2;simp;omega⟩
 |t h ih=>exact⟨by simpa using ih.1,by have:=ih.2;simp;omega⟩
 |z=>simp
inductive Fp:List AV->Nat->AV->Prop
 |s {c}{o:Nat}{v w}(h:Fp c o v):Fp (w::c) (o+1) v
 |z {c v}:Fp (v::c) 0 v
theorem Fp.eq {c}{o:Nat}{v}(h:Fp c o v):c[o]?=some v:=by
 induction h with
 |s h ih=>simpa using ih
 |z=>rfl
inductive Sr:List AV->Nat->List AV->List AV->Prop
 |s {c c' vs}{o:Nat}{w}(h:Sr c o vs c'):Sr (w::c) (o+1) vs (w::c')
 |p {c c' vs v w}(h:Sr c 0 vs c'):Sr (w::c) 0 (v::vs) (v::c')
 |z {c}:Sr c 0 [] c
theorem Sr.eq {c c' vs}{o:Nat}(h:Sr c o vs c'):aH c o vs=c'/\o+vs.length<=c.length:=by
 induction h with
 |s h ih=>
  refine⟨?_,by have:=ih.2;simp;omega⟩;rw[bM] at*
  rw[<-ih.1];simp[Nat.succ_add]
 |@p c c' vs v w h ih=>
  refine⟨?_,by have:=ih.2;simp;omega⟩;rw[bM] at*
  rw[<-ih.1];simp
 |z=>exact⟨by rw[bM];simp,ac⟩
inductive Up:List Own->Nat->List AV->List AV->List Own->Prop
 |hd {p:Nat}{c c' r}:Up (.obj p (.row c)::r) p c c' (.obj p (.row c')::r)
 |tl {p:Nat}{c c' x r r'}(h:Up r p c c' r'):Up (x::r) p c c' (x::r')
 |ap {p:Nat}{c c' l r r'}(h:Up r p c c' r'):Up (l++r) p c c' (l++r')
theorem Up.at {own ab}{p:Nat}{c c'}(h:Up own p c c' ab):∃n,own[n]?=some (.obj p (.row c))/\ab=own.set n (.obj p (.row c')):=by
 induction h with
 |hd=>exact⟨0,rfl,rfl⟩
 |tl h ih=>
  obtain⟨n,h1,h2⟩:=ih;exact⟨n+1,by simpa using h1,by rw[h2];rfl⟩
 |@ap p c c' l r r' h ih=>
  obtain⟨n,h1,h2⟩:=ih;refine⟨l.length+n,?_,?_⟩
  .rw[List.getElem?_append_right am];simpa using h1
  .rw[h2,List.set_append_right _ _ am];congr 2;omega
inductive Uo:List Own->Nat->AO->AO->List Own->Prop
 |hd {p:Nat}{o o' r}:Uo (.obj p o::r) p o o' (.obj p o'::r)
 |tl {p:Nat}{o o' x r r'}(h:Uo r p o o' r'):Uo (x::r) p o o' (x::r')
 |ap {p:Nat}{o o' l r r'}(h:Uo r p o o' r'):Uo (l++r) p o o' (l++r')
theorem Uo.at {own ab}{p:Nat}{o o'}(h:Uo own p o o' ab):∃n,own[n]?=some (.obj p o)/\ab=own.set n (.obj p o'):=by
 induction h with
 |hd=>exact⟨0,rfl,rfl⟩
 |tl h ih=>
  obtain⟨n,h1,h2⟩:=ih;exact⟨n+1,by simpa using h1,by rw[h2];rfl⟩
 |@ap p o o' l r r' h ih=>
  obtain⟨n,h1,h2⟩:=ih;refine⟨l.length+n,?_,?_⟩
  .rw[List.getElem?_append_right am];simpa using h1
  .rw[h2,List.set_append_right _ _ am];congr 2;omega
inductive Ro:List Own->Nat->AO->List Own->Prop
 |hd {p:Nat}{o r}:Ro (.obj p o::r) p o r
 |tl {p:Nat}{o x r r'}(h:Ro r p o r'):Ro (x::r) p o (x::r')
 |ap {p:Nat}{o l r r'}(h:Ro r p o r'):Ro (l++r) p o (l++r')
theorem Ro.at {own ab}{p:Nat}{o}(h:Ro own p o ab):∃n,own[n]?=some (.obj p o)/\ab=own.eraseIdx n:=by
 induction h with
 |hd=>exact⟨0,rfl,rfl⟩
 |tl h ih=>
  obtain⟨n,h1,h2⟩:=ih;exact⟨n+1,by simpa using h1,by rw[h2];rfl⟩
 |@ap p o l r r' h ih=>
  obtain⟨n,h1,h2⟩:=ih;refine⟨l.length+n,?_,?_⟩
  .rw[List.getElem?_append_right am];simpa using h1
  .rw[h2,List.eraseIdx_append_of_length_le am];congr 2;omega
def M6 (t:Option Tag)(kk:AC)(outs:List AV):AC:=match t with
 |none=>kk
 |some t=>.ret t outs
inductive Le:List Own->Nat->Option Tag->List Own->Prop
 |Qa {p m:Nat}{b r}:Le (.obj p (.loop .ready none m b)::r) p none r
 |CP {p m:Nat}{t b r}:Le (.obj p (.loop .done (some t) m b)::r) p (some t) r
 |tl {p:Nat}{t x r r'}(h:Le r p t r'):Le (x::r) p t (x::r')
 |ap {p:Nat}{t l r r'}(h:Le r p t r'):Le (l++r) p t (l++r')
theorem Le.at {own ab}{p:Nat}{t}(h:Le own p t ab):∃n st m b,own[n]?=some (.obj p (.loop st t m b))/\st≠.busy/\ab=own.eraseIdx n:=by
 induction h with
 |Qa=>exact⟨0,.ready,_,_,rfl,ac,rfl⟩
 |CP=>exact⟨0,.done,_,_,rfl,ac,rfl⟩
 |tl h ih=>
  obtain⟨n,st,m,b,h1,h3,h2⟩:=ih;exact⟨n+1,st,m,b,by simpa using h1,h3,by rw[h2];rfl⟩
 |@ap p o l r r' h ih=>
  obtain⟨n,st,m,b,h1,h3,h2⟩:=ih;refine⟨l.length+n,st,m,b,?_,h3,?_⟩
  .rw[List.getElem?_append_right am];simpa using h1
  .rw[h2,List.eraseIdx_append_of_length_le am];congr 2;omega
inductive Ls:List Own->AV->Nat->List (List AV)->Prop
 |hd {v}{es:Nat}{L r}:Ls (.sl v es L::r) v es L
 |tl {v}{es:Nat}{L x r}(h:Ls r v es L):Ls (x::r) v es L
 |ap {v}{es:Nat}{L l r}(h:Ls r v es L):Ls (l++r) v es L
theorem Ls.mem {own v}{es:Nat}{L}(h:Ls own v es L):Own.sl v es L∈own:=by
 induction h with
 |hd=>exact List.Mem.head _
 |tl _ ih=>exact List.mem_cons_of_mem _ ih
 |ap _ ih=>exact List.mem_append_right _ ih
inductive Us:List Own->AV->Nat->List (List AV)->AV->List (List AV)->List Own->Prop
 |hd {v v'}{es:Nat}{L L' r}:Us (.sl v es L::r) v es L v' L' (.sl v' es L'::r)
 |tl {v v'}{es:Nat}{L L' x r r'}(h:Us r v es L v' L' r'):Us (x::r) v es L v' L' (x::r')
 |ap {v v'}{es:Nat}{L L' l r r'}(h:Us r v es L v' L' r'):Us (l++r) v es L v' L' (l++r')
theorem Us.at {own ab v v'}{es:Nat}{L L'}(h:Us own v es L v' L' ab):∃n,own[n]?=some (.sl v es L)/\ab=own.set n (.sl v' es L'):=by
 induction h with
 |hd=>exact⟨0,rfl,rfl⟩
 |tl h ih=>
  obtain⟨n,h1,h2⟩:=ih;exact⟨n+1,by simpa using h1,by rw[h2];rfl⟩
 |@ap v v' es L L' l r r' h ih=>
  obtain⟨n,h1,h2⟩:=ih;refine⟨l.length+n,?_,?_⟩
  .rw[List.getElem?_append_right am];simpa using h1
  .rw[h2,List.set_append_right _ _ am];congr 2;omega
inductive Ek:List (List AV)->Nat->List AV->Prop
 |s {c}{o:Nat}{v w}(h:Ek c o v):Ek (w::c) (o+1) v
 |z {c v}:Ek (v::c) 0 v
theorem Ek.eq {c}{o:Nat}{v}(h:Ek c o v):c[o]?=some v:=by
 induction h with
 |s h ih=>simpa using ih
 |z=>rfl
mutual
inductive vW:AV->AV->Prop
 |num {κ}{n:Int}:vW (Z κ n) (Z κ n)
 |bool {b:Bool}:vW (B b) (B b)
 |ptr {p o:Nat}:vW (.ptr p o) (.ptr p o)
 |np:vW Np Np
 |nf:vW Nf Nf
 |ns:vW Ns Ns
 |fn {f a a' c c'}(h:vX a a')(h2:vX c c'):vW (.fn f a c) (.fn f a' c')
 |agg {l l'}(h:vX l l'):vW (.agg l) (.agg l')
 |dD {l l'}(h:vX l l'):vW (.dD l) (.dD l')
 |Mb {t:Nat}{v v'}(h:vW v v'):vW (.iface t v) (.iface t v')
 |sl {i o n c:Nat}:vW (.sl i o n c) (.sl i o n c)
 |any {v}:vW v v
inductive vX:List AV->List AV->Prop
 |nil:vX [] []
 |cons {v v' l l'}(h:vW v v')(h2:vX l l'):vX (v::l) (v'::l')
 |any {l}:vX l l
end
mutual
theorem vW.eq:∀{v v'},vW v v'->v=v'
 |_,_,.num=>rfl
 |_,_,.bool=>rfl
 |_,_,.ptr=>rfl
 |_,_,.np=>rfl
 |_,_,.nf=>rfl
 |_,_,.ns=>rfl
 |_,_,.fn h h2=>by rw[h.eq,h2.eq]
 |_,_,.agg h=>by rw[h.eq]
 |_,_,.dD h=>by rw[h.eq]
 |_,_,.Mb h=>by rw[h.eq]
 |_,_,.sl=>rfl
 |_,_,.any=>rfl
theorem vX.eq:∀{l l'},vX l l'->l=l'
 |_,_,.nil=>rfl
 |_,_,.cons h h2=>by rw[h.eq,h2.eq]
 |_,_,.any=>rfl
end
class VC (M:cQ)(f:AV)(args:List AV)(P:outParam Prop)(v:outParam AV):Prop where
 ok:P->∀S,aG M f args S λr S'=>r=v/\aR S S'
class SC (M:cQ)(f:AV)(args:List AV)(own:List Own)(P:outParam Prop)(v:outParam AV)(ab:outParam (List Own)):Prop where
 ok:P->∀(ro:List aB) (R:List Own) (B:AH) (W:List Nat) (S:AH),Cx B W S (own++R) ro->aG M f args S λr S'=>r=v/\Cx B W S' (ab++R) ro
theorem mC {o:Own}{a b:List Own}:(o::(a++b)).Perm (a++(o::b)):=List.perm_middle.symm
instance SC.cons {M:cQ}{f:AV}{args:List AV}{own ab:List Own}{P:Prop}{v:AV}{o:Own}[h:SC M f args own P v ab]:SC M f args (o::own) P v (o::ab) where
 ok:=λhp ro R B W S H=>aw (h.ok hp ro (o::R) B W S (H.hX mC)) λr S' q=>⟨q.1,q.2.hX mC.symm⟩
theorem kH {l a b:List Own}:(l++a++b).Perm (a++(l++b)):=by rw[<-List.append_assoc];exact List.Perm.append_right b List.perm_append_comm
instance SC.app {M:cQ}{f:AV}{args:List AV}{own ab:List Own}{P:Prop}{v:AV}{l:List Own}[h:SC M f args own P v ab]:SC M f args (l++own) P v (l++ab) where
 ok:=λhp ro R B W S H=>aw (h.ok hp ro (l++R) B W S (H.hX kH)) λr S' q=>⟨q.1,q.2.hX kH.symm⟩
class NC (M:cQ)(f:AV)(args:List AV)(P:outParam Prop)(Q:outParam (Nat->List Own->Prop)):Prop where
 ok:P->∀(ro:List aB) (R:List Own) (B:AH) (W:List Nat) (S:AH),Cx B W S R ro->aG M f args S λr S'=>∃p l,Q p l/\r=.ptr p 0/\Cx B W S' (l++R) ro
class NS (M:cQ)(f:AV)(args:List AV)(own:List Own)(P:outParam Prop)(L:outParam (List (List AV))):Prop where
 ok:P->∀(ro:List aB) (R:List Own) (B:AH) (W:List Nat) (S:AH),Cx B W S (own++R) ro->aG M f args S λr S'=>Cx B W S' (.sl r 1 L::(own++R)) ro
instance NS.cons {M:cQ}{f:AV}{args:List AV}{own:List Own}{P:Prop}{L:List (List AV)}{o:Own}[h:NS M f args own P L]:NS M f args (o::own) P L where
 ok:=λhp ro R B W S H=>aw (h.ok hp ro (o::R) B W S (H.hX mC)) λr S' q=>q.hX (List.Perm.cons _ mC.symm)
instance NS.app {M:cQ}{f:AV}{args:List AV}{own:List Own}{P:Prop}{L:List (List AV)}{l:List Own}[h:NS M f args own P L]:NS M f args (l++own) P L where
 ok:=λhp ro R B W S H=>aw (h.ok hp ro (l++R) B W S (H.hX kH)) λr S' q=>q.hX (List.Perm.cons _ kH.symm)
class LD (L:List (List AV))(i:Int)(P:outParam Prop)(x:outParam AV):Prop where
 ok:P->∃j:Nat,i=j/\L[j]?=some [x]
class G7 (own:List Own)(v:AV)(i:Int)(P:outParam Prop)(x:outParam AV):Prop where
 ok:P->∃L,Own.sl v 1 L∈own/\∃j:Nat,i=j/\L[j]?=some [x]
instance G7.tl {o own v x}{i:Int}{P:Prop}[c:G7 own v i P x]:G7 (o::own) v i P x where
 ok:=λhp=>let⟨L,h1,h2⟩:=c.ok hp;⟨L,List.mem_cons_of_mem _ h1,h2⟩
instance G7.ap {l own v x}{i:Int}{P:Prop}[c:G7 own v i P x]:G7 (l++own) v i P x where
 ok:=λhp=>let⟨L,h1,h2⟩:=c.ok hp;⟨L,List.mem_append_right _ h1,h2⟩
instance G7.hd {own v x L}{i:Int}{P:Prop}[c:LD L i P x]:G7 (.sl v 1 L::own) v i P x where
 ok:=λhp=>⟨L,List.Mem.head _,c.ok hp⟩
class JS (M:cQ)(ty u:Nat):Prop where
 ok:∀v,iO M.P ty true true (some Ni) (.iface u v)=some (.dD [.iface u v,B true])
class wy (M:cQ)(ty u:Nat):Prop where
 ok:∀v,iO M.P ty true true (some Ni) (.iface u v)=some (.dD [Ni,B false])
class cH (f:Nat):Prop
class Mn (n:Nat)(l:List Nat):Prop
instance z10 {n:Nat}{l}:Mn n (n::l) where
instance z11 {n m:Nat}{l}[Mn n l]:Mn n (m::l) where
class aU:Prop
class m9 (M:cQ)(t:Nat)(name:String)(f:outParam Nat):Prop where
 ok:∀v,methodOf M.P t v name=some (f,v)
class dH:Prop
class LF:Prop
def yq (a b:Int):Int:=((a.toNat&&&b.toNat:Nat):Int)
def nb (a b:Int):Int:=((a.toNat|||b.toNat:Nat):Int)
inductive Zx (M:cQ):Bool->AC->List Kf->List Own->List aB->gn->Prop
 |rc1 {v k K own ro Φ}(h:Zx M false (k v) K own ro Φ):Zx M false (.ret .ret [v]) (.call k::K) own ro Φ
 |rc0 {k K own ro Φ}(h:Zx M false (k (.dD [])) K own ro Φ):Zx M false (.ret .ret []) (.call k::K) own ro Φ
 |rc2 {v w r k K own ro Φ}(h:Zx M false (k (.dD (v::w::r))) K own ro Φ):Zx M false (.ret .ret (v::w::r)) (.call k::K) own ro Φ
 |rbn {vs id k outs K own ro Φ}(h:Zx M false (k vs) K own ro Φ):Zx M false (.ret .normal vs) (.bind id k outs::K) own ro Φ
 |rbe {vs}{i:Nat}{k outs K own ro Φ}(h:Zx M false (k vs) K own ro Φ):Zx M false (.ret (.exit i) vs) (.bind (some i) k outs::K) own ro Φ
 |rbx {vs}{i j:Nat}{k outs K own ro Φ}(e:Nat.beq j i=false)(h:Zx M false (.ret (.exit i) (outs vs)) K own ro Φ):Zx M false (.ret (.exit i) vs) (.bind (some j) k outs::K) own ro Φ
 |rby {vs}{i:Nat}{k outs K own ro Φ}(h:Zx M false (.ret (.exit i) (outs vs)) K own ro Φ):Zx M false (.ret (.exit i) vs) (.bind none k outs::K) own ro Φ
 |rbr {vs id k outs K own ro Φ}(h:Zx M false (.ret .ret (outs vs)) K own ro Φ):Zx M false (.ret .ret vs) (.bind id k outs::K) own ro Φ
 |rbg {vs}{l:Nat}{id k outs K own ro Φ}(h:Zx M false (.ret (.goto l) (outs vs)) K own ro Φ):Zx M false (.ret (.goto l) vs) (.bind id k outs::K) own ro Φ
 |rfn {vs k K own ro Φ}(h:Zx M false (k vs) K own ro Φ):Zx M false (.ret .normal vs) (.fin k::K) own ro Φ
 |rfr {vs k K own ro Φ}(h:Zx M false (k vs) K own ro Φ):Zx M false (.ret .ret vs) (.fin k::K) own ro Φ
 |Qj [aU]{vs body outs K own ro Φ}(h:Zx M false (body vs) (.loop body outs::K) own ro Φ):Zx M false (.ret .normal vs) (.loop body outs::K) own ro Φ
 |rle {vs}{i:Nat}{body outs K own ro Φ}(h:Zx M false (.ret (.exit i) (outs vs)) K own ro Φ):Zx M false (.ret (.exit i) vs) (.loop body outs::K) own ro Φ
 |rlr {vs body outs K own ro Φ}(h:Zx M false (.ret .ret (outs vs)) K own ro Φ):Zx M false (.ret .ret vs) (.loop body outs::K) own ro Φ
 |rrn {p:Nat}{t kk outs vs K own ab ro Φ}(h1:Le own p t ab)(h:Zx M false (M6 t kk outs) K ab ro Φ):Zx M false (.ret .normal vs) (.DP p kk outs::K) own ro Φ
 |ryn {p m:Nat}{b vs k K own ab ro Φ}(h1:Uo own p (.loop .busy none m b) (.loop .ready none m b) ab)(h:Zx M false (k (B true)) K ab ro Φ):Zx M false (.ret .normal vs) (.yd p k::K) own ro Φ
 |rye {p m i:Nat}{b vs k K own ab ro Φ}(h1:Uo own p (.loop .busy none m b) (.loop .done (some (.exit i)) m b) ab)(h:Zx M false (k (B false)) K ab ro Φ):Zx M false (.ret (.exit i) vs) (.yd p k::K) own ro Φ
 |ryr {p m:Nat}{b vs k K own ab ro Φ}(h1:Uo own p (.loop .busy none m b) (.loop .done (some .ret) m b) ab)(h:Zx M false (k (B false)) K ab ro Φ):Zx M false (.ret .ret vs) (.yd p k::K) own ro Φ
 |leaf {t vs v_ own ro Φ}(ha:vX vs v_)(h:bL (Φ t v_ own ro)):Zx M false (.ret t vs) [] own ro Φ
 |bind {m id k outs K own ro Φ}(h:Zx M false m (.bind id k outs::K) own ro Φ):Zx M false (.bind m id k outs) K own ro Φ
 |fin {m k K own ro Φ}(h:Zx M false m (.fin k::K) own ro Φ):Zx M false (.fin m k) K own ro Φ
 |loop [aU]{init body outs K own ro Φ}(h:Zx M false (body init) (.loop body outs::K) own ro Φ):Zx M false (.loop init body outs) K own ro Φ
 |DP {n:Nat}{f fa fc body kk outs K own ro Φ}(h:∀p:Nat,Zx M false (.call (.fn f fa fc) [.yd p] λv=>.ret .normal [v]) (.DP p kk outs::K) (.obj p (.loop .ready none n body)::own) ro Φ):Zx M false (.DP n (.fn f fa fc) body kk outs) K own ro Φ
 |start {p m:Nat}{b k K own ab ro Φ}(h1:Uo own p (.loop .ready none m b) (.loop .busy none m b) ab)(h:Zx M false k K ab ro Φ):Zx M false (.start (.yd p) k) K own ro Φ
 |W2 {x y K own ro Φ}(h:Zx M false x K own ro Φ):Zx M false (.ite (B true) x y) K own ro Φ
 |W3 {x y K own ro Φ}(h:Zx M false y K own ro Φ):Zx M false (.ite (B false) x y) K own ro Φ
 |W4 {p:Prop}[d:Decidable p]{x y K own ro Φ}(h1:p->Zx M false x K own ro Φ)(h2:¬p->Zx M false y K own ro Φ):Zx M false (.ite (B (decide p)) x y) K own ro Φ
 |W5 {c:Bool}{x y K own ro Φ}(h1:c=true->Zx M false x K own ro Φ)(h2:c=false->Zx M false y K own ro Φ):Zx M false (.ite (B c) x y) K own ro Φ
 |W6 {g:Bool}{o k K own ro Φ}(h:Zx M false (.op o k) K own ro Φ):Zx M false (.hZ (B g) g o k) K own ro Φ
 |W7 {o k K own ro Φ}(h:Zx M false (k uv) K own ro Φ):Zx M false (.hZ (B false) true o k) K own ro Φ
 |W8 {o k K own ro Φ}(h:Zx M false (k uv) K own ro Φ):Zx M false (.hZ (B true) false o k) K own ro Φ
 |W9 {g:Bool}{o k K own ro Φ}(h:Zx M false (k uv) K own ro Φ):Zx M false (.hZ uv g o k) K own ro Φ
 |W_ {p:Prop}[d:Decidable p]{g:Bool}{o k K own ro Φ}(h1:p->Zx M false (.hZ (B true) g o k) K own ro Φ)(h2:¬p->Zx M false (.hZ (B false) g o k) K own ro Φ):Zx M false (.hZ (B (decide p)) g o k) K own ro Φ
 |Xa {b g:Bool}{o k K own ro Φ}(h1:b=true->Zx M false (.hZ (B true) g o k) K own ro Φ)(h2:b=false->Zx M false (.hZ (B false) g o k) K own ro Φ):Zx M false (.hZ (B b) g o k) K own ro Φ
 |G8 {g:Bool}{f l k K own ro Φ}(h:Zx M false (.call f l k) K own ro Φ):Zx M false (.dO (B g) g f l k) K own ro Φ
 |Xb {f l k K own ro Φ}(h:Zx M false (k uv) K own ro Φ):Zx M false (.dO (B false) true f l k) K own ro Φ
 |Xd {f l k K own ro Φ}(h:Zx M false (k uv) K own ro Φ):Zx M false (.dO (B true) false f l k) K own ro Φ
 |Xe {g:Bool}{f l k K own ro Φ}(h:Zx M false (k uv) K own ro Φ):Zx M false (.dO uv g f l k) K own ro Φ
 |Xf {b g:Bool}{f l k K own ro Φ}(h1:b=true->Zx M false (.dO (B true) g f l k) K own ro Φ)(h2:b=false->Zx M false (.dO (B false) g f l k) K own ro Φ):Zx M false (.dO (B b) g f l k) K own ro Φ
 |Xg {g:Bool}{o v k K own ro Φ}(h:Zx M false (.lH o v k) K own ro Φ):Zx M false (.Bm (B g) g o v k) K own ro Φ
 |Xh {o v k K own ro Φ}(h:Zx M false k K own ro Φ):Zx M false (.Bm (B false) true o v k) K own ro Φ
 |Xi {o v k K own ro Φ}(h:Zx M false k K own ro Φ):Zx M false (.Bm (B true) false o v k) K own ro Φ
 |Xj {g:Bool}{o v k K own ro Φ}(h:Zx M false k K own ro Φ):Zx M false (.Bm uv g o v k) K own ro Φ
 |Xk {p o:Nat}{c v w k K own ro Φ}(h1:Lk own ro p c)(h2:Fp c o w)(hb:bL (w.beq v=true))(h:Zx M false k K own ro Φ):Zx M false (.lH (.load 1 false (.ptr p o)) v k) K own ro Φ
 |Xl {p o n:Nat}{c l v k K own ro Φ}(h1:Lk own ro p c)(h2:Cut o n c l)(hb:bL (AV.beq (.agg l) v=true))(h:Zx M false k K own ro Φ):Zx M false (.lH (.load n true (.ptr p o)) v k) K own ro Φ
 |mvT {k K own ro Φ}(h:Zx M false (k (B true)) K own ro Φ):Zx M false (.op (.mv (B true)) k) K own ro Φ
 |mvF {k K own ro Φ}(h:Zx M false (k (B false)) K own ro Φ):Zx M false (.op (.mv (B false)) k) K own ro Φ
 |mvD {p:Prop}[d:Decidable p]{k K own ro Φ}(h1:p->Zx M false (k (B true)) K own ro Φ)(h2:¬p->Zx M false (k (B false)) K own ro Φ):Zx M false (.op (.mv (B (decide p))) k) K own ro Φ
 |mvB {c:Bool}{k K own ro Φ}(h1:c=true->Zx M false (k (B true)) K own ro Φ)(h2:c=false->Zx M false (k (B false)) K own ro Φ):Zx M false (.op (.mv (B c)) k) K own ro Φ
 |mv {x x' k K own ro Φ}(ha:vW x x')(h:Zx M false (k x') K own ro Φ):Zx M false (.op (.mv x) k) K own ro Φ
 |not {b:Bool}{k K own ro Φ}(h:Zx M false (.op (.mv (B (!b))) k) K own ro Φ):Zx M false (.op (.un .not (B b)) k) K own ro Φ
 |pkT {x y k K own ro Φ}(h:Zx M false (k x) K own ro Φ):Zx M false (.op (.pick (B true) x y) k) K own ro Φ
 |pkF {x y k K own ro Φ}(h:Zx M false (k y) K own ro Φ):Zx M false (.op (.pick (B false) x y) k) K own ro Φ
 |pkD {p:Prop}[d:Decidable p]{x y k K own ro Φ}(h1:p->Zx M false (k x) K own ro Φ)(h2:¬p->Zx M false (k y) K own ro Φ):Zx M false (.op (.pick (B (decide p)) x y) k) K own ro Φ
 |pkB {c:Bool}{x y k K own ro Φ}(h1:c=true->Zx M false (k x) K own ro Φ)(h2:c=false->Zx M false (k y) K own ro Φ):Zx M false (.op (.pick (B c) x y) k) K own ro Φ
 |ex {i:Nat}{v l k K own ro Φ}(h1:Fp l i v)(h:Zx M false (k v) K own ro Φ):Zx M false (.op (.extract i (.dD l)) k) K own ro Φ
 |RM {o n:Nat}{l c k K own ro Φ}(h1:Cut o n c l)(h:Zx M false (k (.agg l)) K own ro Φ):Zx M false (.op (.part o n true (.agg c)) k) K own ro Φ
 |RN {o n:Nat}{v c k K own ro Φ}(h1:Fp c o v)(h:Zx M false (k v) K own ro Φ):Zx M false (.op (.part o n false (.agg c)) k) K own ro Φ
 |bld {z c c' ps k K own ro Φ}(h1:fo z ps=some c)(ha:vX c c')(h:Zx M false (k (.agg c')) K own ro Φ):Zx M false (.op (.build z ps) k) K own ro Φ
 |fad {p o f:Nat}{k K own ro Φ}(h:Zx M false (k (.ptr p (o+f))) K own ro Φ):Zx M false (.op (.lG f (.ptr p o)) k) K own ro Φ
 |nck {x k K own ro Φ}(e:live x=true)(h:Zx M false (k x) K own ro Φ):Zx M false (.op (.pc x) k) K own ro Φ
 |lss {κ}{a b:Int}{k K own ro Φ}(h:Zx M false (.op (.mv (B (decide (a<b)))) k) K own ro Φ):Zx M false (.op (.bin .lss (Z κ a) (Z κ b)) k) K own ro Φ
 |leq {κ}{a b:Int}{k K own ro Φ}(h:Zx M false (.op (.mv (B (decide (a<=b)))) k) K own ro Φ):Zx M false (.op (.bin .leq (Z κ a) (Z κ b)) k) K own ro Φ
 |gtr {κ}{a b:Int}{k K own ro Φ}(h:Zx M false (.op (.mv (B (decide (b<a)))) k) K own ro Φ):Zx M false (.op (.bin .gtr (Z κ a) (Z κ b)) k) K own ro Φ
 |geq {κ}{a b:Int}{k K own ro Φ}(h:Zx M false (.op (.mv (B (decide (b<=a)))) k) K own ro Φ):Zx M false (.op (.bin .geq (Z κ a) (Z κ b)) k) K own ro Φ
 |eql {κ}{a b:Int}{k K own ro Φ}(h:Zx M false (.op (.mv (B (decide (a=b)))) k) K own ro Φ):Zx M false (.op (.bin .eql (Z κ a) (Z κ b)) k) K own ro Φ
 |neq {κ}{a b:Int}{k K own ro Φ}(h:Zx M false (.op (.mv (B (decide (a≠b)))) k) K own ro Φ):Zx M false (.op (.bin .neq (Z κ a) (Z κ b)) k) K own ro Φ
 |eqs {a b k K own ro Φ}(h:Zx M false (.op (.mv (B (a.toList==b.toList))) k) K own ro Φ):Zx M false (.op (.bin .eql (.sc (.string a)) (.sc (.string b))) k) K own ro Φ
 |Bk {len es:Nat}{ag:Bool}{x i v v' k K own ro Φ}(e:sm len es ag x i=some v)(ha:vW v v')(h:Zx M false (k v') K own ro Φ):Zx M false (.op (.Bk len es ag x i) k) K own ro Φ
 |add {a b:Int}{k K own ro Φ}(e:bL (-9223372036854775808<=a+b/\a+b<=9223372036854775807))(h:Zx M false (k (I (a+b))) K own ro Φ):Zx M false (.op (.bin .add (I a) (I b)) k) K own ro Φ
 |sub {a b:Int}{k K own ro Φ}(e:bL (-9223372036854775808<=a-b/\a-b<=9223372036854775807))(h:Zx M false (k (I (a-b))) K own ro Φ):Zx M false (.op (.bin .sub (I a) (I b)) k) K own ro Φ
 |mul {a b:Int}{k K own ro Φ}(e:bL (-9223372036854775808<=a*b/\a*b<=9223372036854775807))(h:Zx M false (k (I (a*b))) K own ro Φ):Zx M false (.op (.bin .mul (I a) (I b)) k) K own ro Φ
 |Xm {a b:Int}{k K own ro Φ}(h:Zx M false (k (U ((a+b)%18446744073709551616))) K own ro Φ):Zx M false (.op (.bin .add (U a) (U b)) k) K own ro Φ
 |Xn {a b:Int}{k K own ro Φ}(h:Zx M false (k (U ((a-b)%18446744073709551616))) K own ro Φ):Zx M false (.op (.bin .sub (U a) (U b)) k) K own ro Φ
 |shr {κ Qk}{a:Int}{s:Nat}{k K own ro Φ}(e:Nat.ble s κ.bits=true)(h:Zx M false (k (Z κ (a/2^s))) K own ro Φ):Zx M false (.op (.bin .shr (Z κ a) (Z Qk (Int.ofNat s))) k) K own ro Φ
 |shl {κ}{a:Int}{s:Nat}{k K own ro Φ}(e:Nat.ble s 64=true)(h:Zx M false (k (U (a*2^s%18446744073709551616))) K own ro Φ):Zx M false (.op (.bin .shl (U a) (Z κ (Int.ofNat s))) k) K own ro Φ
 |G9 {a:Int}{k K own ro Φ}(e:bL (0<=a/\a<9223372036854775808))(h:Zx M false (k (I (a%65536))) K own ro Φ):Zx M false (.op (.bin .and (I a) (I 65535)) k) K own ro Φ
 |G_ {a:Int}{k K own ro Φ}(e:bL (0<=a/\a<18446744073709551616))(h:Zx M false (k (U (a%65536))) K own ro Φ):Zx M false (.op (.bin .and (U a) (U 65535)) k) K own ro Φ
 |M7 {a:Int}{k K own ro Φ}(e:bL (0<=a/\a<9223372036854775808))(h:Zx M false (k (I (a%256))) K own ro Φ):Zx M false (.op (.bin .and (I a) (I 255)) k) K own ro Φ
 |M8 {a:Int}{k K own ro Φ}(e:bL (0<=a/\a<18446744073709551616))(h:Zx M false (k (U (a%256))) K own ro Φ):Zx M false (.op (.bin .and (U a) (U 255)) k) K own ro Φ
 |wz {a:Int}{k K own ro Φ}(e:bL (0<=a/\a<9223372036854775808))(h:Zx M false (k (I (a%4294967296))) K own ro Φ):Zx M false (.op (.bin .and (I a) (I 4294967295)) k) K own ro Φ
 |wA {a:Int}{k K own ro Φ}(e:bL (0<=a/\a<18446744073709551616))(h:Zx M false (k (U (a%4294967296))) K own ro Φ):Zx M false (.op (.bin .and (U a) (U 4294967295)) k) K own ro Φ
 |pK {a:Int}{k K own ro Φ}(e:bL (0<=a/\a<9223372036854775808))(h:Zx M false (k (I (a%281474976710656))) K own ro Φ):Zx M false (.op (.bin .and (I a) (I 281474976710655)) k) K own ro Φ
 |pL {a:Int}{k K own ro Φ}(e:bL (0<=a/\a<18446744073709551616))(h:Zx M false (k (U (a%281474976710656))) K own ro Φ):Zx M false (.op (.bin .and (U a) (U 281474976710655)) k) K own ro Φ
 |and {a b:Int}{k K own ro Φ}(e:bL ((0<=a/\a<18446744073709551616)/\0<=b/\b<18446744073709551616))(h:Zx M false (k (U (yq a b))) K own ro Φ):Zx M false (.op (.bin .and (U a) (U b)) k) K own ro Φ
 |Xo {a b:Int}{k K own ro Φ}(e:bL ((0<=a/\a<9223372036854775808)/\0<=b/\b<9223372036854775808))(h:Zx M false (k (I (yq a b))) K own ro Φ):Zx M false (.op (.bin .and (I a) (I b)) k) K own ro Φ
 |or {a b:Int}{k K own ro Φ}(e:bL ((0<=a/\a<18446744073709551616)/\0<=b/\b<18446744073709551616))(h:Zx M false (k (U (nb a b))) K own ro Φ):Zx M false (.op (.bin .or (U a) (U b)) k) K own ro Φ
 |Xp {a:Int}{k K own ro Φ}(e:bL (0<=a/\a<18446744073709551616))(h:Zx M false (k (U (a%9223372036854775808))) K own ro Φ):Zx M false (.op (.bin .andNot (U a) (U 9223372036854775808)) k) K own ro Φ
 |rem {κ}{a b:Int}{k K own ro Φ}(e:bL (0<=a/\0<b))(h:Zx M false (k (Z κ (a%b))) K own ro Φ):Zx M false (.op (.bin .rem (Z κ a) (Z κ b)) k) K own ro Φ
 |M9 {a:Int}{k K own ro Φ}(e:bL (0<=a/\a<18446744073709551616))(h:Zx M false (k (U (a-a%65536))) K own ro Φ):Zx M false (.op (.bin .andNot (U a) (U 65535)) k) K own ro Φ
 |Xq {a b:Int}{k K own ro Φ}(h:Zx M false (k (Z .u32 ((a+b)%4294967296))) K own ro Φ):Zx M false (.op (.bin .add (Z .u32 a) (Z .u32 b)) k) K own ro Φ
 |Xr {a b:Int}{k K own ro Φ}(h:Zx M false (k (Z .u32 ((a-b)%4294967296))) K own ro Φ):Zx M false (.op (.bin .sub (Z .u32 a) (Z .u32 b)) k) K own ro Φ
 |quo {a b:Int}{k K own ro Φ}(e:bL (0<=a/\0<b/\a<18446744073709551616))(h:Zx M false (k (U (a/b))) K own ro Φ):Zx M false (.op (.bin .quo (U a) (U b)) k) K own ro Φ
 |min2 {κ}{a b:Int}{k K own ro Φ}(h:Zx M false (k (Z κ (min a b))) K own ro Φ):Zx M false (.op (.pg false [Z κ a,Z κ b]) k) K own ro Φ
 |pad {len es:Nat}{x i v k K own ro Φ}(e:nk len es x i=some v)(h:Zx M false (k v) K own ro Φ):Zx M false (.op (.zf len es x i) k) K own ro Φ
 |Ql {id o n c es:Nat}{i v k K own ro Φ}(e:fZ es (.sl id o n c) i=some v)(h:Zx M false (k v) K own ro Φ):Zx M false (.op (.da es (.sl id o n c) i) k) K own ro Φ
 |asl {len es:Nat}{x v a b c k K own ro Φ}(e:kx len es x a b c=some v)(h:Zx M false (k v) K own ro Φ):Zx M false (.op (.o_ len es x a b c) k) K own ro Φ
 |Xs {v x}{i:Int}{own}{P:Prop}[c:G7 own v i P x]{k K ro Φ}(hp:bL P)(h:Zx M false (k x) K own ro Φ):Zx M false (.op (.da 1 v (I i)) λp=>.op (.load 1 false p) k) K own ro Φ
 |ldS {v x}{j:Nat}{L k K own ro Φ}(h1:Ls own v 1 L)(h2:Ek L j [x])(h:Zx M false (k x) K own ro Φ):Zx M false (.op (.da 1 v (I (Int.ofNat j))) λp=>.op (.load 1 false p) k) K own ro Φ
 |apN {bytes id o n cap:Nat}{c l k K own ro Φ}(h1:Lo own id c)(h2:Cut o n c l)(e:bL (l.length*bytes<=140737488355328/\l.length<=9223372036854775807))(h:∀v:AV,Zx M false (k v) K (.sl v 1 (l.map λa=>[a])::own) ro Φ):Zx M false (.op (.append 1 bytes Ns (.sl id o n cap)) k) K own ro Φ
 |ap1 {v:AV}{bytes id o n cap:Nat}{c l:List AV}{L L':List (List AV)}{ab:AV->List Own}{k:AV->AC}{K:List Kf}{own:List Own}{ro:List aB}{Φ:gn}(h0:Ls own v 1 L)(h1:Lo own id c)(h2:Cut o n c l)(hl:L++(l.map λa=>[a])=L')(e:bL ((L.length+l.length)*bytes<=140737488355328/\L.length+l.length<=9223372036854775807))(h3:∀v',Us own v 1 L v' L' (ab v'))(h:∀v':AV,Zx M false (k v') K (ab v') ro Φ):Zx M false (.op (.append 1 bytes v (.sl id o n cap)) k) K own ro Φ
 |Xt {w}{bytes:Nat}{N k K own ro Φ}(h1:Ls own w 1 N)(e:bL (N.length*bytes<=140737488355328/\N.length<=9223372036854775807))(h:∀v':AV,odd v'=false->v'.cells=[v']->AV.beq v' v'=true->Zx M false (k v') K (.sl v' 1 N::own) ro Φ):Zx M false (.op (.append 1 bytes Ns w) k) K own ro Φ
 |apW {v w:AV}{bytes:Nat}{L N L':List (List AV)}{ab:AV->List Own}{k:AV->AC}{K:List Kf}{own:List Own}{ro:List aB}{Φ:gn}(h0:Ls own v 1 L)(h1:Ls own w 1 N)(hl:L++N=L')(e:bL ((L.length+N.length)*bytes<=140737488355328/\L.length+N.length<=9223372036854775807))(h3:∀v',Us own v 1 L v' L' (ab v'))(h:∀v':AV,odd v'=false->v'.cells=[v']->AV.beq v' v'=true->Zx M false (k v') K (ab v') ro Φ):Zx M false (.op (.append 1 bytes v w) k) K own ro Φ
 |Xu {v:AV}{es a:Nat}{L L':List (List AV)}{ab:AV->List Own}{k:AV->AC}{K:List Kf}{own:List Own}{ro:List aB}{Φ:gn}(h0:Ls own v es L)(ha:Nat.ble a L.length=true)(hl:L.drop a=L')(h3:∀v',Us own v es L v' L' (ab v'))(h:∀v':AV,odd v'=false->v'.cells=[v']->AV.beq v' v'=true->Zx M false (k v') K (ab v') ro Φ):Zx M false (.op (.jM es v (some (I (Int.ofNat a))) none none) k) K own ro Φ
 |RO {v:AV}{es a:Nat}{L L':List (List AV)}{ab:AV->List Own}{k:AV->AC}{K:List Kf}{own:List Own}{ro:List aB}{Φ:gn}(h0:Ls own v es L)(ha:Nat.ble a L.length=true)(hl:L.take a=L')(h3:∀v',Us own v es L v' L' (ab v'))(h:∀v':AV,odd v'=false->v'.cells=[v']->AV.beq v' v'=true->Zx M false (k v') K (ab v') ro Φ):Zx M false (.op (.jM es v none (some (I (Int.ofNat a))) (some (I (Int.ofNat a)))) k) K own ro Φ
 |Xv {ty u:Nat}[c:JS M ty u]{v k K own ro Φ}(h:Zx M false (k (.dD [.iface u v,B true])) K own ro Φ):Zx M false (.op (.mf ty true true (some Ni) (.iface u v)) k) K own ro Φ
 |Xw {ty u:Nat}[c:wy M ty u]{v k K own ro Φ}(h:Zx M false (k (.dD [Ni,B false])) K own ro Φ):Zx M false (.op (.mf ty true true (some Ni) (.iface u v)) k) K own ro Φ
 |mks {es bytes n:Nat}{z c k K own ro Φ}(e:(Nat.ble (bytes*n) 140737488355328&&Nat.beq (bD z) es)=true)(e2:Nat.ble n 1000000=true)(hc:vX (bh z n) c)(h:∀p:Nat,Zx M false (k (.sl p 0 n n)) K (.obj p (.row c)::own) ro Φ):Zx M false (.op (.gL es bytes z (I (Int.ofNat n)) (I (Int.ofNat n))) k) K own ro Φ
 |lnS {id o n c:Nat}{k K own ro Φ}(h:Zx M false (k (I (Int.ofNat n))) K own ro Φ):Zx M false (.op (.len false (.sl id o n c)) k) K own ro Φ
 |lnO {id o n c s:Nat}{k K own ro Φ}(h:Zx M false (k (I (Int.ofNat n))) K own ro Φ):Zx M false (.op (.len false (.op id o n c s)) k) K own ro Φ
 |lnN {k K own ro Φ}(h:Zx M false (k (I 0)) K own ro Φ):Zx M false (.op (.len false Ns) k) K own ro Φ
 |lnW {v}{es:Nat}{L k K own ro Φ}(h1:Ls own v es L)(h:Zx M false (k (I (Int.ofNat L.length))) K own ro Φ):Zx M false (.op (.len false v) k) K own ro Φ
 |Xx [dH]{n:Nat}{z c c' ps k K own ro Φ}(e:fo (bh z n) ps=some c)(ha:vX c c')(e2:(Nat.beq (bD c) n&&Nat.beq (bD z) 1)=true)(h:∀v:AV,odd v=false->v.cells=[v]->AV.beq v v=true->Zx M false (k v) K (.sl v 1 (c'.map λa=>[a])::own) ro Φ):Zx M false (.op (.gK 1 n z ps) k) K own ro Φ
 |bsl {es n:Nat}{z c c' ps k K own ro Φ}(e:fo (bh z n) ps=some c)(ha:vX c c')(e2:(Nat.beq (bD c) (Nat.mul n es)&&Nat.beq (bD z) es)=true)(h:∀p:Nat,Zx M false (k (.sl p 0 n n)) K (.obj p (.row c')::own) ro Φ):Zx M false (.op (.gK es n z ps) k) K own ro Φ
 |cvI {κ}{a:Int}{k K own ro Φ}(e:bL (-9223372036854775808<=a/\a<=9223372036854775807))(h:Zx M false (k (I a)) K own ro Φ):Zx M false (.op (.conv .i64 (Z κ a)) k) K own ro Φ
 |cvU {κ}{a:Int}{k K own ro Φ}(h:Zx M false (k (U (a%18446744073709551616))) K own ro Φ):Zx M false (.op (.conv .u64 (Z κ a)) k) K own ro Φ
 |cvV {κ}{a:Int}{k K own ro Φ}(h:Zx M false (k (Z .u32 (a%4294967296))) K own ro Φ):Zx M false (.op (.conv .u32 (Z κ a)) k) K own ro Φ
 |Xy {t p o:Nat}{n:Bool}{k K own ro Φ}(e:bL (jo M.P t=1))(h:Zx M false (k (B n)) K own ro Φ):Zx M false (.op (.eq t n (.ptr p o) Np) k) K own ro Φ
 |Xz {t:Nat}{n:Bool}{k K own ro Φ}(e:bL (jo M.P t=1))(h:Zx M false (k (B (!n))) K own ro Φ):Zx M false (.op (.eq t n Np Np) k) K own ro Φ
 |XA {t:Nat}{n:Bool}{f fa fc k K own ro Φ}(e:bL (jo M.P t=4))(h:Zx M false (k (B n)) K own ro Φ):Zx M false (.op (.eq t n (.fn f fa fc) Nf) k) K own ro Φ
 |XB {t:Nat}{n:Bool}{k K own ro Φ}(e:bL (jo M.P t=4))(h:Zx M false (k (B (!n))) K own ro Φ):Zx M false (.op (.eq t n Nf Nf) k) K own ro Φ
 |eqB {t:Nat}{n a b:Bool}{k K own ro Φ}(e:bL (M.P.underlying t=some .bool))(h:Zx M false (.op (.mv (B (if n then !(a==b) else(a==b)))) k) K own ro Φ):Zx M false (.op (.eq t n (B a) (B b)) k) K own ro Φ
 |ld {p o:Nat}{c v k K own ro Φ}(h1:Lk own ro p c)(h2:Fp c o v)(h:Zx M false (k v) K own ro Φ):Zx M false (.op (.load 1 false (.ptr p o)) k) K own ro Φ
 |ldn {p o n:Nat}{c l k K own ro Φ}(h1:Lk own ro p c)(h2:Cut o n c l)(h:Zx M false (k (.agg l)) K own ro Φ):Zx M false (.op (.load n true (.ptr p o)) k) K own ro Φ
 |sta {p o n:Nat}{c c' vs ws k K own ab ro Φ}(ha:vX ws vs)(h0:Lo own p c)(h2:Sr c o vs c')(h1:Up own p c c' ab)(hn:bD vs=n)(h:Zx M false (k uv) K ab ro Φ):Zx M false (.op (.store n (.ptr p o) (.agg ws)) k) K own ro Φ
 |st {p o:Nat}{c c' v w k K own ab ro Φ}(ha:vW w v)(ho:odd v=false)(hc:v.cells=[v])(h0:Lo own p c)(h2:Sr c o [v] c')(h1:Up own p c c' ab)(h:Zx M false (k uv) K ab ro Φ):Zx M false (.op (.store 1 (.ptr p o) w) k) K own ro Φ
 |alloc {c c' k K own ro Φ}(ha:vX c c')(h:∀p:Nat,Zx M false (k (.ptr p 0)) K (.obj p (.row c')::own) ro Φ):Zx M false (.op (.alloc c) k) K own ro Φ
 |XC [LF]{c c' k K own ro Φ}(ha:vX c c')(h:∀p:Nat,Zx M false (k (.ptr p 0)) K own (.pt p 0 c'::ro) Φ):Zx M false (.op (.box (.agg c)) k) K own ro Φ
 |XD [LF]{x w k K own ro Φ}(ha:vW w x)(ho:odd x=false)(hc:x.cells=[x])(h:∀p:Nat,Zx M false (k (.ptr p 0)) K own (.pt p 0 [x]::ro) Φ):Zx M false (.op (.box w) k) K own ro Φ
 |XE {c c' k K own ro Φ}(ha:vX c c')(h:∀p:Nat,Zx M false (k (.ptr p 0)) K (.obj p (.row c')::own) ro Φ):Zx M false (.op (.box (.agg c)) k) K own ro Φ
 |box {x w k K own ro Φ}(ha:vW w x)(ho:odd x=false)(hc:x.cells=[x])(h:∀p:Nat,Zx M false (k (.ptr p 0)) K (.obj p (.row [x])::own) ro Φ):Zx M false (.op (.box w) k) K own ro Φ
 |call {f f' args LG k K own ro Φ}(hf:vW f f')(ha:vX args LG)(h:Zx M true (.call f' LG k) K own ro Φ):Zx M false (.call f args k) K own ro Φ
 |vc {f args}{P:Prop}{v}[c:VC M f args P v]{k K own ro Φ}(hp:bL P)(h:Zx M false (k v) K own ro Φ):Zx M true (.call f args k) K own ro Φ
 |sc {f args}{P:Prop}{v own ab}[c:SC M f args own P v ab]{k K ro Φ}(hp:bL P)(h:Zx M false (k v) K ab ro Φ):Zx M true (.call f args k) K own ro Φ
 |nc {f args}{P:Prop}{Q}[c:NC M f args P Q]{k K own ro Φ}(hp:bL P)(h:∀(p:Nat) (l:List Own),Q p l->Zx M false (k (.ptr p 0)) K (l++own) ro Φ):Zx M true (.call f args k) K own ro Φ
 |mvc {t f:Nat}{name:String}[c0:m9 M t name f]{v r args}{P:Prop}[c:VC M (.fn (.func f) [] []) (v::args) P r]{k K own ro Φ}(hp:bL P)(h:Zx M false (k r) K own ro Φ):Zx M true (.call (.fn (.method name) [] []) (.iface t v::args) k) K own ro Φ
 |msc {t f:Nat}{name:String}[c0:m9 M t name f]{v r args}{P:Prop}{own ab}[c:SC M (.fn (.func f) [] []) (v::args) own P r ab]{k K ro Φ}(hp:bL P)(h:Zx M false (k r) K ab ro Φ):Zx M true (.call (.fn (.method name) [] []) (.iface t v::args) k) K own ro Φ
 |ns {f args}{P:Prop}{L own}[c:NS M f args own P L]{k K ro Φ}(hp:bL P)(h:∀v:AV,odd v=false->v.cells=[v]->AV.beq v v=true->Zx M false (k v) K (.sl v 1 L::own) ro Φ):Zx M true (.call f args k) K own ro Φ
 |inl {f:Nat}[cH f]{fa args fc l b k K own ro Φ}(hk:M.kn.v f (fa++(args++fc))=none)(hb:M.iP f=some b)(hl:vX (fa++(args++fc)) l)(h:Zx M false (b l) (.call k::K) own ro Φ):Zx M true (.call (.fn (.func f) fa fc) args k) K own ro Φ
 |ydc {p m:Nat}{args b k K own ro Φ}(h1:Uo own p (.loop .ready none m b) (.loop .ready none m b) own)(hl:bD args=m)(h:Zx M false (b (.yd p::args)) (.yd p k::K) own ro Φ):Zx M true (.call (.yd p) args k) K own ro Φ
 |mth {t f:Nat}{name:String}[c:m9 M t name f][cH f]{v args l b k K own ro Φ}(hk:M.kn.v f (v::args)=none)(hb:M.iP f=some b)(hl:vX (v::args) l)(h:Zx M false (b l) (.call k::K) own ro Φ):Zx M true (.call (.fn (.method name) [] []) (.iface t v::args) k) K own ro Φ
 |z {n:Bool}{x K own ro Φ}(h:bL (Vx M x K own ro Φ)):Zx M n x K own ro Φ
section
variable{M:cQ}{own ab:List Own}{ro:List aB}{Φ:gn}{K:List Kf}{k:AV->AC}{S:AH}{B0:AH}{W:List Nat}{Q:ga}
theorem Fp.ok {c}{o:Nat}{v}(h:Fp c o v):zi c o=some v:=by rw[og];exact h.eq
theorem Ha {P}{t p o:Nat}(e:jo P t=1):zh P t (.ptr p o) Np=some false:=by unfold zh;rw[e];rfl
theorem M_ {P}{t:Nat}(e:jo P t=1):zh P t Np Np=some true:=by unfold zh;rw[e];rfl
theorem Na {P}{t:Nat}{f a b}(e:jo P t=4):zh P t (.fn f a b) Nf=some false:=by unfold zh;rw[e];rfl
theorem Nb {P}{t:Nat}(e:jo P t=4):zh P t Nf Nf=some true:=by unfold zh;rw[e];rfl
theorem yr {t:Nat}{n b:Bool}{x y}(e:zh M.P t x y=some b)(h:wp M (k (B (if n then !b else b))) S Q):wp M (.op (.eq t n x y) k) S Q:=by
 refine ae (v:=B (if n then !b else b)) (S1:=S) ?_ h;show eN (Ff M.P t n x y) S=_;unfold Ff;rw[e];cases n<;>rfl
theorem Lk.at {p:Nat}{c}(h:Lk own ro p c)(H:Cx B0 W S own ro):∃d,S.cells? p=some d/\c.length<=d.length/\d.take c.length=c:=h.cells H.oh H.rh
theorem Lk.nth {p o:Nat}{c v}(h:Lk own ro p c)(h2:Fp c o v)(H:Cx B0 W S own ro):∃d,S.cells? p=some d/\d[o]?=some v:=by
 obtain⟨d,h1,h3,h4⟩:=h.at H;refine⟨d,h1,?_⟩;have:=h2.eq;rw[<-h4,List.getElem?_take] at this;split at this;.exact this
 .cases this
theorem Lk.cut {p o n:Nat}{c l}(h:Lk own ro p c)(h2:Cut o n c l)(H:Cx B0 W S own ro):∃d,S.cells? p=some d/\o+n<=d.length/\(d.drop o).take n=l:=by obtain⟨d,h1,h3,h4⟩:=h.at H;obtain⟨q1,q2⟩:=h2.eq;refine⟨d,h1,am,?_⟩;rw[<-q1,<-h4,List.drop_take,List.take_take,Nat.min_eq_left am]
theorem RP {id off:Nat}{c v}(h1:S.cells? id=some c)(h2:c[off]?=some v):cR M.P S (.load 1 false (.ptr id off))=some v:=by show(match S.cells? id with|some c=>fE false c off 1|none=>none)=_;rw[h1];exact mz h2
theorem RQ {id off n:Nat}{c}(h1:S.cells? id=some c)(h2:off+n<=c.length):cR M.P S (.load n true (.ptr id off))=some (.agg ((c.drop off).take n)):=by show(match S.cells? id with|some c=>fE true c off n|none=>none)=_;rw[h1];exact mA h2
theorem w9 (H:Cx B0 W S own ro){p o n:Nat}{c c' vs v}(hv:v.cells=vs)(ho:odd v=false)(h2:Sr c o vs c')(h1:Up own p c c' ab)(hn:vs.length=n)(h:∀S1,Cx B0 W S1 ab ro->wp M (k uv) S1 Q):wp M (.op (.store n (.ptr p o) v) k) S Q:=by obtain⟨i,hi,rfl⟩:=h1.at;obtain⟨q1,q2⟩:=h2.eq;refine gl H i hi ho (by rw[hv];exact hn) am λS1 H1=>?_;rw[hv,q1] at H1;exact h S1 H1
theorem B2 {κ Qk}{a:Int}{s:Nat}(e:Nat.ble s κ.bits=true):evalOp M.P (.bin .shr (Z κ a) (Z Qk (Int.ofNat s))) S=some (Z κ (a/2^s),S):=by
 show eN (FA (Z κ a) (Z Qk (Int.ofNat s))) S=_;have h0:DS (Int.ofNat s) 0=false:=by rw[f_];simp
 have h1:min (Int.ofNat s).toNat κ.bits=s:=by have:=Nat.le_of_ble_eq_true e;simp;omega
 unfold FA;simp only[h0];rw[h1,Int.fdiv_eq_ediv_of_nonneg _ (by exact Int.le_of_lt (Int.pow_pos am))];rfl
theorem B3 {κ}{a:Int}{s:Nat}(e:Nat.ble s 64=true):evalOp M.P (.bin .shl (U a) (Z κ (Int.ofNat s))) S=some (U (a*2^s%18446744073709551616),S):=by
 show eN (Fz (U a) (Z κ (Int.ofNat s))) S=_;have h0:DS (Int.ofNat s) 0=false:=by rw[f_];simp
 have h1:min (Int.ofNat s).toNat IntKind.u64.bits=s:=by have:=Nat.le_of_ble_eq_true e;show min s 64=s;omega
 unfold Fz;simp only[h0];rw[h1,bw,IntKind.wrap_u64];rfl
theorem iV {a:Int}(h0:0<=a)(h1:a<18446744073709551616):(BitVec.ofInt IntKind.u64.bits a).toNat=a.toNat:=by obtain⟨n,rfl⟩:∃n:Nat,a=n:=⟨a.toNat,am⟩;show(BitVec.ofInt 64 (n:Int)).toNat=n;rw[BitVec.ofInt_natCast,BitVec.toNat_ofNat];exact Nat.mod_eq_of_lt am
theorem pM {a b:Int}(h1:0<=a)(h2:a<18446744073709551616)(h3:0<=b)(h4:b<18446744073709551616):evalOp M.P (.bin .and (U a) (U b)) S=some (U (yq a b),S):=by show eN (Fy (U a) (U b)) S=_;unfold Fy;simp only[dx,asInt,lI,aY];have Z9:a.toNat&&&b.toNat<18446744073709551616:=Nat.lt_of_le_of_lt Nat.and_le_left am;rw[BitVec.toNat_and,iV h1 h2,iV h3 h4,bw,IntKind.wrap_u64];show _=some (U ((a.toNat&&&b.toNat:Nat):Int),S);rw[Int.emod_eq_of_lt am am];rfl
theorem uZ {a b:Int}(h1:0<=a)(h2:a<9223372036854775808)(h3:0<=b)(h4:b<9223372036854775808):evalOp M.P (.bin .and (I a) (I b)) S=some (I (yq a b),S):=by show eN (Fy (I a) (I b)) S=_;unfold Fy;simp only[dx,asInt,lI,aY];have Z9:a.toNat&&&b.toNat<=a.toNat:=Nat.and_le_left;have e1:(BitVec.ofInt IntKind.i64.bits a).toNat=a.toNat:=iV h1 am;have e2:(BitVec.ofInt IntKind.i64.bits b).toNat=b.toNat:=iV h3 am;rw[BitVec.toNat_and,e1,e2,wrap64 am am];rfl
theorem RT {a b:Int}(h1:0<=a)(h2:a<18446744073709551616)(h3:0<=b)(h4:b<18446744073709551616):evalOp M.P (.bin .or (U a) (U b)) S=some (U (nb a b),S):=by
 show eN (V3 (U a) (U b)) S=_;unfold V3;simp only[dx,asInt,lI,aY];have Z9:a.toNat|||b.toNat<2^64:=Nat.or_lt_two_pow am am
 rw[BitVec.toNat_or,iV h1 h2,iV h3 h4,bw,IntKind.wrap_u64];show _=some (U ((a.toNat|||b.toNat:Nat):Int),S);rw[Int.emod_eq_of_lt am am];rfl
theorem JT {a:Int}(h1:0<=a)(h2:a<18446744073709551616):evalOp M.P (.bin .andNot (U a) (U 9223372036854775808)) S=some (U (a%9223372036854775808),S):=by
 show eN (qg (U a) (U 9223372036854775808)) S=_;unfold qg;simp only[dx,asInt,lI,aY];obtain⟨n,rfl⟩:∃n:Nat,a=n:=⟨a.toNat,am⟩;have e:(BitVec.ofInt IntKind.u64.bits (n:Int)&&&~~~BitVec.ofInt IntKind.u64.bits 9223372036854775808).toNat=n%9223372036854775808:=by rw[BitVec.toNat_and,iV am am];have e2:(~~~BitVec.ofInt IntKind.u64.bits 9223372036854775808).toNat=2^63-1:=dl;rw[e2,Int.toNat_natCast,Nat.and_two_pow_sub_one_eq_mod]
 rw[e,bw,IntKind.wrap_u64];have e3:(((n%9223372036854775808:Nat):Int))%18446744073709551616=(n:Int)%9223372036854775808:=am;rw[e3];rfl
theorem El {a:Int}(h1:0<=a)(h2:a<18446744073709551616):evalOp M.P (.bin .andNot (U a) (U 65535)) S=some (U (a-a%65536),S):=by
 show eN (qg (U a) (U 65535)) S=_;unfold qg;simp only[dx,asInt,lI,aY];obtain⟨n,rfl⟩:∃n:Nat,a=n:=⟨a.toNat,am⟩;have hn:n<2^64:=am;have e:(BitVec.ofInt IntKind.u64.bits (n:Int)&&&~~~BitVec.ofInt IntKind.u64.bits 65535).toNat=n-n%65536:=by
  rw[BitVec.toNat_and,iV am am];have e2:(~~~BitVec.ofInt IntKind.u64.bits 65535).toNat=(2^48-1)*2^16:=dl;rw[e2,Int.toNat_natCast];have e3:n-n%65536=(n/2^16)*2^16:=am;rw[e3];apply Nat.eq_of_testBit_eq;intro i;rw[Nat.testBit_and,Nat.testBit_mul_two_pow,Nat.testBit_mul_two_pow,Nat.testBit_div_two_pow,Nat.testBit_two_pow_sub_one];by_cases hi:16<=i
  .rw[show i-16+16=i by omega];by_cases h3:i<64
   .have:i-16<48:=am;simp[hi,this]
   .have:n.testBit i=false:=Nat.testBit_lt_two_pow (Nat.lt_of_lt_of_le hn (Nat.pow_le_pow_right am am));simp[this]
  .simp[hi]
 rw[e,bw,IntKind.wrap_u64];have e3:(((n-n%65536:Nat):Int))%18446744073709551616=(n:Int)-(n:Int)%65536:=am;rw[e3];rfl
theorem u_ {κ Qk}{a b:Int}(h:fT κ a=b):evalOp M.P (.conv κ (Z Qk a)) S=some (Z κ b,S):=by rw[<-h];rfl
theorem Hb:∀l:List AV,(l.map λa=>[a]).flatten=l
 |[]=>rfl
 |a::l=>by rw[List.map_cons,List.flatten_cons,Hb l];rfl
theorem Lo.mem {p:Nat}{c}(h:Lo own p c):Own.obj p (.row c)∈own:=by
 induction h with
 |hd=>exact List.Mem.head _
 |tl _ ih=>exact List.mem_cons_of_mem _ ih
 |ap _ ih=>exact List.mem_append_right _ ih
theorem w_ (H:Cx B0 W S own ro){id o n cap:Nat}{c l}(h1:Lo own id c)(h2:Cut o n c l):elems S 1 (.sl id o n cap)=some (l.length,l):=by
 have g:=dh (H.oh _ h1.mem);obtain⟨q1,q2⟩:=h2.eq;have hl:l.length=n:=by rw[<-q1,List.length_take,List.length_drop];omega
 show(match S.cells? id with|some c=>if Nat.ble (o+n*1) (bD c) then some (n,ku (n*1) (kr o c)) else none|none=>none)=_;have hb:Nat.ble (o+n*1) (bD c)=true:=by rw[aS];exact cJ am
 simp only[g,hb,if_true];rw[dF,dV,Nat.mul_one,q1,hl]
theorem ot {a:Int}(h:0<=a)(n:Nat):yq a (2^n-1)=a%2^n:=by
 obtain⟨m,rfl⟩:∃m:Nat,a=m:=⟨a.toNat,am⟩;unfold yq;have e:((2:Int)^n-1).toNat=2^n-1:=by have:((2:Int)^n)=((2^n:Nat):Int):=ac;rw[this];have:=Nat.one_le_two_pow (n:=n);omega
 rw[e,Int.toNat_natCast,Nat.and_two_pow_sub_one_eq_mod];simp
theorem umask {a c d:Int}(h:0<=a)(n:Nat)(hc:c=2^n-1/\d=2^n):yq a c=a%d:=by rw[hc.1,hc.2];exact ot h n
theorem qP:∀{L:List (List AV)} {es:Nat} (h:∀x∈L,x.length=es) (a:Nat),(L.drop a).flatten=L.flatten.drop (a*es)
 |[],_,_,a=>ac
 |_::_,_,_,0=>ac
 |x::L,es,h,a+1=>by have hx:=h x (List.Mem.head _);have ih:=qP (L:=L) (es:=es) (λy hy=>h y (List.mem_cons_of_mem _ hy)) a;have e:List.drop ((a+1)*es) x=[]:=List.drop_eq_nil_of_le (by rw[hx,Nat.succ_mul];omega);rw[List.drop_succ_cons,ih,List.flatten_cons,List.drop_append,hx,e,List.nil_append];congr 1;rw[Nat.succ_mul];omega
theorem wB {L:List (List AV)}{es:Nat}(h:∀x∈L,x.length=es){a:Nat}(ha:a<=L.length):(L.take a).flatten=L.flatten.take (a*es):=by
 have e:L.flatten=(L.take a).flatten++(L.drop a).flatten:=by rw[<-List.flatten_append,List.take_append_drop]
 have hl:=bm (L:=L.take a) (es:=es) λx hx=>h x (List.mem_of_mem_take hx);rw[List.length_take,Nat.min_eq_left ha] at hl;rw[e,<-hl,List.take_left]
theorem qQ {a n:Nat}(h:a<=n):below a (Nat.succ n)=some a:=by unfold below;rw[cJ am]
theorem dB {S v}{es:Nat}{L}(h:g_ S v es L):odd v=false/\v.cells=[v]/\AV.beq v v=true:=by
 rcases h with⟨⟨_,rfl⟩,_⟩|⟨id,off,c,h0,_⟩;.exact⟨rfl,rfl,by simp[AV.beq]⟩
 .rcases h0 with⟨_,_,_,rfl⟩|⟨_,_,_,rfl⟩<;>exact⟨rfl,rfl,by simp[AV.beq]⟩
theorem Hc {M:cQ}{S:AH}{v:AV}{es a:Nat}{L:List (List AV)}(h:GK S v es L)(ha:a<=L.length):∃v',evalOp M.P (.jM es v (some (I (Int.ofNat a))) none none) S=some (v',S)/\GK S v' es (L.drop a)/\∀id∈dQ v',id∈dQ v:=by
 rcases h with⟨rfl,rfl⟩|⟨id,off,c,g0,g1,g2,g3⟩
 .obtain rfl:a=0:=by simpa using ha
  exact⟨Ns,rfl,.inl ⟨rfl,rfl⟩,λid bQ=>bQ⟩
 .have hn:(L.drop a).length=L.length-a:=List.length_drop ..;have wu:(c.drop (off+a*es)).take ((L.length-a)*es)=(L.drop a).flatten:=by rw[qP g3 a,<-g2,List.drop_take,List.drop_drop,Nat.sub_mul]
  have hg:∀x∈L.drop a,x.length=es:=λx hx=>g3 x (List.mem_of_mem_drop hx);rcases g0 with⟨cap,q1,q2,rfl⟩|⟨cm,q1,q2,rfl⟩
  .have hb:jN (some (I (Int.ofNat a))) none none L.length cap=some (a,L.length,cap):=by have h1:fY (none:Option AV) cap cap=some cap:=rfl;have h2:fY (none:Option AV) L.length cap=some L.length:=rfl;have h3:fY (some (I (Int.ofNat a))) 0 L.length=some a:=qQ ha;unfold jN;rw[h1];simp only[h2,h3];rfl
   refine⟨.sl id (if Nat.beq cap a then off else Nat.add off (Nat.mul a es)) (Nat.sub L.length a) (Nat.sub cap a),?_,.inr ⟨id,(if Nat.beq cap a then off else Nat.add off (Nat.mul a es)),c,.inl ⟨cap-a,by rw[hn];omega,?_,by rw[hn];rfl⟩,g1,?_,hg⟩,λj hj=>hj⟩
   .show eN (dL _ _ _ _ _) S=_;unfold dL;simp only[hb];rfl
   .split;.next e=>rw[Nat.eq_of_beq_eq_true e,Nat.sub_self,Nat.zero_mul];omega
    .have:a<=cap:=am;have:=Nat.mul_le_mul_right es this;rw[Nat.sub_mul];show off+a*es+_<=_;omega
   .rw[hn];split
    .next e=>have e1:=Nat.eq_of_beq_eq_true e;have e2:L.length-a=0:=am;rw[e2,Nat.zero_mul,List.take_zero,List.drop_eq_nil_of_le am];rfl
    .exact wu
  .have hb:jN (some (I (Int.ofNat a))) none none L.length cm=some (a,L.length,cm):=by have h1:fY (none:Option AV) cm cm=some cm:=rfl;have h2:fY (none:Option AV) L.length cm=some L.length:=rfl;have h3:fY (some (I (Int.ofNat a))) 0 L.length=some a:=qQ ha;unfold jN;rw[h1];simp only[h2,h3];rfl
   refine⟨.op id (Nat.add off (Nat.mul a es)) (Nat.sub L.length a) (Nat.sub cm a) es,?_,.inr ⟨id,Nat.add off (Nat.mul a es),c,.inr ⟨cm-a,by rw[hn];omega,?_,by rw[hn];rfl⟩,g1,by rw[hn];exact wu,hg⟩,λj hj=>hj⟩
   .show eN (dL _ _ _ _ _) S=_;unfold dL;simp only[hb,Nat.beq_refl];rfl
   .have:a<=cm:=am;have:=Nat.mul_le_mul_right es this;rw[Nat.sub_mul];show off+a*es+_<=_;omega
theorem Hd {M:cQ}{S:AH}{v:AV}{es a:Nat}{L:List (List AV)}(h:GK S v es L)(ha:a<=L.length):∃v',evalOp M.P (.jM es v none (some (I (Int.ofNat a))) (some (I (Int.ofNat a)))) S=some (v',S)/\GK S v' es (L.take a)/\∀id∈dQ v',id∈dQ v:=by
 rcases h with⟨rfl,rfl⟩|⟨id,off,c,g0,g1,g2,g3⟩
 .obtain rfl:a=0:=by simpa using ha
  exact⟨Ns,rfl,.inl ⟨rfl,rfl⟩,λid bQ=>bQ⟩
 .have hn:(L.take a).length=a:=by rw[List.length_take,Nat.min_eq_left ha]
  have wu:(c.drop off).take (a*es)=(L.take a).flatten:=by rw[wB g3 ha,<-g2,List.take_take,Nat.min_eq_left (Nat.mul_le_mul_right es ha)]
  have hg:∀x∈L.take a,x.length=es:=λx hx=>g3 x (List.mem_of_mem_take hx);have hB:∀cap,L.length<=cap->jN none (some (I (Int.ofNat a))) (some (I (Int.ofNat a))) L.length cap=some (0,a,a):=λcap q1=>by have h1:fY (some (I (Int.ofNat a))) cap cap=some a:=qQ am;have h2:fY (some (I (Int.ofNat a))) L.length a=some a:=qQ (Nat.le_refl _);have h3:fY (none:Option AV) 0 a=some 0:=rfl;unfold jN;rw[h1];simp only[h2,h3];rfl
  have he:(if Nat.beq a 0=true then off else Nat.add off (Nat.mul 0 es))=off:=by
   split;.rfl
   .show off+0*es=off;omega
  rcases g0 with⟨cap,q1,q2,rfl⟩|⟨cm,q1,q2,rfl⟩
  .refine⟨.sl id off a a,?_,.inr ⟨id,off,c,.inl ⟨a,am,?_,by rw[hn]⟩,g1,by rw[hn];exact wu,hg⟩,λj hj=>hj⟩
   .show eN (dL _ _ _ _ _) S=_;unfold dL;simp only[hB cap q1];rw[he];rfl
   .have:=Nat.mul_le_mul_right es (show a<=cap by omega);omega
  .by_cases hc:cm=0
   .subst hc;obtain rfl:a=0:=am;refine⟨.op id off 0 0 es,?_,.inr ⟨id,off,c,.inr ⟨0,ac,am,ac⟩,g1,by rw[hn];exact wu,hg⟩,λj hj=>hj⟩;show eN (dL _ _ _ _ _) S=_;unfold dL;simp only[hB 0 q1,Nat.beq_refl];rfl
   .refine⟨.sl id off a a,?_,.inr ⟨id,off,c,.inl ⟨a,am,?_,by rw[hn]⟩,g1,by rw[hn];exact wu,hg⟩,λj hj=>hj⟩
    .show eN (dL _ _ _ _ _) S=_;unfold dL;have U6:Nat.beq cm 0=false:=by cases cm with|zero=>exact absurd rfl hc|succ n=>rfl
     simp only[hB cm q1,Nat.beq_refl,U6];rw[he];rfl
    .have:=Nat.mul_le_mul_right es (show a<=cm by omega);omega
theorem pN {S v}{es:Nat}{L}(h:GK S v es L):g_ S v es L:=by
 rcases h with h|⟨id,off,c,h0,h1,h2⟩;.exact .inl ⟨⟨none,h.1⟩,h.2⟩
 .exact .inr ⟨id,off,c,h0,dh h1,h2⟩
theorem Ak {c:List AV}:(c.map λa=>[a]).flatten=c:=by induction c with|nil=>rfl|cons a c ih=>rw[List.map_cons,List.flatten_cons,ih];rfl
theorem Zx.ok {n:Bool}{x:AC}(h:Zx M n x K own ro Φ):Vx M x K own ro Φ:=by
 induction h with
 |z h=>exact h.out
 |rc1 h ih=>exact λB W S H=>wp_ret ⟨rfl,ih B W S H⟩
 |rc0 h ih=>exact λB W S H=>wp_ret ⟨rfl,ih B W S H⟩
 |rc2 h ih=>exact λB W S H=>wp_ret ⟨rfl,ih B W S H⟩
 |rbn h ih=>exact λB W S H=>wp_ret (ih B W S H)
 |rbe h ih=>
  intro B W S H;refine wp_ret ?_;show(match Nat.beq _ _ with|true=>_|false=>_);rw[Nat.beq_refl];exact ih B W S H
 |rbx e h ih=>
  intro B W S H;obtain⟨t,vs,S',⟨n0,h1⟩,h2⟩:=ih B W S H;have:=h1 n0 (Nat.le_refl _);cases this;refine wp_ret ?_;show(match Nat.beq _ _ with|true=>_|false=>_);rw[e];exact h2
 |rby h ih=>
  intro B W S H;obtain⟨t,vs,S',⟨n0,h1⟩,h2⟩:=ih B W S H;cases h1 n0 (Nat.le_refl _);exact wp_ret h2
 |rbr h ih=>
  intro B W S H;obtain⟨t,vs,S',⟨n0,h1⟩,h2⟩:=ih B W S H;cases h1 n0 (Nat.le_refl _);exact wp_ret h2
 |rbg h ih=>
  intro B W S H;obtain⟨t,vs,S',⟨n0,h1⟩,h2⟩:=ih B W S H;cases h1 n0 (Nat.le_refl _);exact wp_ret h2
 |rfn h ih=>exact λB W S H=>wp_ret ⟨.inl rfl,ih B W S H⟩
 |rfr h ih=>exact λB W S H=>wp_ret ⟨.inr rfl,ih B W S H⟩
 |Qj h ih=>
  intro B W S H;exact wp_ret (.inl ⟨rfl,nL (ih B W S H)⟩)
 |rle h ih=>
  intro B W S H;obtain⟨t,vs,S',⟨n0,h1⟩,h2⟩:=ih B W S H;cases h1 n0 (Nat.le_refl _);exact wp_ret (.inr ⟨ac,h2⟩)
 |rlr h ih=>
  intro B W S H;obtain⟨t,vs,S',⟨n0,h1⟩,h2⟩:=ih B W S H;cases h1 n0 (Nat.le_refl _);exact wp_ret (.inr ⟨ac,h2⟩)
 |@rrn p t kk outs vs _ _ _ _ _ h1 h ih=>
  intro B W S H;obtain⟨n,st,m,b,g1,g2,rfl⟩:=h1.at;have gm:=List.mem_of_getElem? g1;refine wp_ret ⟨rfl,st,t,m,b,H.oh _ gm,g2,?_⟩;have K2:=ih B W _ (H.other g1 (S1:=S.set p (.loop .exhausted t m b)) rfl λj hj=>by rw[AH.db,if_neg hj]);cases t with
  |none=>exact K2
  |some t=>
   obtain⟨t,vs,S',⟨n0,q1⟩,q2⟩:=K2;cases q1 n0 (Nat.le_refl _);exact q2
 |ryn h1 h ih=>
  intro B W S H;obtain⟨n,g1,rfl⟩:=h1.at;exact wp_ret ⟨none,_,_,H.oh _ (List.mem_of_getElem? g1),ih B W _ (H.Db g1 _)⟩
 |rye h1 h ih=>
  intro B W S H;obtain⟨n,g1,rfl⟩:=h1.at;exact wp_ret ⟨none,_,_,H.oh _ (List.mem_of_getElem? g1),ih B W _ (H.Db g1 _)⟩
 |ryr h1 h ih=>
  intro B W S H;obtain⟨n,g1,rfl⟩:=h1.at;exact wp_ret ⟨none,_,_,H.oh _ (List.mem_of_getElem? g1),ih B W _ (H.Db g1 _)⟩
 |@DP nn f fa fc body kk outs _ _ _ _ h ih=>
  intro B W S H;refine MW (by intro i e;cases e) ?_;obtain⟨t,vs,S',⟨n0,q1⟩,q2⟩:=ih S.next B W _ (H.gD (aR.new S _) (bk _ _) (by
   intro j hj;simp only[Own.ids,List.mem_singleton] at hj;subst hj;exact⟨Nat.le_refl _,ac⟩))
  have hc:∀n,n0<=n->∃v,ck M.P M.iP M.kn n (.fn f fa fc) [.yd S.next] (S.new (.loop .ready none nn body))=some (v,S')/\t=.normal/\vs=[v]:=by
   intro n hn;have:=q1 n hn;rw[nF] at this;unfold qj at this;split at this
   .next v S1 he=>cases this;exact⟨v,he,rfl,rfl⟩
   .cases this
  obtain⟨v0,Qm,rfl,rfl⟩:=hc n0 (Nat.le_refl _);obtain⟨_,st,dE,m,b,g1,g2,g3⟩:=q2;refine⟨v0,S',⟨n0,λn hn=>?_⟩,st,dE,m,b,g1,g2,g3⟩;obtain⟨v1,hv1,_,e⟩:=hc n hn;cases e;exact hv1
 |start h1 h ih=>
  intro B W S H;obtain⟨n,g1,rfl⟩:=h1.at;exact GH (H.oh _ (List.mem_of_getElem? g1)) (ih B W _ (H.Db g1 _))
 |ydc h1 hl h ih=>
  intro B W S H;obtain⟨n,g1,_⟩:=h1.at;refine bW (GI (H.oh _ (List.mem_of_getElem? g1)) (by rw[<-aS];exact hl) ?_);exact ih B W S H
 |@nc f args P Q c _ _ _ _ _ hp h ih=>
  intro B W S H;exact bW (aw (c.ok hp.out _ _ B W S H) λr S1 ⟨p,l,q1,q2,q3⟩=>by
   subst q2;exact ih p l q1 B W S1 q3)
 |@ns f args P L own c _ _ ro _ hp h ih=>
  intro B W S H;refine bW (aw (c.ok hp.out ro [] B W S (by rw[List.append_nil];exact H)) λr S1 H1=>?_);rw[List.append_nil] at H1;obtain⟨o1,o2,o3⟩:=dB (pN (H1.oh _ (List.Mem.head _)));exact ih r o1 o2 o3 B W S1 H1
 |@mvc t f name c0 v r args P c _ _ _ _ _ hp h ih=>
  intro B W S H;exact bW (jT (c0.ok v) (aw (c.ok hp.out S) λu S1 ⟨q1,q2⟩=>by
   subst q1;exact ih B W S1 (H.grow q2)))
 |@msc t f name c0 v r args P own ab c _ _ ro _ hp h ih=>
  intro B W S H;exact bW (jT (c0.ok v) (aw (c.ok hp.out ro [] B W S (by rw[List.append_nil];exact H)) λu S1 ⟨q1,H1⟩=>by
   subst q1;rw[List.append_nil] at H1;exact ih B W S1 H1))
 |@mth t f name c _ v args _ _ _ _ _ _ _ hk hb hl h ih=>
  intro B W S H;exact bW (jT (c.ok v) (aV (by simpa using hk) hb (by
   have e:([]++((v::args)++[]):List AV)=v::args:=ac;rw[e,hl.eq];exact ih B W S H)))
 |leaf ha h=>exact λB W S H=>wp_ret ⟨_,_,by rw[ha.eq];exact h.out,H⟩
 |bind h ih=>exact λB W S H=>wp_bind (ih B W S H)
 |fin h ih=>exact λB W S H=>uL (ih B W S H)
 |loop h ih=>exact λB W S H=>wp_loop (nL (ih B W S H))
 |W2 h ih=>exact λB W S H=>cT (ih B W S H)
 |W3 h ih=>exact λB W S H=>cU (ih B W S H)
 |W5 h1 h2 i1 i2=>exact λB W S H=>G3 (λe=>i1 e B W S H) (λe=>i2 e B W S H)
 |@W4 p _ _ _ _ _ _ _ h1 h2 i1 i2=>
  intro B W S H;by_cases hp:p;.rw[decide_eq_true hp];exact cT (i1 hp B W S H)
  .rw[decide_eq_false hp];exact cU (i2 hp B W S H)
 |W6 h ih=>exact λB W S H=>cI (ih B W S H)
 |W7 h ih=>exact λB W S H=>dW rfl (ih B W S H)
 |W8 h ih=>exact λB W S H=>dW rfl (ih B W S H)
 |W9 h ih=>exact λB W S H=>eC (ih B W S H)
 |@W_ p _ _ _ _ _ _ _ _ h1 h2 i1 i2=>
  by_cases hp:p;.rw[decide_eq_true hp];exact i1 hp
  .rw[decide_eq_false hp];exact i2 hp
 |@Xa b _ _ _ _ _ _ _ h1 h2 i1 i2=>
  cases b with
  |true=>exact i1 rfl
  |false=>exact i2 rfl
 |G8 h ih=>exact λB W S H=>cK (ih B W S H)
 |Xb h ih=>exact λB W S H=>cD rfl (ih B W S H)
 |Xd h ih=>exact λB W S H=>cD rfl (ih B W S H)
 |Xe h ih=>exact λB W S H=>cL (ih B W S H)
 |@Xf b _ _ _ _ _ _ _ _ h1 h2 i1 i2=>
  cases b with
  |true=>exact i1 rfl
  |false=>exact i2 rfl
 |Xg h ih=>
  intro B W S H;obtain⟨t,vs,S',⟨n0,q1⟩,q2⟩:=ih B W S H;refine⟨t,vs,S',⟨n0,λn hn=>?_⟩,q2⟩;rw[<-q1 n hn];rename_i g _ _ _ _ _ _ _;cases g<;>rfl
 |Xh h ih=>exact λB W S H=>nK rfl (ih B W S H)
 |Xi h ih=>exact λB W S H=>nK rfl (ih B W S H)
 |Xj h ih=>exact λB W S H=>nK (by cases‹Bool›<;>rfl) (ih B W S H)
 |Xk h1 h2 hb h ih=>
  intro B W S H;obtain⟨d,q1,q2⟩:=h1.nth h2 H;exact yf (RP q1 q2) hb.out (ih B W S H)
 |Xl h1 h2 hb h ih=>
  intro B W S H;obtain⟨d,q1,q2,q3⟩:=h1.cut h2 H;exact yf (RQ q1 q2) (by rw[q3];exact hb.out) (ih B W S H)
 |mvT h ih=>exact λB W S H=>ae rfl (ih B W S H)
 |mvF h ih=>exact λB W S H=>ae rfl (ih B W S H)
 |@mvD p d _ _ _ _ _ h1 h2 i1 i2=>
  intro B W S H;by_cases hp:p;.exact ae rfl (by rw[decide_eq_true hp];exact i1 hp B W S H)
  .exact ae rfl (by rw[decide_eq_false hp];exact i2 hp B W S H)
 |@mvB c _ _ _ _ _ h1 h2 i1 i2=>
  intro B W S H;cases c with
  |true=>exact ae rfl (i1 rfl B W S H)
  |false=>exact ae rfl (i2 rfl B W S H)
 |mv ha h ih=>exact λB W S H=>ae rfl (by rw[ha.eq];exact ih B W S H)
 |@not b _ _ _ _ _ h ih=>
  intro B W S H;obtain⟨t,vs,S',⟨n0,h1⟩,h2⟩:=ih B W S H;refine ae (v:=cO.B (!b)) (S1:=S) rfl ⟨t,vs,S',⟨n0,λn hn=>?_⟩,h2⟩;have:=h1 n hn;rw[ij] at this;exact this
 |pkT h ih=>exact λB W S H=>ae rfl (ih B W S H)
 |pkF h ih=>exact λB W S H=>ae rfl (ih B W S H)
 |@pkD p _ _ _ _ _ _ _ _ h1 h2 i1 i2=>
  intro B W S H;by_cases hp:p;.rw[decide_eq_true hp];exact ae rfl (i1 hp B W S H)
  .rw[decide_eq_false hp];exact ae rfl (i2 hp B W S H)
 |@pkB c _ _ _ _ _ _ _ h1 h2 i1 i2=>
  intro B W S H;cases c with
  |true=>exact ae rfl (i1 rfl B W S H)
  |false=>exact ae rfl (i2 rfl B W S H)
 |ex h1 h ih=>exact λB W S H=>ae (by show eN (zi _ _) S=_;rw[h1.ok];rfl) (ih B W S H)
 |RM h1 h ih=>exact λB W S H=>ae (by show eN (fE true _ _ _) S=_;rw[mA h1.eq.2,h1.eq.1];rfl) (ih B W S H)
 |RN h1 h ih=>exact λB W S H=>ae (by show eN (zi _ _) S=_;rw[h1.ok];rfl) (ih B W S H)
 |bld h1 ha h ih=>exact λB W S H=>ae (by show eN (kT _ _) S=_;unfold kT;rw[h1,ha.eq];rfl) (ih B W S H)
 |fad h ih=>exact λB W S H=>cV (ih B W S H)
 |nck e h ih=>exact λB W S H=>ae (by show eN (oc _) S=_;unfold oc;rw[e];rfl) (ih B W S H)
 |lss h ih=>
  intro B W S H;obtain⟨t,vs,S',⟨n0,h1⟩,h2⟩:=ih B W S H;exact ae GO ⟨t,vs,S',⟨n0,λn hn=>by have:=h1 n hn;rw[ij] at this;exact this⟩,h2⟩
 |leq h ih=>
  intro B W S H;obtain⟨t,vs,S',⟨n0,h1⟩,h2⟩:=ih B W S H;exact ae GP ⟨t,vs,S',⟨n0,λn hn=>by have:=h1 n hn;rw[ij] at this;exact this⟩,h2⟩
 |gtr h ih=>
  intro B W S H;obtain⟨t,vs,S',⟨n0,h1⟩,h2⟩:=ih B W S H;exact ae GQ ⟨t,vs,S',⟨n0,λn hn=>by have:=h1 n hn;rw[ij] at this;exact this⟩,h2⟩
 |geq h ih=>
  intro B W S H;obtain⟨t,vs,S',⟨n0,h1⟩,h2⟩:=ih B W S H;exact ae GR ⟨t,vs,S',⟨n0,λn hn=>by have:=h1 n hn;rw[ij] at this;exact this⟩,h2⟩
 |eql h ih=>
  intro B W S H;obtain⟨t,vs,S',⟨n0,h1⟩,h2⟩:=ih B W S H;exact ae C6 ⟨t,vs,S',⟨n0,λn hn=>by have:=h1 n hn;rw[ij] at this;exact this⟩,h2⟩
 |neq h ih=>
  intro B W S H;obtain⟨t,vs,S',⟨n0,h1⟩,h2⟩:=ih B W S H;exact ae GS ⟨t,vs,S',⟨n0,λn hn=>by have:=h1 n hn;rw[ij] at this;exact this⟩,h2⟩
 |eqs h ih=>
  intro B W S H;obtain⟨t,vs,S',⟨n0,h1⟩,h2⟩:=ih B W S H;exact ae rfl ⟨t,vs,S',⟨n0,λn hn=>by have:=h1 n hn;rw[ij] at this;exact this⟩,h2⟩
 |Bk e ha h ih=>
  have he:=ha.eq;subst he;exact λB W S H=>ae (by show eN (sm _ _ _ _ _) S=_;rw[e];rfl) (ih B W S H)
 |add e h ih=>exact λB W S H=>ct e.out.1 e.out.2 (ih B W S H)
 |sub e h ih=>exact λB W S H=>jU e.out.1 e.out.2 (ih B W S H)
 |mul e h ih=>exact λB W S H=>GU (wrap64 e.out.1 e.out.2) (ih B W S H)
 |Xm h ih=>exact λB W S H=>uT (by rw[bw,IntKind.wrap_u64]) (ih B W S H)
 |Xn h ih=>exact λB W S H=>uU (by rw[bw,IntKind.wrap_u64]) (ih B W S H)
 |shr e h ih=>exact λB W S H=>ae (B2 e) (ih B W S H)
 |shl e h ih=>exact λB W S H=>ae (B3 e) (ih B W S H)
 |G9 e h ih=>exact λB W S H=>ae ((uZ e.out.1 e.out.2 am am).trans (by rw[umask (d:=65536) e.out.1 16 dl])) (ih B W S H)
 |G_ e h ih=>exact λB W S H=>ae ((pM e.out.1 e.out.2 am am).trans (by rw[umask (d:=65536) e.out.1 16 dl])) (ih B W S H)
 |M7 e h ih=>exact λB W S H=>ae ((uZ e.out.1 e.out.2 am am).trans (by rw[umask (d:=256) e.out.1 8 dl])) (ih B W S H)
 |M8 e h ih=>exact λB W S H=>ae ((pM e.out.1 e.out.2 am am).trans (by rw[umask (d:=256) e.out.1 8 dl])) (ih B W S H)
 |wz e h ih=>exact λB W S H=>ae ((uZ e.out.1 e.out.2 am am).trans (by rw[umask (d:=4294967296) e.out.1 32 dl])) (ih B W S H)
 |wA e h ih=>exact λB W S H=>ae ((pM e.out.1 e.out.2 am am).trans (by rw[umask (d:=4294967296) e.out.1 32 dl])) (ih B W S H)
 |pK e h ih=>exact λB W S H=>ae ((uZ e.out.1 e.out.2 am am).trans (by rw[umask (d:=281474976710656) e.out.1 48 dl])) (ih B W S H)
 |pL e h ih=>exact λB W S H=>ae ((pM e.out.1 e.out.2 am am).trans (by rw[umask (d:=281474976710656) e.out.1 48 dl])) (ih B W S H)
 |and e h ih=>exact λB W S H=>ae (pM e.out.1.1 e.out.1.2 e.out.2.1 e.out.2.2) (ih B W S H)
 |Xo e h ih=>exact λB W S H=>ae (uZ e.out.1.1 e.out.1.2 e.out.2.1 e.out.2.2) (ih B W S H)
 |or e h ih=>exact λB W S H=>ae (RT e.out.1.1 e.out.1.2 e.out.2.1 e.out.2.2) (ih B W S H)
 |Xp e h ih=>exact λB W S H=>ae (JT e.out.1 e.out.2) (ih B W S H)
 |M9 e h ih=>exact λB W S H=>ae (El e.out.1 e.out.2) (ih B W S H)
 |Xq h ih=>exact λB W S H=>uT (by rw[bw,IntKind.wrap_u32]) (ih B W S H)
 |Xr h ih=>exact λB W S H=>uU (by rw[bw,IntKind.wrap_u32]) (ih B W S H)
 |rem e h ih=>exact λB W S H=>yj (Int.ne_of_gt e.out.2) (by rw[Int.tmod_eq_emod_of_nonneg e.out.1];exact ih B W S H)
 |@quo a b _ _ _ _ _ e h ih=>
  exact λB W S H=>GV (c:=a/b) (Int.ne_of_gt e.out.2.1) (by
   have h1:a/b<=a:=Int.ediv_le_self b e.out.1;have h0:0<=a/b:=Int.ediv_nonneg e.out.1 (Int.le_of_lt e.out.2.1);have h3:=e.out.2.2;rw[Int.tdiv_eq_ediv_of_nonneg e.out.1,bw,IntKind.wrap_u64];omega) (ih B W S H)
 |@min2 κ a b _ _ _ _ _ h ih=>
  exact λB W S H=>ae (v:=Z κ (min a b)) (by
   show eN (some (AV.sc (.int κ (if DS b a then b else a)))) S=_;rw[f_,Int.min_def];by_cases hb:b<a;.rw[decide_eq_true hb,if_pos rfl,if_neg am];rfl
   .rw[decide_eq_false hb,if_neg ac,if_pos am];rfl) (ih B W S H)
 |pad e h ih=>exact λB W S H=>ae (by show eN (nk _ _ _ _) S=_;rw[e];rfl) (ih B W S H)
 |Ql e h ih=>exact λB W S H=>ae (by show eN (fZ _ _ _) S=_;rw[e];rfl) (ih B W S H)
 |asl e h ih=>exact λB W S H=>ae (by show eN (kx _ _ _ _ _ _) S=_;rw[e];rfl) (ih B W S H)
 |lnS h ih=>exact λB W S H=>ae rfl (ih B W S H)
 |lnO h ih=>exact λB W S H=>ae rfl (ih B W S H)
 |lnN h ih=>exact λB W S H=>ae rfl (ih B W S H)
 |lnW h1 h ih=>
  intro B W S H;refine ae (S1:=S) ?_ (ih B W S H);rcases H.oh _ h1.mem with⟨rfl,rfl⟩|⟨id,off,c,g1,_⟩;.rfl
  .rcases g1 with⟨cap,_,_,rfl⟩|⟨dq,_,_,rfl⟩<;>rfl
 |@Xs v x ii _ P c _ _ _ _ hp h ih=>
  intro B W S H;obtain⟨L,hm,j,rfl,g⟩:=c.ok hp.out;have hj:=(List.getElem?_eq_some_iff.1 g).1;rcases H.oh _ hm with⟨rfl,rfl⟩|⟨id,off,c,g1,g2,g3,g4⟩;.simp at hj
  .refine ae (yl g1 hj) (ae (ju (dh g2) ?_) (ih B W S H));have:=iv g4 g;rw[<-g3,List.drop_take,List.take_take] at this;have h5:(([x]:List AV))[0]?=some x:=rfl;rw[<-this,List.getElem?_take,List.getElem?_drop,List.getElem?_drop] at h5;split at h5;.simpa using h5
   .cases h5
 |@ldS v x j L _ _ _ _ _ h1 h2 h ih=>
  intro B W S H;have g:=h2.eq;have hj:=(List.getElem?_eq_some_iff.1 g).1;rcases H.oh _ h1.mem with⟨rfl,rfl⟩|⟨id,off,c,g1,g2,g3,g4⟩;.simp at hj
  .refine ae (yl g1 hj) (ae (ju (dh g2) ?_) (ih B W S H));have:=iv g4 g;rw[<-g3,List.drop_take,List.take_take] at this;have h5:(([x]:List AV))[0]?=some x:=rfl;rw[<-this,List.getElem?_take,List.getElem?_drop,List.getElem?_drop] at h5;split at h5;.simpa using h5
   .cases h5
 |@apN bytes id o n cap c l _ _ _ _ _ h1 h2 e h ih=>
  intro B W S H;have hx:=w_ (cap:=cap) H h1 h2;obtain⟨v1,S1,q1,q2,q3,q4,q5⟩:=nP (M:=M) (bytes:=bytes) (L:=[]) (N:=l.map λa=>[a]) (.inl ⟨rfl,rfl⟩) (by rw[hx,Hb,List.length_map]) ac (by rw[List.length_map,List.length_nil,Nat.zero_add];exact e.out.1) (by rw[List.length_map,List.length_nil,Nat.zero_add];exact e.out.2) (λid bQ=>by simp[dQ] at bQ);refine ae q1 (ih v1 B W S1 (H.gD ⟨q3,λid bQ=>q4 id bQ (by simp[dQ])⟩ (by rw[List.nil_append] at q2;exact q2) λid bQ=>?_));obtain⟨r1,r2⟩:=q5 id bQ;exact⟨r2.resolve_left (by simp[dQ]),r1⟩
 |@ap1 v bytes id o n cap c l L L' ab _ _ _ _ _ h0 h1 h2 hl e h3 h ih=>
  intro B W S H;have hx:=w_ (cap:=cap) H h1 h2;obtain⟨i,hi,_⟩:=(h3 v).at;have hm:=List.mem_of_getElem? hi;obtain⟨v1,S1,q1,q2,q3,q4,q5⟩:=nP (M:=M) (bytes:=bytes) (L:=L) (N:=l.map λa=>[a]) (H.oh _ hm) (by rw[hx,Hb,List.length_map]) ac (by rw[List.length_map];exact e.out.1) (by rw[List.length_map];exact e.out.2) (λid bQ=>(H.oi _ hm id bQ).1);obtain⟨i,hi,hs⟩:=(h3 v1).at;have K2:=H.step hi q3 q4 (x':=.sl v1 1 L') (by rw[<-hl];exact q2) q5;rw[<-hs] at K2;exact ae q1 (ih v1 B W S1 K2)
 |@mks es bytes n z c _ _ _ _ _ e e2 hc h ih=>
  intro B W S H;have he:=hc.eq;subst he;refine ae (v:=.sl S.next 0 n n) (S1:=S.new (.row (bh z n))) ?_ (ih S.next B W _ (H.gD (aR.new S _) (bk _ _) ?_))
  .show gM es bytes z (I (Int.ofNat n)) (I (Int.ofNat n)) S=_;unfold gM;have hn:nat? (Int.ofNat n)=some n:=rfl;simp only[asInt,lI,hn];rw[Bool.and_eq_true] at e;have h3:=Nat.le_of_ble_eq_true e2;have e4:(Nat.ble n n&&Nat.ble (Nat.mul bytes n) 140737488355328&&Nat.ble n 9223372036854775807&&Nat.beq (bD z) es)=true:=by rw[cJ (Nat.le_refl n),cJ (by omega:n<=9223372036854775807),e.2];have:Nat.ble (Nat.mul bytes n) 140737488355328=true:=e.1;rw[this];rfl
   rw[e4];rfl
  .intro j hj;simp only[Own.ids,List.mem_singleton] at hj;subst hj;simp
 |@Xx _ n z c c' ps _ _ _ _ _ e ha e2 h ih=>
  have he:=ha.eq;subst he;intro B W S H;refine ae (v:=.sl S.next 0 n n) (S1:=S.new (.row c)) ?_ (ih (.sl S.next 0 n n) rfl rfl (by simp[AV.beq]) B W (S.new (.row c)) (H.gD (S1:=S.new (.row c)) (aR.new S _) (x:=.sl (.sl S.next 0 n n) 1 (c.map λa=>[a])) ?_ ?_))
  .show eI _ _ _ _ S=_;unfold eI;rw[e];have e3:(Nat.beq (bD c) (Nat.mul n 1)&&Nat.beq (bD z) 1)=true:=by rw[show Nat.mul n 1=n from Nat.mul_one n];exact e2
   simp only[e3];rfl
  .have hn:c.length=n:=by have:=(Bool.and_eq_true_iff.1 e2).1;rw[aS] at this;exact Nat.eq_of_beq_eq_true this
   exact .inr ⟨S.next,0,c,.inl ⟨n,by rw[List.length_map];omega,am,by rw[List.length_map,hn]⟩,bk _ _,by rw[List.length_map,Ak,Nat.mul_one,List.drop_zero,List.take_length],ac⟩
  .intro j hj;have:j=S.next:=by simpa[Own.ids,dQ] using hj
   subst this;simp
 |@apW v w bytes L N L' ab _ _ _ _ _ h0 h1 hl e h3 h ih=>
  intro B W S H;have hx:=mB (pN (H.oh _ h1.mem));have hN:∀y∈N,y.length=1:=by
   rcases H.oh _ h1.mem with⟨_,rfl⟩|⟨_,_,_,_,_,_,g⟩;.simp
   .exact g
  obtain⟨i,hi,_⟩:=(h3 v).at;have hm:=List.mem_of_getElem? hi;obtain⟨v1,S1,q1,q2,q3,q4,q5⟩:=nP (M:=M) (bytes:=bytes) (L:=L) (N:=N) (H.oh _ hm) hx hN e.out.1 e.out.2 (λid bQ=>(H.oi _ hm id bQ).1);obtain⟨i,hi,hs⟩:=(h3 v1).at;have K2:=H.step hi q3 q4 (x':=.sl v1 1 L') (by rw[<-hl];exact q2) q5;rw[<-hs] at K2;obtain⟨o1,o2,o3⟩:=dB (pN q2);exact ae q1 (ih v1 o1 o2 o3 B W S1 K2)
 |@Xt w bytes N _ _ _ _ _ h1 e h ih=>
  intro B W S H;have hx:=mB (pN (H.oh _ h1.mem));have hN:∀y∈N,y.length=1:=by
   rcases H.oh _ h1.mem with⟨_,rfl⟩|⟨_,_,_,_,_,_,g⟩;.simp
   .exact g
  obtain⟨v1,S1,q1,q2,q3,q4,q5⟩:=nP (M:=M) (bytes:=bytes) (L:=[]) (N:=N) (.inl ⟨rfl,rfl⟩) hx hN (by rw[List.length_nil,Nat.zero_add];exact e.out.1) (by rw[List.length_nil,Nat.zero_add];exact e.out.2) (λid bQ=>by simp[dQ] at bQ);obtain⟨o1,o2,o3⟩:=dB (pN q2);refine ae q1 (ih v1 o1 o2 o3 B W S1 (H.gD ⟨q3,λid bQ=>q4 id bQ (by simp[dQ])⟩ (by rw[List.nil_append] at q2;exact q2) λid bQ=>?_));obtain⟨r1,r2⟩:=q5 id bQ;exact⟨r2.resolve_left (by simp[dQ]),r1⟩
 |@Xu v es a L L' ab _ _ _ _ _ h0 ha hl h3 h ih=>
  intro B W S H;subst hl;obtain⟨i,hi,_⟩:=(h3 v).at;have hm:=List.mem_of_getElem? hi;obtain⟨v1,q1,q2,q3⟩:=Hc (M:=M) (H.oh _ hm) (Nat.le_of_ble_eq_true ha);obtain⟨i,hi,hs⟩:=(h3 v1).at;have K2:=H.step hi (Nat.le_refl _) (λ_ _ _=>rfl) (x':=.sl v1 es (L.drop a)) q2 (λid bQ=>⟨(H.oi _ hm id (q3 id bQ)).1,.inl (q3 id bQ)⟩);rw[<-hs] at K2;obtain⟨o1,o2,o3⟩:=dB (pN q2);exact ae q1 (ih v1 o1 o2 o3 B W S K2)
 |@RO v es a L L' ab _ _ _ _ _ h0 ha hl h3 h ih=>
  intro B W S H;subst hl;obtain⟨i,hi,_⟩:=(h3 v).at;have hm:=List.mem_of_getElem? hi;obtain⟨v1,q1,q2,q3⟩:=Hd (M:=M) (H.oh _ hm) (Nat.le_of_ble_eq_true ha);obtain⟨i,hi,hs⟩:=(h3 v1).at;have K2:=H.step hi (Nat.le_refl _) (λ_ _ _=>rfl) (x':=.sl v1 es (L.take a)) q2 (λid bQ=>⟨(H.oi _ hm id (q3 id bQ)).1,.inl (q3 id bQ)⟩);rw[<-hs] at K2;obtain⟨o1,o2,o3⟩:=dB (pN q2);exact ae q1 (ih v1 o1 o2 o3 B W S K2)
 |@Xv ty u c v _ _ _ _ _ h ih=>
  exact λB W S H=>ae (by show eN (iO _ _ _ _ _ _) S=_;rw[c.ok v];rfl) (ih B W S H)
 |@Xw ty u c v _ _ _ _ _ h ih=>
  exact λB W S H=>ae (by show eN (iO _ _ _ _ _ _) S=_;rw[c.ok v];rfl) (ih B W S H)
 |bsl e ha e2 h ih=>
  have he:=ha.eq;subst he;intro B W S H;refine ae (v:=.sl S.next 0 _ _) (S1:=S.new (.row _)) ?_ (ih S.next B W _ (H.gD (aR.new S _) (bk _ _) ?_))
  .show eI _ _ _ _ S=_;unfold eI;rw[e];simp only[e2];rfl
  .intro j hj;simp only[Own.ids,List.mem_singleton] at hj;subst hj;simp
 |cvI e h ih=>exact λB W S H=>ae (u_ (wrap64 e.out.1 e.out.2)) (ih B W S H)
 |cvU h ih=>exact λB W S H=>ae (u_ (by rw[bw,IntKind.wrap_u64])) (ih B W S H)
 |cvV h ih=>exact λB W S H=>ae (u_ (by rw[bw,IntKind.wrap_u32])) (ih B W S H)
 |@Xy _ _ _ n _ _ _ _ _ e h ih=>
  exact λB W S H=>yr (Ha e.out) (by cases n<;>exact ih B W S H)
 |@Xz _ n _ _ _ _ _ e h ih=>exact λB W S H=>yr (M_ e.out) (by cases n<;>exact ih B W S H)
 |@XA _ n _ _ _ _ _ _ _ _ e h ih=>exact λB W S H=>yr (Na e.out) (by cases n<;>exact ih B W S H)
 |@XB _ n _ _ _ _ _ e h ih=>exact λB W S H=>yr (Nb e.out) (by cases n<;>exact ih B W S H)
 |eqB e h ih=>
  intro B W S H;obtain⟨t,vs,S',⟨n0,h1⟩,h2⟩:=ih B W S H;exact ae (RF e.out) ⟨t,vs,S',⟨n0,λn hn=>by have:=h1 n hn;rw[ij] at this;exact this⟩,h2⟩
 |ld h1 h2 h ih=>
  intro B W S H;obtain⟨d,q1,q2⟩:=h1.nth h2 H;exact ae (ju q1 q2) (ih B W S H)
 |ldn h1 h2 h ih=>
  intro B W S H;obtain⟨d,q1,q2,q3⟩:=h1.cut h2 H;exact ae (yk q1 q2) (by rw[q3];exact ih B W S H)
 |sta ha h0 h2 h1 hn h ih=>
  have he:=ha.eq;subst he;exact λB W S H=>w9 H (vs:=_) (rfl:(AV.agg _).cells=_) rfl h2 h1 (by rw[<-hn,aS];rfl) (λS1 H1=>ih B W S1 H1)
 |st ha ho hc h0 h2 h1 h ih=>
  have he:=ha.eq;subst he;exact λB W S H=>w9 H hc ho h2 h1 rfl (λS1 H1=>ih B W S1 H1)
 |alloc ha h ih=>
  have he:=ha.eq;subst he;exact λB W S H=>fM H λp S1 H1=>ih p B W S1 H1
 |XC ha h ih=>
  have he:=ha.eq;subst he;exact λB W S H=>gf H rfl λp S1 H1=>ih p B W S1 H1
 |XD ha ho hc h ih=>
  have he:=ha.eq;subst he;exact λB W S H=>gf H ho λp S1 H1=>ih p B W S1 (by rw[hc] at H1;exact H1)
 |XE ha h ih=>
  have he:=ha.eq;subst he;exact λB W S H=>fR H rfl λp S1 H1=>ih p B W S1 H1
 |box ha ho hc h ih=>
  have he:=ha.eq;subst he;exact λB W S H=>fR H ho λp S1 H1=>ih p B W S1 (by rw[hc] at H1;exact H1)
 |@vc f args P v c _ _ _ _ _ hp h ih=>exact λB W S H=>dX H (c.ok hp.out S) λS1 H1=>ih B W S1 H1
 |@sc f args P v own ab c _ _ ro _ hp h ih=>
  intro B W S H;refine bW (aw (c.ok hp.out ro [] B W S (by rw[List.append_nil];exact H)) λr S1 q=>?_);obtain⟨rfl,H1⟩:=q;rw[List.append_nil] at H1;exact ih B W S1 H1
 |inl hk hb hl h ih=>exact λB W S H=>bW (aV hk hb (by rw[hl.eq];exact ih B W S H))
 |call hf ha h ih=>have he:=ha.eq;subst he;have he:=hf.eq;subst he;exact ih
def Hs (own tgt:List Own):Prop:=∃g,own.Perm (tgt++g)
theorem Hs.rfl' {l}:Hs l l:=⟨[],ac⟩
theorem Hs.of {l g tgt}(h:l.Perm (tgt++g)):Hs l tgt:=⟨g,h⟩
theorem Hs.drop {l tgt o}(h:Hs l tgt):Hs (o::l) tgt:=by obtain⟨g,h⟩:=h;exact⟨o::g,(List.Perm.cons o h).trans List.perm_middle.symm⟩
theorem Hs.cons {l tgt o}(h:Hs l tgt):Hs (o::l) (o::tgt):=by obtain⟨g,h⟩:=h;exact⟨g,List.Perm.cons o h⟩
theorem Hs.perm {l l' tgt}(h:Hs l tgt)(hp:l'.Perm l):Hs l' tgt:=by obtain⟨g,h⟩:=h;exact⟨g,hp.trans h⟩
inductive Rw:List Own->Own->List Own->Prop
 |hd {o r}:Rw (o::r) o r
 |tl {o x r r'}(h:Rw r o r'):Rw (x::r) o (x::r')
 |ap {o l r r'}(h:Rw r o r'):Rw (l++r) o (l++r')
inductive Rl:List Own->List Own->List Own->Prop
 |hd {l r}:Rl (l++r) l r
 |tl {x l r r'}(h:Rl r l r'):Rl (x::r) l (x::r')
 |ap {l l' r r'}(h:Rl r l r'):Rl (l'++r) l (l'++r')
theorem Rw.perm {a b o}(h:Rw a o b):a.Perm (o::b):=by
 induction h with
 |hd=>exact .refl _
 |tl h ih=>exact(ih.cons _).trans (.swap _ _ _)
 |ap h ih=>exact(ih.append_left _).trans List.perm_middle
theorem Rl.perm {a l b}(h:Rl a l b):a.Perm (l++b):=by
 induction h with
 |hd=>exact .refl _
 |tl h ih=>exact(ih.cons _).trans List.perm_middle.symm
 |@ap l l' r r' h ih=>refine(ih.append_left l').trans ?_;rw[<-List.append_assoc,<-List.append_assoc];exact List.Perm.append_right _ List.perm_append_comm
inductive Hq:List Own->List Own->Prop
 |rfl {l}:Hq l l
 |find {a b t o}(h:Rw a o b)(h2:Hq b t):Hq a (o::t)
 |as2 {a l l2 t}(h:Hq a (l++(l2++t))):Hq a ((l++l2)++t)
 |RU {a b l t}(h:Rl a l b)(h2:Hq b t):Hq a (l++t)
 |skip {a t o}(h:Hq a t):Hq (o::a) t
 |RV {a l t}(h:Hq a t):Hq (l++a) t
 |nil {a}:Hq a []
theorem Hq.hs {a t}(h:Hq a t):Hs a t:=by
 induction h with
 |rfl=>exact .rfl'
 |find h _ ih=>
  obtain⟨g,ih⟩:=ih;exact⟨g,h.perm.trans (ih.cons _)⟩
 |RU h _ ih=>
  obtain⟨g,ih⟩:=ih;exact⟨g,h.perm.trans (by rw[List.append_assoc];exact ih.append_left _)⟩
 |as2 _ ih=>rw[List.append_assoc];exact ih
 |skip _ ih=>exact ih.drop
 |@RV a l t _ ih=>
  obtain⟨g,ih⟩:=ih;refine⟨l++g,(ih.append_left l).trans ?_⟩;rw[<-List.append_assoc,<-List.append_assoc];exact List.Perm.append_right _ List.perm_append_comm
 |nil=>exact⟨_,.refl _⟩
theorem Hs.cx {l tgt}(h:Hs l tgt)(H:Cx B0 W S l ro):Cx B0 W S tgt ro:=by obtain⟨g,h⟩:=h;exact(H.hX h).yi (List.sublist_append_left _ _)
def jy (ro0:List aB)(Ψ:AV->List Own->Prop):gn:=λt vs own ro=>t=.ret/\ro=ro0/\∃tgt,Ψ (oneOf vs) tgt/\Hs own tgt
theorem Vx.fn {f:Nat}{fa args fc b Ψ}(hk:M.kn.v f (fa++(args++fc))=none)(hb:M.iP f=some b)(h:Zx M false (b (fa++(args++fc))) [] own ro (jy ro Ψ))(H:Cx B0 W S own ro):aG M (.fn (.func f) fa fc) args S λr S'=>∃ab,Ψ r ab/\Cx B0 W S' ab ro:=
 aV hk hb (wp_mono (h.ok B0 W S H) λt vs S' ⟨ab,GM,⟨ht,hr,tgt,h1,h2⟩,h3⟩=>⟨ht,tgt,h1,by subst hr;exact h2.cx h3⟩)
theorem Vx.fm {f:Nat}{fa args fc b Ψ o1}(H:Cx B0 W S o1 ro)(e:o1=own)(h:Zx M false (b (fa++(args++fc))) [] own ro (jy ro Ψ))(hk:M.kn.v f (fa++(args++fc))=none:=by exact rfl)(hb:M.iP f=some b:=by exact rfl):aG M (.fn (.func f) fa fc) args S λr S'=>∃ab,Ψ r ab/\Cx B0 W S' ab ro:=by subst e;exact Vx.fn hk hb h H
theorem Zx.spec {f:AV}{args:List AV}{Ψ:AV->List Own->Prop}(hc:∀B W S,Cx B W S own ro->aG M f args S λr S'=>∃ab,Ψ r ab/\Cx B W S' ab ro)(h:∀r ab,Ψ r ab->Zx M false (k r) K ab ro Φ):Zx M false (.call f args k) K own ro Φ:=
 .z (.of λB W S H=>bW (aw (hc B W S H) λr S' ⟨ab,h1,h2⟩=>(h r ab h1).ok B W S' h2))
theorem Vx.spec {f:AV}{args:List AV}{Ψ:AV->List Own->Prop}(hc:∀B W S,Cx B W S own ro->aG M f args S λr S'=>∃ab,Ψ r ab/\Cx B W S' ab ro)(h:∀r ab,Ψ r ab->Zx M false (k r) K ab ro Φ):Vx M (.call f args k) K own ro Φ:=
 λB W S H=>bW (aw (hc B W S H) λr S' ⟨ab,h1,h2⟩=>(h r ab h1).ok B W S' h2)
theorem Zx.perm {x}(hp:own.Perm ab)(h:Zx M false x K ab ro Φ):Zx M false x K own ro Φ:=.z (.of λB W S H=>h.ok B W S (H.hX hp))
theorem Vx.Qj {vs body outs}(h:Vx M (body vs) (.loop body outs::K) own ro Φ):Vx M (.ret .normal vs) (.loop body outs::K) own ro Φ:=λB W S H=>wp_ret (.inl ⟨rfl,nL (h B W S H)⟩)
theorem Vx.loop {vs body outs}(h:Vx M (body vs) (.loop body outs::K) own ro Φ):Vx M (.loop vs body outs) K own ro Φ:=λB W S H=>wp_loop (nL (h B W S H))
theorem Vx.bB {x}(hs:Hs ab own)(h:Vx M x K own ro Φ):Vx M x K ab ro Φ:=λB W S H=>h B W S (hs.cx H)
theorem Zx.bB {x}(hs:Hs ab own)(h:Zx M false x K own ro Φ):Zx M false x K ab ro Φ:=.z (.of (h.ok.bB hs))
theorem Vx.RW {body outs}(N:Nat)(P:Nat->Prop)(h0:P 0)
  (hs:∀i:Nat,i<N->P i->(P (i+1)->Vx M (.ret .normal [I ((i:Int)+1)]) (.loop body outs::K) own ro Φ)->Zx M false (body [I (i:Int)]) (.loop body outs::K) own ro Φ)
  (he:P N->Zx M false (body [I (N:Int)]) (.loop body outs::K) own ro Φ):Vx M (.loop [I 0] body outs) K own ro Φ:=by
 have key:∀k i:Nat,i+k=N->P i->Vx M (body [I (i:Int)]) (.loop body outs::K) own ro Φ:=by
  intro k;induction k with
  |zero=>
   intro i hi hp;obtain rfl:i=N:=am;exact(he hp).ok
  |succ k ih=>
   intro i hi hp;exact(hs i am hp λRX=>Vx.Qj (by
    have:=ih (i+1) am RX
    rwa[show((i+1:Nat):Int)=(i:Int)+1 by omega] at this)).ok
 exact Vx.loop (key N 0 am h0)
theorem VC.of {f:Nat}{fa args fc b}{P:Prop}{v}(hk:M.kn.v f (fa++(args++fc))=none)(hb:M.iP f=some b)(h:P->Zx M false (b (fa++(args++fc))) [] [] [] λt vs _ _=>t=.ret/\oneOf vs=v):VC M (.fn (.func f) fa fc) args P v where
 ok:=λhp S=>aV hk hb (wp_mono ((h hp).ok S [] S (Cx.enter ac)) λt vs S' ⟨_,_,⟨ht,h1⟩,h3⟩=>⟨ht,h1,h3.cr⟩)
theorem NS.of {f:Nat}{fa args fc b}{P:Prop}{L}(hk:M.kn.v f (fa++(args++fc))=none)(hb:M.iP f=some b)(h:P->∀ro R,Zx M false (b (fa++(args++fc))) [] (own++R) ro (jy ro λr l=>l=.sl r 1 L::(own++R))):NS M (.fn (.func f) fa fc) args own P L where
 ok:=λhp ro R B W S H=>aw (Vx.fn hk hb (h hp ro R) H) λr S' ⟨l,h1,h3⟩=>by subst h1;exact h3
theorem NC.of {f:Nat}{fa args fc b}{P:Prop}{Q}(hk:M.kn.v f (fa++(args++fc))=none)(hb:M.iP f=some b)(h:P->∀ro R,Zx M false (b (fa++(args++fc))) [] R ro (jy ro λr l=>∃p l',Q p l'/\r=.ptr p 0/\l=l'++R)):NC M (.fn (.func f) fa fc) args P Q where
 ok:=λhp ro R B W S H=>aw (Vx.fn hk hb (h hp ro R) H) λr S' ⟨l,⟨p,l',h1,h2,h4⟩,h3⟩=>⟨p,l',h1,h2,by subst h4;exact h3⟩
theorem SC.of {f:Nat}{fa args fc b}{P:Prop}{v}(hk:M.kn.v f (fa++(args++fc))=none)(hb:M.iP f=some b)(h:P->∀ro R,Zx M false (b (fa++(args++fc))) [] (own++R) ro (jy ro λr l=>r=v/\l=ab++R)):SC M (.fn (.func f) fa fc) args own P v ab where
 ok:=λhp ro R B W S H=>aw (Vx.fn hk hb (h hp ro R) H) λr S' ⟨l,⟨h1,h2⟩,h3⟩=>⟨h1,by subst h2;exact h3⟩
end
def bq (l:List Int):List (List AV):=l.map λn=>[U n]
theorem eD (l:List Int):(bq l).length=l.length:=List.length_map ..
theorem jX {l}{i:Nat}{n:Int}(h:l[i]?=some n):(bq l)[i]?=some [U n]:=by unfold bq;rw[List.getElem?_map,h];rfl
theorem Em (l:List Int)(i:Nat)(n:Int):(bq l).set i [U n]=bq (l.set i n):=by unfold bq;rw[List.map_set]
structure Me where
 ws:List Int
 kind:Int
 cb:Int
 iR:Int
 new:Int
 held:Bool
 n:Int
namespace Me
def last (x:Me):List AV:=[I x.kind,I x.cb,U x.iR,U x.new,B x.held]
def td (x:Me)(bl:Nat):List AV:=.ptr bl 0::I x.ws.length::(x.last++[I x.n])
def JU (x:Me)(v:AV):List AV:=v::(x.last++[I x.n])
def has (x:Me)(a:Int):Prop:=0<=a/\a<x.ws.length
instance z12 (x:Me)(a:Int):Decidable (x.has a):=inferInstanceAs (Decidable (_/\_))
def word (x:Me)(a:Int):Int:=if x.has a then x.ws[a.toNat]?.getD 0 else 0
def acc (x:Me)(kind a w:Int)(held:Bool):Me:=if x.has a then⟨x.ws.set a.toNat w,kind,a,x.word a,w,held,x.n+1⟩ else⟨x.ws,kind,a,0,0,false,x.n+1⟩
def ld (x:Me)(a:Int):Me:=x.acc 1 a (x.word a) false
def st (x:Me)(a w:Int):Me:=x.acc 2 a w true
def eL (x:Me)(a o n:Int):Me:=x.acc 3 a (if x.word a=o then n else x.word a) (decide (x.word a=o))
def add (x:Me)(a n:Int):Me:=x.acc 4 a ((x.word a+n)%18446744073709551616) true
def eq (x:Me)(a o:Int):Prop:=x.has a/\x.word a=o
instance z13 (x:Me)(a o:Int):Decidable (x.eq a o):=inferInstanceAs (Decidable (_/\_))
abbrev ar (w:Int):Prop:=0<=w/\w<18446744073709551616
def gd (x:Me):Prop:=(1<=x.ws.length/\x.ws.length<=4096/\0<=x.n/\x.n<=4611686018427387904)/\∀w∈x.ws,ar w
theorem tJ {x:Me}{a:Nat}{w:Int}(h:x.ws[a]?=some w):x.word (a:Int)=w:=by have:=(List.getElem?_eq_some_iff.1 h).1;unfold word;rw[if_pos (show x.has a from⟨am,am⟩),Int.toNat_natCast,h];rfl
theorem aj {x:Me}(h:x.gd)(a:Int):ar (x.word a):=by
 unfold word;split
 .next hh=>
  have hn:a.toNat<x.ws.length:=by have:=hh.2;have:=hh.1;omega
  rw[List.getElem?_eq_getElem hn];exact h.2 _ (List.getElem_mem hn)
 .unfold ar;omega
theorem Al {x:Me}{a o n:Int}:(x.eL a o n).held=decide (x.eq a o):=by
 unfold eL acc eq;by_cases h:x.has a
 .rw[if_pos h];show decide _=decide _;rw[Bool.eq_iff_iff];simp[h]
 .rw[if_neg h];simp[h]
theorem yt {x:Me}{k a w:Int}{h:Bool}:(x.acc k a w h).ws.length=x.ws.length:=by
 unfold acc;split<;>simp
theorem He {x:Me}{k a w:Int}{h:Bool}:(x.acc k a w h).n=x.n+1:=by
 unfold acc;split<;>rfl
theorem Nc {x:Me}{k a w:Int}{h:Bool}(hx:x.gd)(hn:x.n<4611686018427387904)(hw:ar w):(x.acc k a w h).gd:=by
 obtain⟨⟨h1,h2,h3,h4⟩,h5⟩:=hx;refine⟨⟨by rw[yt];exact h1,by rw[yt];exact h2,by rw[He];omega,by rw[He];omega⟩,?_⟩;unfold acc;split
 .intro v hv;rcases List.mem_or_eq_of_mem_set hv with hv|rfl;.exact h5 v hv
  .exact hw
 .exact h5
end Me
def ad (m bl:Nat)(x:Me)(rest:List AV):List Own:=[.obj m (.row (x.td bl)),.obj bl (.row (x.ws.map U++rest))]
def ai (w:Nat)(v:AV)(x:Me):List Own:=[.obj w (.row (x.JU v)),.sl v 1 (bq x.ws)]
section
variable{M:cQ}{own ab:List Own}{ro:List aB}{Φ:gn}{K:List Kf}{k:AV->AC}{S:AH}{B0:AH}{W:List Nat}{Q:ga}
def eW {α:Type}(R:α->List Own->Prop)(ov:α->Bool)(st:α×Me)(mem:Me->List Own)(R0:List Own):AV->List Own->Prop:=λr ab=>∃l',(R st.1 l'/\r=B (ov st.1))/\ab=l'++(mem st.2++R0)
theorem aa {α:Type}{R:α->List Own->Prop}{ov:α->Bool}{st:α×Me}{mem:Me->List Own}{R0 l':List Own}{b:Bool}{a':α}{x':Me}(e:st=(a',x'))(hR:R a' l')(hb:ov a'=b)(hs:Hs own (l'++(mem x'++R0))):jy ro (eW R ov st mem R0) .ret [cO.B b] own ro:=by subst e;subst hb;exact⟨rfl,rfl,_,⟨l',⟨hR,rfl⟩,rfl⟩,hs⟩
theorem tL {A l mm R:List Own}:(A++(l++(mm++R))).Perm (l++(mm++(A++R))):=by
 have h1:(A++(l++(mm++R))).Perm ((l++mm)++(A++R)):=by rw[<-List.append_assoc l,<-List.append_assoc A,<-List.append_assoc (l++mm)];exact List.Perm.append_right R List.perm_append_comm
 rwa[List.append_assoc l] at h1
theorem Vx.fV {α:Type}{Rl:α->List Own->Prop}{ov:α->Bool}{st:α×Me}{mem:Me->List Own}{A l R:List Own}{x:Me}{f:AV}{args:List AV}
  (hc:∀B W S,Cx B W S (l++(mem x++(A++R))) ro->aG M f args S λr S'=>∃ab,eW Rl ov st mem (A++R) r ab/\Cx B W S' ab ro)
  (h:∀a' x' l',st=(a',x')->Rl a' l'->Zx M false (k (cO.B (ov a'))) K (A++(l'++(mem x'++R))) ro Φ):Vx M (.call f args k) K (A++(l++(mem x++R))) ro Φ:=
 λB W S H=>bW (aw (hc B W S (H.hX tL)) λr S' ⟨ab,⟨l',⟨h1,h2⟩,h3⟩,h4⟩=>by
  subst h2 h3;exact(h st.1 st.2 l' rfl h1).ok B W S' (h4.hX tL.symm))
end
def idx (size w:Int):Int:=if w%65536-1<size then w%65536-1 else-1
def Am (i w:Int):Int:=i+1+(w/65536+1)%281474976710656*65536
structure Sk where
 top:Int
 gp:Int
 size:Int
inductive pO
 |a
 |b (w i:Int)
 |c (w i j:Int)
 |d (i:Int)
namespace pO
def over:pO->Bool|.d _=>true|_=>false
def step (s:Sk):pO->Me->pO×Me
 |.a,x=>(if idx s.size (x.word s.top)<0 then .d (-1) else .b (x.word s.top) (idx s.size (x.word s.top)),x.ld s.top)
 |.b w i,x=>(.c w i (idx s.size (x.word (s.gp+i))),x.ld (s.gp+i))
 |.c w i j,x=>(if x.eq s.top w then .d i else .a,x.eL s.top w (Am j w))
 |.d i,x=>(.d i,x)
end pO
inductive kI
 |a
 |b (w:Int)
 |c (w:Int)
 |d (e:Int)
namespace kI
def over:kI->Bool|.d _=>true|_=>false
def new (s:Sk)(i:Int):kI:=if i<0\/s.size<=i then .d 3 else .a
def step (s:Sk)(i:Int):kI->Me->kI×Me
 |.a,x=>(.b (x.word s.top),x.ld s.top)
 |.b w,x=>(.c w,x.st (s.gp+i) (idx s.size w+1))
 |.c w,x=>(if x.eq s.top w then .d 0 else .a,x.eL s.top w (Am i w))
 |.d e,x=>(.d e,x)
end kI
inductive te
 |a
 |b (w i:Int)
 |d (i:Int)
namespace te
def over:te->Bool|.d _=>true|_=>false
def step (s:Sk):te->Me->te×Me
 |.a,x=>(if idx s.size (x.word s.top)<0 then .d (-1) else .b (x.word s.top) (idx s.size (x.word s.top)),x.ld s.top)
 |.b w i,x=>(if x.eq s.top w then .d i else .a,x.eL s.top w (Am (-1) w))
 |.d i,x=>(.d i,x)
end te
structure Ar where
 f:Sk
 km:Int
 lW:Int
 Fq:Int
inductive bN
 |p (s:pO)
 |g (i:Int)
 |w
 |d (r e:Int)
namespace bN
def over:bN->Bool|.d _ _=>true|_=>false
def kh:pO->bN
 |.d i=>if i<0 then .w else .g i
 |s=>.p s
def step (a:Ar):bN->Me->bN×Me
 |.p s,x=>(kh (s.step a.f x).1,(s.step a.f x).2)
 |.g i,x=>(.d (i+1+x.word (a.km+i)%4294967296*65536) 0,x.ld (a.km+i))
 |.w,x=>(.d 0 (if a.f.size<=x.word a.lW then 12 else 7),x.ld a.lW)
 |.d r e,x=>(.d r e,x)
end bN
inductive jY
 |l
 |r (g:Int)
 |u (s:kI)
 |w
 |d (e:Int)
namespace jY
def over:jY->Bool|.d _=>true|_=>false
def new (a:Ar)(i:Int):jY:=if i<0\/a.f.size<=i then .d 3 else .l
def step (a:Ar)(i:Int):jY->Me->jY×Me
 |.l,x=>(if a.Fq<=x.word (a.km+i)%4294967296 then .w else .r (x.word (a.km+i)),x.ld (a.km+i))
 |.r g,x=>(.u .a,x.st (a.km+i) ((g+1)%18446744073709551616))
 |.u s,x=>(if(s.step a.f i x).1.over then .d 0 else .u (s.step a.f i x).1,(s.step a.f i x).2)
 |.w,x=>(.d 0,x.add a.lW 1)
 |.d e,x=>(.d e,x)
end jY
structure Ep where
 cb:Int
 pins:Int
 ah:Int
inductive m_
 |a
 |b (p:Int)
 |c (p:Int)
 |d (p e:Int)
namespace m_
def over:m_->Bool|.d _ _=>true|_=>false
def new (e:Ep)(c:Int):m_:=if c<0\/e.ah<=c then .d 0 3 else .a
def step (e:Ep)(c:Int):m_->Me->m_×Me
 |.a,x=>(.b (x.word e.cb%4294967296),x.ld e.cb)
 |.b p,x=>(.c p,x.st (e.pins+c) (p+1))
 |.c p,x=>(if x.word e.cb%4294967296=p then .d p 0 else .b (x.word e.cb%4294967296),x.ld e.cb)
 |.d p e,x=>(.d p e,x)
end m_
inductive cG
 |a
 |d (e:Int)
namespace cG
def over:cG->Bool|.d _=>true|_=>false
def new (e:Ep)(c:Int):cG:=if c<0\/e.ah<=c then .d 3 else .a
def step (e:Ep)(c:Int):cG->Me->cG×Me
 |.a,x=>(.d 0,x.st (e.pins+c) 0)
 |.d e,x=>(.d e,x)
end cG
inductive jc
 |a
 |b (w n:Int)
 |c (w:Int)
 |d (e:Int)
namespace jc
def over:jc->Bool|.d _=>true|_=>false
def new (e:Ep)(c:Int):jc:=if c<0\/e.ah<=c then .d 3 else .a
def skip (e:Ep)(c w n:Int):jc:=if e.ah<=(if n=c then n+1 else n) then .c w else .b w (if n=c then n+1 else n)
def step (e:Ep)(c p:Int):jc->Me->jc×Me
 |.a,x=>(if x.word e.cb%4294967296=p then skip e c (x.word e.cb) 0 else .d 14,x.ld e.cb)
 |.b w n,x=>(if x.word (e.pins+n)=0\/x.word (e.pins+n)=p+1 then skip e c w (n+1) else .d 14,x.ld (e.pins+n))
 |.c w,x=>(if x.eq e.cb w then .d 0 else .d 14,x.eL e.cb w (p+1))
 |.d e,x=>(.d e,x)
end jc
structure Lb where
 a:Ar
 e:Ep
 vd:Int
def Lb.wait (l:Lb)(k:Int):Sk:=⟨l.vd+k,l.a.f.gp,l.a.f.size⟩
inductive iy
 |a
 |b (k:Int)(s:kI)
 |d (e:Int)
namespace iy
def over:iy->Bool|.d _=>true|_=>false
def new (l:Lb)(i:Int):iy:=if i<0\/l.a.f.size<=i then .d 3 else .a
def step (l:Lb)(i:Int):iy->Me->iy×Me
 |.a,x=>(.b (x.word l.e.cb%4294967296%3) .a,x.ld l.e.cb)
 |.b k s,x=>(if(s.step (l.wait k) i x).1.over then .d 0 else .b k (s.step (l.wait k) i x).1,(s.step (l.wait k) i x).2)
 |.d e,x=>(.d e,x)
end iy
inductive eX
 |v (s:jc)
 |t (s:te)
 |l (i n:Int)
 |f (i j n:Int)(s:jY)
 |d (n e:Int)
namespace eX
def over:eX->Bool|.d _ _=>true|_=>false
def new (l:Lb)(c p:Int):eX:=if c<0\/l.e.ah<=c\/p<0 then .d 0 3 else .v .a
def Hf:jc->eX
 |.d e=>if e=0 then .t .a else .d 0 e
 |s=>.v s
def Hg:te->eX
 |.d i=>if i<0 then .d 0 0 else .l i 0
 |s=>.t s
def step (l:Lb)(c p:Int):eX->Me->eX×Me
 |.v s,x=>(Hf (s.step l.e c p x).1,(s.step l.e c p x).2)
 |.t s,x=>(Hg (s.step (l.wait ((p+2)%3)) x).1,(s.step (l.wait ((p+2)%3)) x).2)
 |.l i n,x=>(.f i (x.word (l.a.f.gp+i)%65536-1) n .l,x.ld (l.a.f.gp+i))
 |.f i j n s,x=>(if(s.step l.a i x).1.over then(if j<0\/l.a.f.size<=j\/l.a.f.size<=n+1 then .d (n+1) 0 else .l j (n+1)) else .f i j n (s.step l.a i x).1,(s.step l.a i x).2)
 |.d n e,x=>(.d n e,x)
end eX
structure Rn where
 head:Int
 tail:Int
 eY:Int
 size:Int
namespace Rn
def place (r:Rn)(t:Int):Int:=r.eY+t%r.size
def tf (r:Rn)(t:Int):Int:=t/r.size%4294967296
end Rn
def jd (w l:Int):Prop:=w/4294967296=l/\w/65536%2=1
def jz (w l:Int):Prop:=w/4294967296=l/\w/65536%2=0
instance z14 (w l:Int):Decidable (jd w l):=inferInstanceAs (Decidable (_/\_))
instance z15 (w l:Int):Decidable (jz w l):=inferInstanceAs (Decidable (_/\_))
inductive b7
 |a
 |b (t:Int)
 |c (t w:Int)
 |l (t:Int)
 |h (t:Int)
 |d (e:Int)
namespace b7
def over:b7->Bool|.d _=>true|_=>false
def step (r:Rn)(v:Int):b7->Me->b7×Me
 |.a,x=>(.b (x.word r.tail),x.ld r.tail)
 |.b t,x=>(if jz (x.word (r.place t)) (r.tf t) then .c t (x.word (r.place t)) else if jd (x.word (r.place t)) ((r.tf t+4294967296-1)%4294967296) then .d 7 else .h t,x.ld (r.place t))
 |.c t w,x=>(if x.eq (r.place t) w then .l t else .h t,x.eL (r.place t) w (r.tf t*4294967296+65536+v))
 |.l t,x=>(.d 0,x.eL r.tail t ((t+1)%18446744073709551616))
 |.h t,x=>(.a,x.eL r.tail t ((t+1)%18446744073709551616))
 |.d e,x=>(.d e,x)
end b7
inductive eM
 |a
 |b (h:Int)
 |d (h v e:Int)
namespace eM
def over:eM->Bool|.d _ _ _=>true|_=>false
def step (r:Rn):eM->Me->eM×Me
 |.a,x=>(.b (x.word r.head),x.ld r.head)
 |.b h,x=>(if jd (x.word (r.place h)) (r.tf h) then .d h (x.word (r.place h)%65536) 0 else .d h 0 15,x.ld (r.place h))
 |.d h v e,x=>(.d h v e,x)
end eM
inductive jZ
 |a
 |b
 |d
namespace jZ
def over:jZ->Bool|.d=>true|_=>false
def step (r:Rn)(h:Int):jZ->Me->jZ×Me
 |.a,x=>(.b,x.st (r.place h) ((r.tf h+1)%4294967296*4294967296))
 |.b,x=>(.d,x.st r.head ((h+1)%18446744073709551616))
 |.d,x=>(.d,x)
end jZ
structure Tw where
 nd:Int
 hd:Int
 ht:Int
 l:Lb
namespace Tw
def size (t:Tw):Int:=t.l.a.f.size
def pt (t:Tw)(i k:Int):Int:=t.nd+i*(4+t.ht)+k
def nx (t:Tw)(i l:Int):Int:=if i=-1 then t.hd+l else t.pt i (4+l)
def ix (t:Tw)(w:Int):Int:=idx t.size w
end Tw
inductive mD
 |s (k:Nat)
 |d (e:Int)
namespace mD
def over:mD->Bool|.d _=>true|_=>false
def step (t:Tw)(ref key aq high:Int):mD->Me->mD×Me
 |.s 0,x=>(.s 1,x.st (t.pt (t.ix ref) 0) key)
 |.s 1,x=>(.s 2,x.st (t.pt (t.ix ref) 1) aq)
 |.s 2,x=>(.s 3,x.st (t.pt (t.ix ref) 2) high)
 |.s _,x=>(.d 0,x.st (t.pt (t.ix ref) 3) 2)
 |.d e,x=>(.d e,x)
end mD
structure Sp where
 pred:Int
 known:Int
 cur:Int
def Sp.z:Sp:=⟨0,0,0⟩
abbrev gr:=List Sp
def gr.cb (T:gr)(l:Nat):Sp:=(T[l]?).getD Sp.z
inductive bS
 |a (l:Nat)(pred known:Int)(T:gr)
 |b (l:Nat)(pred known cur:Int)(T:gr)
 |c (l:Nat)(pred known cur w:Int)(T:gr)
 |e (l:Nat)(pred known cur w:Int)(T:gr)
 |d (T:gr)
namespace bS
def over:bS->Bool|.d _=>true|_=>false
def i6 (t:Tw)(T:gr):bS:=.a (t.ht-1).toNat (-1) 0 T
def new (t:Tw):bS:=i6 t (List.replicate t.ht.toNat Sp.z)
def done (l:Nat)(pred known cur:Int)(T:gr):bS:=match l with
 |0=>.d (T.set 0 ⟨pred,known,cur⟩)
 |l+1=>.a l pred known (T.set (l+1) ⟨pred,known,cur⟩)
def looks (t:Tw)(l:Nat)(pred known cur:Int)(T:gr):bS:=if t.ix cur<0 then done l pred known cur T else .b l pred known cur T
def cM:bS->Int
 |.a _ _ known _=>known
 |.b _ _ _ cur _=>cur
 |.c _ _ known _ _ _=>known
 |.e _ _ _ cur _ _=>cur
 |.d _=>0
def step (t:Tw)(key:Int):bS->Me->bS×Me
 |.a l pred known T,x=>(if 9223372036854775808<=x.word (t.nx pred l) then i6 t T else looks t l pred known (x.word (t.nx pred l)) T,x.ld (t.nx pred l))
 |.b l pred known cur T,x=>(if 9223372036854775808<=x.word (t.nx (t.ix cur) l) then .c l pred known cur (x.word (t.nx (t.ix cur) l)) T else .e l pred known cur (x.word (t.nx (t.ix cur) l)) T,x.ld (t.nx (t.ix cur) l))
 |.c l pred known cur w T,x=>(if x.eq (t.nx pred l) cur then looks t l pred known (w-9223372036854775808) T else i6 t T,x.eL (t.nx pred l) cur (w-9223372036854775808))
 |.e l pred known cur w T,x=>(if x.word (t.pt (t.ix cur) 0)<key then looks t l (t.ix cur) cur w T else done l pred known cur T,x.ld (t.pt (t.ix cur) 0))
 |.d T,x=>(.d T,x)
end bS
inductive cW
 |f (F:bS)
 |s (l:Nat)(T:gr)
 |e (T:gr)
 |l (l:Nat)(T:gr)
 |t (l:Nat)(w:Int)(T:gr)
 |k (l:Nat)(T:gr)
 |g (l:Nat)(F:bS)
 |o (l:Nat)(T:gr)
 |q
 |c (F:bS)
 |r
 |w (R:iy)
 |d (e:Int)
namespace cW
def over:cW->Bool|.d _=>true|_=>false
def cM (ref:Int):cW->Int
 |.f F=>F.cM
 |.e T=>(T.cb 0).known
 |.k v T=>(T.cb v).known
 |.g _ F=>F.cM
 |.c F=>F.cM
 |.w _=>0
 |.d _=>0
 |_=>ref
def up (high:Int)(v:Nat)(T:gr):cW:=if high<=v then .q else .l v T
def Hh:bS->cW
 |.d T=>.s 0 T
 |F=>.f F
def Hi (v:Nat):bS->cW
 |.d T=>.o v T
 |F=>.g v F
def step (t:Tw)(ref key high:Int):cW->Me->cW×Me
 |.f F,x=>(Hh (F.step t key x).1,(F.step t key x).2)
 |.s v T,x=>(if high<=v+1 then .e T else .s (v+1) T,x.st (t.nx (t.ix ref) v) (T.cb v).cur)
 |.e T,x=>(if x.eq (t.nx (T.cb 0).pred 0) (T.cb 0).cur then up high 1 T else .f (.new t),x.eL (t.nx (T.cb 0).pred 0) (T.cb 0).cur ref)
 |.l v T,x=>(if 9223372036854775808<=x.word (t.nx (t.ix ref) v) then .q else if x.word (t.nx (t.ix ref) v)=(T.cb v).cur then .k v T else .t v (x.word (t.nx (t.ix ref) v)) T,x.ld (t.nx (t.ix ref) v))
 |.t v u T,x=>(if x.eq (t.nx (t.ix ref) v) u then .k v T else .q,x.eL (t.nx (t.ix ref) v) u (T.cb v).cur)
 |.k v T,x=>(if x.eq (t.nx (T.cb v).pred v) (T.cb v).cur then up high (v+1) T else .g v (.new t),x.eL (t.nx (T.cb v).pred v) (T.cb v).cur ref)
 |.g v F,x=>(Hi v (F.step t key x).1,(F.step t key x).2)
 |.o v T,x=>(if 9223372036854775808<=x.word (t.nx (t.ix ref) 0) then .c (.new t) else .l v T,x.ld (t.nx (t.ix ref) 0))
 |.q,x=>(if 9223372036854775808<=x.word (t.nx (t.ix ref) 0) then .c (.new t) else .r,x.ld (t.nx (t.ix ref) 0))
 |.c F,x=>(if(F.step t key x).1.over then .r else .c (F.step t key x).1,(F.step t key x).2)
 |.r,x=>(if(x.add (t.pt (t.ix ref) 3) 18446744073709551615).new=0 then .w (.new t.l (t.ix ref)) else .d 0,x.add (t.pt (t.ix ref) 3) 18446744073709551615)
 |.w R,x=>(if(R.step t.l (t.ix ref) x).1.over then .d 0 else .w (R.step t.l (t.ix ref) x).1,(R.step t.l (t.ix ref) x).2)
 |.d er,x=>(.d er,x)
end cW
inductive cj
 |a
 |b (A i:Int)
 |c (A w:Int)
 |m (A i:Int)
 |n (A i:Int)(l:Nat)
 |o (A i:Int)(l:Nat)(w:Int)
 |k (A i:Int)
 |h (A i w:Int)
 |r (A i:Int)
 |j (A i key:Int)
 |f (A i key aq:Int)(F:bS)
 |g (A i key aq:Int)
 |w (i key aq:Int)(R:iy)
 |d (key aq e:Int)
namespace cj
def over:cj->Bool|.d _ _ _=>true|_=>false
def cM:cj->Int
 |.a=>0
 |.b A _=>A
 |.c _ _=>0
 |.m A _=>A
 |.n A _ _=>A
 |.o A _ _ _=>A
 |.k A _=>A
 |.h A _ _=>A
 |.r A _=>A
 |.j A _ _=>A
 |.f _ _ _ _ F=>F.cM
 |.g A _ _ _=>A
 |.w _ _ _ _=>0
 |.d _ _ _=>0
def below (A i:Int)(l:Nat):cj:=if l<=1 then .k A i else .n A i (l-1)
def step (t:Tw)(look:Bool):cj->Me->cj×Me
 |.a,x=>(if t.ix (x.word (t.nx (-1) 0))<0 then .d 0 0 15 else .b (x.word (t.nx (-1) 0)) (t.ix (x.word (t.nx (-1) 0))),x.ld (t.nx (-1) 0))
 |.b A i,x=>(if 9223372036854775808<=x.word (t.nx i 0) then .c A (x.word (t.nx i 0)) else if look then .r A i else .m A i,x.ld (t.nx i 0))
 |.c A u,x=>(.a,x.eL (t.nx (-1) 0) A (u-9223372036854775808))
 |.m A i,x=>(below A i (min (x.word (t.pt i 2)) t.ht).toNat,x.ld (t.pt i 2))
 |.n A i l,x=>(if 9223372036854775808<=x.word (t.nx i l) then below A i l else .o A i l (x.word (t.nx i l)),x.ld (t.nx i l))
 |.o A i l u,x=>(if x.eq (t.nx i l) u then below A i l else .n A i l,x.eL (t.nx i l) u (u+9223372036854775808))
 |.k A i,x=>(if 9223372036854775808<=x.word (t.nx i 0) then .c A (x.word (t.nx i 0)) else .h A i (x.word (t.nx i 0)),x.ld (t.nx i 0))
 |.h A i u,x=>(if x.eq (t.nx i 0) u then .r A i else .k A i,x.eL (t.nx i 0) u (u+9223372036854775808))
 |.r A i,x=>(.j A i (x.word (t.pt i 0)),x.ld (t.pt i 0))
 |.j A i key,x=>(if look then .d key (x.word (t.pt i 1)%65536) 0 else .f A i key (x.word (t.pt i 1)%65536) (.new t),x.ld (t.pt i 1))
 |.f A i key aq F,x=>(if(F.step t key x).1.over then .g A i key aq else .f A i key aq (F.step t key x).1,(F.step t key x).2)
 |.g A i key aq,x=>(if(x.add (t.pt i 3) 18446744073709551615).new=0 then .w i key aq (.new t.l i) else .d key aq 0,x.add (t.pt i 3) 18446744073709551615)
 |.w i key aq R,x=>(if(R.step t.l i x).1.over then .d key aq 0 else .w i key aq (R.step t.l i x).1,(R.step t.l i x).2)
 |.d key aq e,x=>(.d key aq e,x)
end cj
inductive aI
 |p (s:m_)(n:Nat)
 |a (s:bN)(n:Nat)(p:Int)
 |c (s:eX)(n:Nat)(p:Int)
 |l (s:cG)(n:Nat)
 |y (s:mD)(r:Int)
 |i (s:cW)(r:Int)
 |u (s:cG)(e:Int)
 |d (e:Int)
namespace aI
def over:aI->Bool|.d _=>true|_=>false
def cM (t:Tw)(key:Int):aI->Int
 |.y _ r=>r
 |.i s r=>s.cM r
 |_=>0
def B4 (n:Nat):m_->aI
 |.d q _=>.a (.p .a) n q
 |s=>.p s n
def iz (t:Tw)(c:Int)(n:Nat)(q:Int):bN->aI
 |.d r e=>if e=0 then .y (.s 0) r else if e=7/\n<3 then .c (.new t.l c q) (n+1) q else .u (.new t.l.e c) e
 |s=>.a s n q
def step (t:Tw)(c key aq high:Int):aI->Me->aI×Me
 |.p s n,x=>(B4 n (s.step t.l.e c x).1,(s.step t.l.e c x).2)
 |.a s n q,x=>(iz t c n q (s.step t.l.a x).1,(s.step t.l.a x).2)
 |.c s n q,x=>(if(s.step t.l c q x).1.over then .l (.new t.l.e c) n else .c (s.step t.l c q x).1 n q,(s.step t.l c q x).2)
 |.l s n,x=>(if(s.step t.l.e c x).1.over then .p (.new t.l.e c) n else .l (s.step t.l.e c x).1 n,(s.step t.l.e c x).2)
 |.y s r,x=>(if(s.step t r key aq high x).1.over then .i (.f (.new t)) r else .y (s.step t r key aq high x).1 r,(s.step t r key aq high x).2)
 |.i s r,x=>(if(s.step t r key high x).1.over then .u (.new t.l.e c) 0 else .i (s.step t r key high x).1 r,(s.step t r key high x).2)
 |.u s e,x=>(if(s.step t.l.e c x).1.over then .d e else .u (s.step t.l.e c x).1 e,(s.step t.l.e c x).2)
 |.d e,x=>(.d e,x)
end aI
inductive dY
 |p (s:m_)
 |c (s:cj)
 |u (s:cG)(key aq e:Int)
 |d (key aq e:Int)
namespace dY
def over:dY->Bool|.d _ _ _=>true|_=>false
def cM:dY->Int
 |.c s=>s.cM
 |_=>0
def kh (t:Tw)(c:Int):cj->dY
 |.d key aq e=>.u (.new t.l.e c) key aq e
 |s=>.c s
def step (t:Tw)(c:Int)(look:Bool):dY->Me->dY×Me
 |.p s,x=>(if(s.step t.l.e c x).1.over then .c .a else .p (s.step t.l.e c x).1,(s.step t.l.e c x).2)
 |.c s,x=>(kh t c (s.step t look x).1,(s.step t look x).2)
 |.u s key aq e,x=>(if(s.step t.l.e c x).1.over then .d key aq e else .u (s.step t.l.e c x).1 key aq e,(s.step t.l.e c x).2)
 |.d key aq e,x=>(.d key aq e,x)
end dY
def yu (w now apart:Int):Prop:=w≠0/\(now<w-1\/now-(w-1)<apart)
instance z16 (w now apart:Int):Decidable (yu w now apart):=inferInstanceAs (Decidable (_/\_))
inductive eE
 |a
 |b (w:Int)
 |d (e:Int)
namespace eE
def over:eE->Bool|.d _=>true|_=>false
def step (cb apart now:Int):eE->Me->eE×Me
 |.a,x=>(if yu (x.word cb) now apart then .d 13 else .b (x.word cb),x.ld cb)
 |.b w,x=>(if x.eq cb w then .d 0 else .a,x.eL cb w (now+1))
 |.d e,x=>(.d e,x)
end eE
structure Jb where
 bE:Int
 keys:Int
 f:Sk
def jw (s c g:Int):Int:=s+c*256+g*4294967296
inductive cw
 |p (s:pO)
 |l (i:Int)
 |s (i w:Int)
 |d (i e:Int)
namespace cw
def over:cw->Bool|.d _ _=>true|_=>false
def kh:pO->cw
 |.d i=>if i<0 then .d 0 7 else .l i
 |z=>.p z
def step (j:Jb):cw->Me->cw×Me
 |.p z,x=>(kh (z.step j.f x).1,(z.step j.f x).2)
 |.l i,x=>(.s i (x.word (j.bE+i)),x.ld (j.bE+i))
 |.s i w,x=>(if x.eq (j.bE+i) w then .d i 0 else .l i,x.eL (j.bE+i) w (jw 2 0 ((w/4294967296+1)%4294967296)))
 |.d i e,x=>(.d i e,x)
end cw
inductive cX
 |l
 |s (w:Int)
 |p (s:kI)
 |d (e:Int)
namespace cX
def over:cX->Bool|.d _=>true|_=>false
def new (j:Jb)(i:Int):cX:=if i<0\/j.f.size<=i then .d 3 else .l
def step (j:Jb)(i:Int):cX->Me->cX×Me
 |.l,x=>(if x.word (j.bE+i)%256=5\/x.word (j.bE+i)%256=2 then .s (x.word (j.bE+i)) else .d 11,x.ld (j.bE+i))
 |.s w,x=>(if x.eq (j.bE+i) w then .p .a else .l,x.eL (j.bE+i) w (jw 1 0 (w/4294967296)))
 |.p z,x=>(if(z.step j.f i x).1.over then .d 0 else .p (z.step j.f i x).1,(z.step j.f i x).2)
 |.d e,x=>(.d e,x)
end cX
inductive aZ
 |l
 |s (w:Int)
 |d (e:Int)
namespace aZ
def over:aZ->Bool|.d _=>true|_=>false
def new (j:Jb)(i core:Int):aZ:=if i<0\/j.f.size<=i then .d 3 else if core<0\/64<=core then .d 3 else .l
def step (j:Jb)(i fr to core:Int):aZ->Me->aZ×Me
 |.l,x=>(if x.word (j.bE+i)%256=fr/\(fr≠4\/x.word (j.bE+i)/256%256=core) then .s (x.word (j.bE+i)) else .d 11,x.ld (j.bE+i))
 |.s w,x=>(if x.eq (j.bE+i) w then .d 0 else .l,x.eL (j.bE+i) w (jw to (if to=4 then core else 0) (w/4294967296)))
 |.d e,x=>(.d e,x)
end aZ
inductive bF
 |a
 |d (w e:Int)
namespace bF
def over:bF->Bool|.d _ _=>true|_=>false
def new (j:Jb)(i:Int):bF:=if i<0\/j.f.size<=i then .d 0 3 else .a
def step (j:Jb)(i w:Int):bF->Me->bF×Me
 |.a,x=>(.d w 0,x.st (j.keys+i) w)
 |.d w e,x=>(.d w e,x)
def stepOf (j:Jb)(i:Int):bF->Me->bF×Me
 |.a,x=>(.d (x.word (j.keys+i)) 0,x.ld (j.keys+i))
 |.d w e,x=>(.d w e,x)
end bF
structure Rs where
 runs:Int
 flags:Int
 ah:Int
def ve:List Int->Nat->Nat->Int->Nat
 |[],_,b,_=>b
 |w::l,k,b,v=>if v<w then ve l (k+1) k w else ve l (k+1) b v
def du (l:List Int):Nat:=match l with
 |[]=>0
 |w::l=>ve l 1 0 w
inductive cN
 |k (s:dY)
 |r (key:Int)(l:List Int)
 |f (w:Int)
 |d (e:Int)
namespace cN
def over:cN->Bool|.d _=>true|_=>false
def cM:cN->Int
 |.k s=>s.cM
 |_=>0
def kh:dY->cN
 |.d key _ e=>if e=0 then .r key [] else if e=15 then .d 0 else .d e
 |s=>.k s
def step (t:Tw)(r:Rs)(c:Int):cN->Me->cN×Me
 |.k s,x=>(kh (s.step t c true x).1,(s.step t c true x).2)
 |.r key l,x=>(if(l.length:Int)+1=r.ah then(if(l++[x.word (r.runs+l.length)])[du (l++[x.word (r.runs+l.length)])]?.getD 0<=key then .d 0 else .f (du (l++[x.word (r.runs+l.length)]))) else .r key (l++[x.word (r.runs+l.length)]),x.ld (r.runs+l.length))
 |.f w,x=>(.d 0,x.st (r.flags+w) 1)
 |.d e,x=>(.d e,x)
end cN
structure Xc where
 t:Tw
 cn:Int
 many:Int
 j:Jb
 iW:Int
 aJ:Int
 room:Int
 r:Rs
 own:Int
 seq:Int
namespace Xc
def ring (x:Xc)(c:Int):Rn:=⟨x.iW+c*(x.room+2),x.iW+c*(x.room+2)+1,x.iW+c*(x.room+2)+2,x.room⟩
def rd (x:Xc)(w:Int):Int:=if w<1\/x.j.f.size<w then-1 else w-1
end Xc
structure Od where
 k:Int
 c:Int
 tk:Int
 prio:Int
 every:Int
 now:Int
 high:Int
def kJ (prio seq:Int):Int:=seq*65536+prio*72057594037927936
def b_ (w:Int):Prop:=254<w/72057594037927936
instance z17 (w:Int):Decidable (b_ w):=inferInstanceAs (Decidable (_<_))
inductive an
 |r1 (z:eE)
 |r2 (z:cw)
 |r3 (i:Int)
 |r4 (i w:Int)(z:bF)
 |r5 (i w:Int)(z:b7)
 |r6 (i w e:Int)(z:cX)
 |t1 (z:eM)
 |t2 (i h:Int)(z:bF)
 |t3 (i h w:Int)(z:aZ)
 |t4 (i h w:Int)(z:aI)
 |t5 (i w e:Int)(z:aZ)
 |t6 (i h w:Int)(z:jZ)
 |oX (i w:Int)(z:cN)
 |p1
 |p2 (z:dY)
 |p3 (i w:Int)(z:aZ)
 |p4 (i w:Int)
 |p5 (i w:Int)
 |s1
 |s2
 |s3
 |s4 (i:Int)(z:bF)
 |s5 (i w:Int)(z:aZ)
 |s6 (i w:Int)
 |s7 (i w:Int)(z:bF)
 |s8 (i w:Int)(z:aI)
 |s9 (i w:Int)
 |b1 (i w e:Int)(z:bF)
 |b2 (i w e:Int)(z:aZ)
 |b3 (i w e:Int)
 |b4 (i w e:Int)
 |c1
 |c2 (i:Int)(z:bF)
 |c3 (i w:Int)(z:aZ)
 |c4 (i w:Int)
 |c5 (i w:Int)
 |c6 (i w:Int)(z:cX)
 |d (i w e:Int)(none:Bool)
namespace an
def over:an->Bool|.d _ _ _ _=>true|_=>false
def cM (x:Xc)(o:Od):an->Int
 |.t4 _ _ w z=>z.cM x.t w
 |.s8 _ w z=>z.cM x.t ((w+1)%18446744073709551616)
 |.oX _ _ z=>z.cM
 |.p2 z=>z.cM
 |_=>0
def pick:an:=.p2 (.p .a)
def balance (x:Xc)(i w:Int):an:=.oX i w (.k (.p .a))
def oY (x:Xc)(o:Od):eE->an
 |.d e=>if e=0 then .r2 (.p .a) else .d 0 0 e false
 |z'=>.r1 z'
def oZ (x:Xc)(o:Od):cw->an
 |.d i e=>if e=0 then .r3 i else .d 0 0 e false
 |z'=>.r2 z'
def o0 (x:Xc)(o:Od)(i:Int)(w:Int):b7->an
 |.d e=>if e=0 then .d i w 0 false else .r6 i w e (.new x.j i)
 |z'=>.r5 i w z'
def lX (x:Xc)(o:Od):eM->an
 |.d h v e=>if e=0 then(if x.j.f.size<=v then .d 0 0 5 false else .t2 v h (.new x.j v)) else .d 0 0 15 false
 |z'=>.t1 z'
def nR (x:Xc)(o:Od)(i:Int)(h:Int):bF->an
 |.d w _=>if b_ w then .d 0 0 5 false else .t3 i h w (.new x.j i o.c)
 |z'=>.t2 i h z'
def o4 (x:Xc)(o:Od)(i:Int)(h:Int)(w:Int):aI->an
 |.d e=>if e=0 then .t6 i h w .a else .t5 i w e (.new x.j i o.c)
 |z'=>.t4 i h w z'
def jl (x:Xc)(o:Od):dY->an
 |.d key aq e=>if e=0 then(if aq<0\/x.j.f.size<=aq then .d 0 0 5 false else .p3 aq key (.new x.j aq o.c)) else if o.k=4 then .d 0 0 0 true else .d 0 0 15 false
 |z'=>.p2 z'
def lY (x:Xc)(o:Od)(i:Int):bF->an
 |.d w _=>if b_ w then .d 0 0 5 false else if w%65536=65535 then .d 0 0 12 false else .s5 i w (.new x.j i o.c)
 |z'=>.s4 i z'
def o5 (x:Xc)(o:Od)(i:Int)(w:Int):aI->an
 |.d e=>if e=0 then .s9 i w else .b1 i w e (.new x.j i)
 |z'=>.s8 i w z'
def qR (x:Xc)(o:Od)(i:Int):bF->an
 |.d w _=>.c3 i w (.new x.j i o.c)
 |z'=>.c2 i z'
def step (x:Xc)(o:Od):an->Me->an×Me
 |.r1 z,m=>(oY x o (z.step (x.cn+o.tk) o.every o.now m).1,(z.step (x.cn+o.tk) o.every o.now m).2)
 |.r2 z,m=>(oZ x o (z.step x.j m).1,(z.step x.j m).2)
 |.r3 i,m=>(if(m.add x.seq 1).new<1\/1099511627775<(m.add x.seq 1).new then .r6 i 0 12 (.new x.j i) else .r4 i (kJ o.prio (m.add x.seq 1).new) (.new x.j i),m.add x.seq 1)
 |.r4 i w z,m=>(if(z.step x.j i w m).1.over then .r5 i w .a else .r4 i w (z.step x.j i w m).1,(z.step x.j i w m).2)
 |.r5 i w z,m=>(o0 x o i w (z.step (x.ring (o.tk%x.aJ)) i m).1,(z.step (x.ring (o.tk%x.aJ)) i m).2)
 |.r6 i w e z,m=>(if(z.step x.j i m).1.over then .d i w e false else .r6 i w e (z.step x.j i m).1,(z.step x.j i m).2)
 |.t1 z,m=>(lX x o (z.step (x.ring o.c) m).1,(z.step (x.ring o.c) m).2)
 |.t2 i h z,m=>(nR x o i h (z.stepOf x.j i m).1,(z.stepOf x.j i m).2)
 |.t3 i h w z,m=>(if(z.step x.j i 2 3 o.c m).1.over then .t4 i h w (.p .a 0) else .t3 i h w (z.step x.j i 2 3 o.c m).1,(z.step x.j i 2 3 o.c m).2)
 |.t4 i h w z,m=>(o4 x o i h w (z.step x.t o.c w i o.high m).1,(z.step x.t o.c w i o.high m).2)
 |.t5 i w e z,m=>(if(z.step x.j i 3 2 o.c m).1.over then .d i w e false else .t5 i w e (z.step x.j i 3 2 o.c m).1,(z.step x.j i 3 2 o.c m).2)
 |.t6 i h w z,m=>(if(z.step (x.ring o.c) h m).1.over then balance x i w else .t6 i h w (z.step (x.ring o.c) h m).1,(z.step (x.ring o.c) h m).2)
 |.oX i w z,m=>(if(z.step x.t x.r o.c m).1.over then .d i w 0 false else .oX i w (z.step x.t x.r o.c m).1,(z.step x.t x.r o.c m).2)
 |.p1,m=>(if 0<=x.rd (m.word (x.own+o.c)) then .d 0 0 11 false else pick,m.ld (x.own+o.c))
 |.p2 z,m=>(jl x o (z.step x.t o.c false m).1,(z.step x.t o.c false m).2)
 |.p3 i w z,m=>(if(z.step x.j i 3 4 o.c m).1.over then .p4 i w else .p3 i w (z.step x.j i 3 4 o.c m).1,(z.step x.j i 3 4 o.c m).2)
 |.p4 i w,m=>(.p5 i w,m.st (x.own+o.c) (i+1))
 |.p5 i w,m=>(balance x i w,m.st (x.r.runs+o.c) w)
 |.s1,m=>(if m.word (x.r.flags+o.c)=0 then .d 0 0 15 false else .s2,m.ld (x.r.flags+o.c))
 |.s2,m=>(.s3,m.st (x.r.flags+o.c) 0)
 |.s3,m=>(if x.rd (m.word (x.own+o.c))<0 then pick else .s4 (x.rd (m.word (x.own+o.c))) (.new x.j (x.rd (m.word (x.own+o.c)))),m.ld (x.own+o.c))
 |.s4 i z,m=>(lY x o i (z.stepOf x.j i m).1,(z.stepOf x.j i m).2)
 |.s5 i w z,m=>(if(z.step x.j i 4 3 o.c m).1.over then .s6 i w else .s5 i w (z.step x.j i 4 3 o.c m).1,(z.step x.j i 4 3 o.c m).2)
 |.s6 i w,m=>(.s7 i w (.new x.j i),m.st (x.r.runs+o.c) 18446744073709551615)
 |.s7 i w z,m=>(if(z.step x.j i ((w+1)%18446744073709551616) m).1.over then .s8 i w (.p .a 0) else .s7 i w (z.step x.j i ((w+1)%18446744073709551616) m).1,(z.step x.j i ((w+1)%18446744073709551616) m).2)
 |.s8 i w z,m=>(o5 x o i w (z.step x.t o.c ((w+1)%18446744073709551616) i o.high m).1,(z.step x.t o.c ((w+1)%18446744073709551616) i o.high m).2)
 |.s9 i w,m=>(pick,m.st (x.own+o.c) 0)
 |.b1 i w e z,m=>(if(z.step x.j i w m).1.over then .b2 i w e (.new x.j i o.c) else .b1 i w e (z.step x.j i w m).1,(z.step x.j i w m).2)
 |.b2 i w e z,m=>(if(z.step x.j i 3 4 o.c m).1.over then .b3 i w e else .b2 i w e (z.step x.j i 3 4 o.c m).1,(z.step x.j i 3 4 o.c m).2)
 |.b3 i w e,m=>(.b4 i w e,m.st (x.r.runs+o.c) w)
 |.b4 i w e,m=>(.d i w e false,m.st (x.r.flags+o.c) 1)
 |.c1,m=>(if x.rd (m.word (x.own+o.c))<0 then .d 0 0 15 false else .c2 (x.rd (m.word (x.own+o.c))) (.new x.j (x.rd (m.word (x.own+o.c)))),m.ld (x.own+o.c))
 |.c2 i z,m=>(qR x o i (z.stepOf x.j i m).1,(z.stepOf x.j i m).2)
 |.c3 i w z,m=>(if(z.step x.j i 4 5 o.c m).1.over then .c4 i w else .c3 i w (z.step x.j i 4 5 o.c m).1,(z.step x.j i 4 5 o.c m).2)
 |.c4 i w,m=>(.c5 i w,m.st (x.own+o.c) 0)
 |.c5 i w,m=>(.c6 i w (.new x.j i),m.st (x.r.runs+o.c) 18446744073709551615)
 |.c6 i w z,m=>(if(z.step x.j i m).1.over then balance x i w else .c6 i w (z.step x.j i m).1,(z.step x.j i m).2)
 |.d i w e n,m=>(.d i w e n,m)
def first (k:Int):an:=if k=1 then .r1 .a else if k=2 then .t1 .a else if k=3 then .p1 else if k=4 then .s1 else .c1
end an
noncomputable def EM:cQ:=⟨Tryz.prog,Tryz.iP,⟨U9 [(44, .bool true)],MU.x⟩⟩
inductive Zz (M:cQ):AC->AH->ga->Prop
 |a {g:Bool}{o k S Q}(h:Zz M (.op o k) S Q):Zz M (.hZ (B g) g o k) S Q
 |b {g:Bool}{o k S Q}(h:Zz M (k uv) S Q):Zz M (.hZ (B g) (!g) o k) S Q
 |c {g:Bool}{o k S Q}(h:Zz M (k uv) S Q):Zz M (.hZ uv g o k) S Q
 |d {g:Bool}{f l k S Q}(h:Zz M (.call f l k) S Q):Zz M (.dO (B g) g f l k) S Q
 |e {g:Bool}{f l k S Q}(h:Zz M (k uv) S Q):Zz M (.dO (B g) (!g) f l k) S Q
 |f {g:Bool}{f l k S Q}(h:Zz M (k uv) S Q):Zz M (.dO uv g f l k) S Q
 |g {x y S Q}(h:Zz M x S Q):Zz M (.ite (B true) x y) S Q
 |h {x y S Q}(h:Zz M y S Q):Zz M (.ite (B false) x y) S Q
 |i {n o f:Nat}{k S Q}(h:Zz M (k (.ptr n (Nat.add o f))) S Q):Zz M (.op (.lG f (.ptr n o)) k) S Q
 |j {n o:Nat}{k S Q}(h:Zz M (k (.ptr n o)) S Q):Zz M (.op (.pc (.ptr n o)) k) S Q
 |k {x k S Q}(h:Zz M (k x) S Q):Zz M (.op (.mv x) k) S Q
 |l {x y k S Q}(h:Zz M (k x) S Q):Zz M (.op (.pick (B true) x y) k) S Q
 |m {x y k S Q}(h:Zz M (k y) S Q):Zz M (.op (.pick (B false) x y) k) S Q
 |n {x l k S Q}(h:Zz M (k x) S Q):Zz M (.op (.extract 0 (.dD (x::l))) k) S Q
 |o {x y l k S Q}(h:Zz M (k y) S Q):Zz M (.op (.extract 1 (.dD (x::y::l))) k) S Q
 |p {x y z l k S Q}(h:Zz M (k z) S Q):Zz M (.op (.extract 2 (.dD (x::y::z::l))) k) S Q
 |z {x S Q}(h:True->wp M x S Q):Zz M x S Q
theorem zz {M x S Q}(h:Zz M x S Q):wp M x S Q:=by
 induction h with
 |a h ih=>exact cI ih
 |b h ih=>exact dW rfl ih
 |c h ih=>exact eC ih
 |d h ih=>exact cK ih
 |e h ih=>exact cD rfl ih
 |f h ih=>exact cL ih
 |g h ih=>exact cT ih
 |h h ih=>exact cU ih
 |i h ih=>exact cV ih
 |j h ih=>exact dS ih
 |k h ih=>exact ae rfl ih
 |l h ih=>exact ae rfl ih
 |m h ih=>exact ae rfl ih
 |n h ih=>exact ae rfl ih
 |o h ih=>exact ae rfl ih
 |p h ih=>exact ae rfl ih
 |z h=>exact h trivial
def Fv (v:AV):Prop:=odd v=false/\v.cells=[v]
abbrev zF (n:Nat):AV:=.fn (.func n) [] []
theorem Mm {α:Type}{a:α}{l:List α}(h:a∈l:=by repeat (first|exact List.Mem.head _|apply List.Mem.tail)):a∈l:=h
theorem lA {α:Type}{a:α}{x y:List α}:(a::x)++y=a::(x++y):=rfl
theorem lB {α:Type}{x:List α}:[]++x=x:=rfl
theorem lC {α:Type}(x y z:List α):(x++y)++z=x++(y++z):=List.append_assoc x y z
theorem yv {x c}{j:Nat}(hj:j<x.length):aH x j [c]=x.set j c:=by
 apply List.ext_getElem?;intro i;rw[jv (by simp;omega),List.getElem?_set];by_cases h:j=i;.subst h;simp[hj]
 .rw[if_neg (by simp;omega),if_neg h]
theorem j7 {M:cQ}{S:AH}{t id off:Nat}{n:Bool}(ht:jo M.P t=1):evalOp M.P (.eq t n (.ptr id off) Np) S=some (B n,S):=by
 show eN (Ff M.P t n (.ptr id off) Np) S=_;unfold Ff;rw[Ha ht];cases n<;>rfl
section
variable{B0 S:AH}{W:List Nat}{own R:List Own}{ro:List aB}{Q:ga}{k:AV->AC}{v:AV}{m bl w:Nat}{x:Me}{rest:List AV}
theorem bO {M}(H:Cx B0 W S own ro)(n:Nat){id j:Nat}{c v}(hm:own[n]?=some (.obj id (.row c)))(hj:c[j]?=some v)(h:wp M (k v) S Q):wp M (.op (.load 1 false (.ptr id j)) k) S Q:=qN H n hm hj h
theorem gU {M}(H:Cx B0 W S own ro)(n:Nat){id j:Nat}{c v}(hm:own[n]?=some (.obj id (.row c)))(hj:j<c.length)(hv:Fv v)(h:∀S1,Cx B0 W S1 (own.set n (.obj id (.row (c.set j v)))) ro->wp M (k uv) S1 Q):
  wp M (.op (.store 1 (.ptr id j) v) k) S Q:=
 gl H n hm hv.1 (by rw[hv.2];rfl) am λS1 H1=>h S1 (by rw[hv.2,yv hj] at H1;exact H1)
theorem Hj {M}{len es id o i:Nat}(hi:i<len)(h:wp M (k (.ptr id (o+i*es))) S Q):wp M (.op (.zf len es (.ptr id o) (I (i:Int))) k) S Q:=by
 refine ae (v:=.ptr id (o+i*es)) ?_ h;have h3:nj (I (i:Int)) len=some i:=by show below i len=some i;unfold below;rw[cJ am]
 show eN (nk len es (.ptr id o) (I (i:Int))) S=_;unfold nk;simp only[h3];rfl
theorem yw {a:Int}(hx:x.gd)(H:Cx B0 W S (ad m bl x rest++R) ro):aG EM (zF 77) [.ptr m 0,I a] S λr S'=>r=(if x.has a then .ptr bl a.toNat else Np)/\S'=S:=by
 refine aV (b:=Tryz.a77) rfl rfl ?_;rw[Tryz.u77];have hx:=hx.1;refine ae (j7 (by kernel_rfl)) ?_
 (try(refine zz ?_;(repeat constructor);intro _))
 refine bO (j:=0) H 0 rfl rfl ?_
 (try(refine zz ?_;(repeat constructor);intro _))
 refine ae (j7 (by kernel_rfl)) ?_
 (try(refine zz ?_;(repeat constructor);intro _))
 refine fL (λh0=>?_) (λh0=>?_)
 ·(try(refine zz ?_;(repeat constructor);intro _))
  exact wp_ret ⟨rfl,by rw[if_neg (λh=>by have:=h.1;omega)];rfl,rfl⟩
 (try(refine zz ?_;(repeat constructor);intro _))
 refine bO (j:=1) H 0 rfl rfl ?_
 (try(refine zz ?_;(repeat constructor);intro _))
 refine jW (λh1=>?_) (λh1=>?_)
 ·(try(refine zz ?_;(repeat constructor);intro _))
  exact wp_ret ⟨rfl,by rw[if_neg (λh=>by have:=h.2;omega)];rfl,rfl⟩
 (try(refine zz ?_;(repeat constructor);intro _))
 refine bO (j:=0) H 0 rfl rfl ?_
 (try(refine zz ?_;(repeat constructor);intro _))
 obtain⟨n,rfl⟩:∃n:Nat,a=(n:Int):=⟨a.toNat,am⟩;refine Hj (i:=n) am ?_;refine wp_ret ⟨rfl,?_,rfl⟩;rw[if_pos ⟨am,am⟩];have e:0+n*1=n:=am;rw[e,Int.toNat_natCast];rfl
theorem qS {a:Nat}{z:Int}(h:x.ws[a]?=some z):(x.ws.map U++rest)[a]?=some (U z):=by have:=(List.getElem?_eq_some_iff.1 h).1;rw[List.getElem?_append_left (by simpa using this),List.getElem?_map,h];rfl
theorem JV {a:Nat}{z:Int}(h:a<x.ws.length):(x.ws.map U++rest).set a (U z)=(x.ws.set a z).map U++rest:=by rw[List.set_append_left _ _ (by simpa using h),List.map_set]
theorem En:aG EM (zF 172) [Np] S λr S'=>r=B false/\S'=S:=by refine aV (b:=Tryz.a172) rfl rfl ?_;rw[Tryz.u172];refine ae (S1:=S) (v:=B false) (by kernel_rfl) ?_;exact wp_ret ⟨rfl,rfl,rfl⟩
theorem Eo {id o:Nat}:aG EM (zF 172) [.ptr id o] S λr S'=>r=B true/\S'=S:=by refine aV (b:=Tryz.a172) rfl rfl ?_;rw[Tryz.u172];refine ae (j7 (by kernel_rfl)) ?_;exact wp_ret ⟨rfl,rfl,rfl⟩
def oN (x:Me)(rest:List AV):List AV:=x.ws.map U++rest
theorem RY {kind a z:Int}{held:Bool}{how:AV}(hx:x.gd)(H:Cx B0 W S (ad m bl x rest++R) ro)
  (XF:x.has a->∀{S1:AH} {R1:List Own},Cx B0 W S1 (.obj bl (.row (oN x rest))::R1) ro->aG EM how [] S1 λr S'=>r=.dD [U z,B held]/\Cx B0 W S' (.obj bl (.row (oN x rest))::R1) ro):
  aG EM (zF 78) [.ptr m 0,I kind,I a,(if x.has a then .ptr bl a.toNat else Np),how] S λr S'=>r=.agg (x.acc kind a z held).last/\Cx B0 W S' (ad m bl (x.acc kind a z held) rest++R) ro:=by
 refine aV (b:=Tryz.a78) rfl rfl ?_;rw[Tryz.u78];have hx:=hx.1;refine uL ?_;refine fM H λq S1 H=>?_;refine ae (j7 (by kernel_rfl)) ?_
 (try(refine zz ?_;(repeat constructor);intro _))
 refine bO (j:=0) H 1 rfl rfl ?_
 (try(refine zz ?_;(repeat constructor);intro _))
 refine ae (j7 (by kernel_rfl)) ?_
 (try(refine zz ?_;(repeat constructor);intro _))
 refine bO (j:=7) H 1 rfl rfl ?_;refine ct am am ?_
 (try(refine zz ?_;(repeat constructor);intro _))
 refine gU (j:=7) H 1 rfl (by simp[Me.td,Me.last]) ⟨rfl,rfl⟩ λS2 H=>?_;refine ae (v:=.agg [I kind,I a,U 0,U 0,B false]) rfl ?_
 (try(refine zz ?_;(repeat constructor);intro _))
 refine gl (off:=2) (n:=5) H 1 rfl rfl rfl (Nat.le_of_ble_eq_true rfl) λS3 H=>?_;have H:Cx B0 W S3 (.obj q (.row [I 0,I 0,U 0,U 0,B false])::(ad m bl ⟨x.ws,kind,a,0,0,false,x.n+1⟩ rest++R)) ro:=H;have fin:∀{S4:AH} {y:Me},Cx B0 W S4 (.obj q (.row [I 0,I 0,U 0,U 0,B false])::(ad m bl y rest++R)) ro->wp EM (.op (.pc (.ptr m 0)) λv22=>.op (.lG 2 v22) λv23=>.op (.load 5 true v23) λv24=>.op (.store 5 (.ptr q 0) v24) λv25=>.ret .ret [.ptr q 0]) S4 λt vs S'=>(t=.normal\/t=.ret)/\wp EM (.op (.load 5 true (nth vs 0)) λv2=>.ret .ret [v2]) S' λt vs S'=>t=.ret/\oneOf vs=.agg y.last/\Cx B0 W S' (ad m bl y rest++R) ro:=by
  intro S4 y H
  (try(refine zz ?_;(repeat constructor);intro _))
  refine gF (off:=2) (n:=5) H 1 rfl (Nat.le_of_ble_eq_true rfl) ?_;refine gl (n:=5) (v:=.agg y.last) H 0 rfl rfl rfl (Nat.le_of_ble_eq_true rfl) λS5 H=>?_;have H:Cx B0 W S5 (.obj q (.row y.last)::(ad m bl y rest++R)) ro:=H;refine wp_ret ⟨.inr rfl,?_⟩;refine gF (off:=0) (n:=5) H 0 rfl (Nat.le_of_ble_eq_true rfl) ?_;exact wp_ret ⟨rfl,rfl,H.iw 0⟩
 by_cases hh:x.has a
 .rw[if_pos hh];have Hk:x.acc kind a z held=⟨x.ws.set a.toNat z,kind,a,x.word a,z,held,x.n+1⟩:=if_pos hh;obtain⟨n,rfl⟩:∃n:Nat,a=(n:Int):=⟨a.toNat,by have:=hh.1;omega⟩;have hn:n<x.ws.length:=by have:=hh.2;omega
  have hw:x.ws[n]?=some x.ws[n]:=List.getElem?_eq_getElem hn;generalize x.ws[n]=iR at hw;rw[Hk,Me.tJ hw];rw[Int.toNat_natCast] at*
  refine bW (aw Eo λr S4 qq=>?_);obtain⟨rfl,rfl⟩:=qq;refine wp_bind ?_
  (try(refine zz ?_;(repeat constructor);intro _))
  have K:=H.hX (ab:=.obj bl (.row (oN x rest))::.obj q (.row [I 0,I 0,U 0,U 0,B false])::.obj m (.row (Me.td ⟨x.ws,kind,n,0,0,false,x.n+1⟩ bl))::R) (List.perm_middle (l₁:=[_,_]) (l₂:=R));refine bW (aw (XF hh K) λr S5 qq=>?_);obtain⟨rfl,K⟩:=qq
  (try(refine zz ?_;(repeat constructor);intro _))
  refine bO (j:=n) K 0 rfl (qS hw) ?_
  (try(refine zz ?_;(repeat constructor);intro _))
  refine gU (j:=4) K 2 rfl (Nat.le_of_ble_eq_true rfl) ⟨rfl,rfl⟩ λS6 K=>?_
  (try(refine zz ?_;(repeat constructor);intro _))
  refine gU (j:=5) K 2 rfl (Nat.le_of_ble_eq_true rfl) ⟨rfl,rfl⟩ λS7 K=>?_
  (try(refine zz ?_;(repeat constructor);intro _))
  refine gU (j:=6) K 2 rfl (Nat.le_of_ble_eq_true rfl) ⟨rfl,rfl⟩ λS8 K=>?_
  (try(refine zz ?_;(repeat constructor);intro _))
  refine gU (j:=n) K 0 rfl (by simp[oN];omega) ⟨rfl,rfl⟩ λS9 K=>?_;refine wp_ret ?_;show wp EM _ _ _;have e:(oN x rest).set n (U z)=(x.ws.set n z).map U++rest:=JV hn;have K:Cx B0 W S9 (.obj bl (.row ((oN x rest).set n (U z)))::.obj q (.row [I 0,I 0,U 0,U 0,B false])::.obj m (.row (Me.td ⟨x.ws,kind,n,iR,z,held,x.n+1⟩ bl))::R) ro:=K;rw[e] at K;have hp:Me.td ⟨x.ws.set n z,kind,n,iR,z,held,x.n+1⟩ bl=Me.td ⟨x.ws,kind,n,iR,z,held,x.n+1⟩ bl:=by unfold Me.td;rw[List.length_set];rfl
  have K:=K.hX (ab:=.obj q (.row [I 0,I 0,U 0,U 0,B false])::.obj m (.row (Me.td ⟨x.ws,kind,n,iR,z,held,x.n+1⟩ bl))::.obj bl (.row ((x.ws.set n z).map U++rest))::R) (List.perm_middle (l₁:=[_,_]) (l₂:=R)).symm;refine fin (y:=⟨x.ws.set n z,kind,n,iR,z,held,x.n+1⟩) ?_;unfold ad;rw[hp];exact K
 .rw[if_neg hh];have Hk:x.acc kind a z held=⟨x.ws,kind,a,0,0,false,x.n+1⟩:=if_neg hh;rw[Hk];refine bW (aw En λr S4 qq=>?_);obtain⟨rfl,rfl⟩:=qq;refine wp_bind ?_
  (try(refine zz ?_;(repeat constructor);intro _))
  refine wp_ret ?_;show wp EM _ _ _;exact fin H
def Me.at (x:Me)(bl:Nat)(a:Int):AV:=if x.has a then .ptr bl a.toNat else Np
theorem Me.Hl (x:Me)(bl:Nat)(a:Int):x.at bl a=Np\/∃i o,x.at bl a=.ptr i o:=by
 unfold Me.at;split;.exact .inr ⟨_,_,rfl⟩
 .exact .inl rfl
theorem ox {kind a y y' z:Int}{held:Bool}{d:Nat}{kk}(hx:x.gd)
  (hd:x.has a->∀{S1} {R1},Cx B0 W S1 (.obj bl (.row (oN x rest))::R1) ro->aG EM (.fn (.func d) [.agg [x.at bl a,U y,U y']] []) [] S1 λr S'=>r=.dD [U z,B held]/\Cx B0 W S' (.obj bl (.row (oN x rest))::R1) ro)
  (H:Cx B0 W S (ad m bl x rest++R) ro) {ps} (hps:∀c:AV,Fv c->fo [Np,U 0,U 0] ((0,1,c)::ps)=some [c,U y,U y'])
  (h:∀S',Cx B0 W S' (ad m bl (x.acc kind a z held) rest++R) ro->wp EM (kk (.agg (x.acc kind a z held).last)) S' Q):
  wp EM (.call (zF 77) [.ptr m 0,I a] λv1=>.op (.build [Np,U 0,U 0] ((0,1,v1)::ps)) λv2=>.op (.alloc [Np,U 0,U 0]) λv3=>.op (.store 3 v3 v2) λv4=>.op (.lG 0 v3) λv5=>.op (.load 1 false v5) λv6=>.op (.load 3 true v3) λv7=>.call (zF 78) [.ptr m 0,I kind,I a,v6,.fn (.func d) [v7] []] kk) S Q:=by
 refine bW (aw (yw hx H) λr S1 q=>?_);obtain⟨rfl,rfl⟩:=q;have Z_:∀{S:AH},Cx B0 W S (ad m bl x rest++R) ro->aG EM (zF 78) [.ptr m 0,I kind,I a,x.at bl a,.fn (.func d) [.agg [x.at bl a,U y,U y']] []] S λr S'=>r=.agg (x.acc kind a z held).last/\Cx B0 W S' (ad m bl (x.acc kind a z held) rest++R) ro:=
  λH=>RY hx H hd
 change wp EM (.op (.build [Np,U 0,U 0] ((0,1,x.at bl a)::ps)) _) _ _;have hc:=x.Hl bl a;generalize x.at bl a=c at hc Z_;have ho:Fv c:=by rcases hc with rfl|⟨i,o,rfl⟩<;>exact⟨rfl,rfl⟩
 refine ae (v:=.agg [c,U y,U y']) (by show eN (kT _ _) S1=_;unfold kT;rw[hps c ho];rfl) ?_;refine fM H λq S2 H=>?_;refine gl (n:=3) H 0 (c:=[Np,U 0,U 0]) rfl rfl rfl ac λS3 H=>?_;have H:Cx B0 W S3 (.obj q (.row [c,U y,U y'])::(ad m bl x rest++R)) ro:=H
 (try(refine zz ?_;(repeat constructor);intro _))
 refine bO (j:=0) H 0 rfl rfl ?_;refine gF (off:=0) (n:=3) H 0 rfl ac ?_;refine bW (aw (Z_ (H.iw 0)) λr S4 qq=>?_);obtain⟨rfl,H⟩:=qq;exact h S4 H
theorem RZ {c}(h:Fv c):fo [Np,U 0,U 0] [(0,1,c)]=some [c,U 0,U 0]:=by unfold fo;rw[h.1,h.2];rfl
theorem LH {c}{a:Int}(h:Fv c):fo [Np,U 0,U 0] [(0,1,c),(1,1,U a)]=some [c,U a,U 0]:=by unfold fo;rw[h.1,h.2];rfl
theorem R2 {c}{a b:Int}(h:Fv c):fo [Np,U 0,U 0] [(0,1,c),(1,1,U a),(2,1,U b)]=some [c,U a,U b]:=by unfold fo;rw[h.1,h.2];rfl
theorem yx {a:Int}(h:x.has a):∃n:Nat,a=n/\x.ws[n]?=some (x.word a):=by
 obtain⟨n,rfl⟩:∃n:Nat,a=(n:Int):=⟨a.toNat,by have:=h.1;omega⟩;have hn:n<x.ws.length:=by have:=h.2;omega
 have hw:x.ws[n]?=some x.ws[n]:=List.getElem?_eq_getElem hn;exact⟨n,rfl,by rw[Me.tJ hw];exact hw⟩
theorem Nd {c}{z o:Int}(H:Cx B0 W S own ro):aG EM (.fn (.func 79) [.agg [c,U z,U o]] []) [] S λr S'=>r=.dD [U z,B true]/\Cx B0 W S' own ro:=by
 refine aV (b:=Tryz.a79) rfl rfl ?_;rw[Tryz.u79];refine fR H rfl λp S1 H=>?_
 (try(refine zz ?_;(repeat constructor);intro _))
 refine bO (j:=1) H 0 rfl rfl ?_;exact wp_ret ⟨rfl,rfl,H.iw 0⟩
theorem Ng {n:Nat}{z a b:Int}{c}(hc:c[n]?=some (U z))(H:Cx B0 W S (.obj bl (.row c)::own) ro):aG EM (.fn (.func 422) [.agg [.ptr bl n,U a,U b]] []) [] S λr S'=>r=.dD [U z,B false]/\Cx B0 W S' (.obj bl (.row c)::own) ro:=by
 refine aV (b:=Tryz.a422) rfl rfl ?_;rw[Tryz.u422];refine fR H rfl λp S1 H=>?_
 (try(refine zz ?_;(repeat constructor);intro _))
 refine bO (j:=0) H 0 rfl rfl ?_
 (try(refine zz ?_;(repeat constructor);intro _))
 refine bO (j:=n) H 1 rfl hc ?_;exact wp_ret ⟨rfl,rfl,H.iw 0⟩
theorem JW {n:Nat}{z a b:Int}{c}(hc:c[n]?=some (U z))(H:Cx B0 W S (.obj bl (.row c)::own) ro):aG EM (.fn (.func 378) [.agg [.ptr bl n,U a,U b]] []) [] S λr S'=>r=.dD [U ((z+a)%18446744073709551616),B true]/\Cx B0 W S' (.obj bl (.row c)::own) ro:=by
 refine aV (b:=Tryz.a378) rfl rfl ?_;rw[Tryz.u378];refine fR H rfl λp S1 H=>?_
 (try(refine zz ?_;(repeat constructor);intro _))
 refine bO (j:=0) H 0 rfl rfl ?_
 (try(refine zz ?_;(repeat constructor);intro _))
 refine bO (j:=n) H 1 rfl hc ?_
 (try(refine zz ?_;(repeat constructor);intro _))
 refine bO (j:=1) H 0 rfl rfl ?_;refine uT (by rw[bw,IntKind.wrap_u64]) ?_;exact wp_ret ⟨rfl,rfl,H.iw 0⟩
theorem Hm {n:Nat}{z a b:Int}{c}(hc:c[n]?=some (U z))(H:Cx B0 W S (.obj bl (.row c)::own) ro):aG EM (.fn (.func 585) [.agg [.ptr bl n,U a,U b]] []) [] S λr S'=>r=.dD [U (if z=a then b else z),B (decide (z=a))]/\Cx B0 W S' (.obj bl (.row c)::own) ro:=by
 refine aV (b:=Tryz.a585) rfl rfl ?_;rw[Tryz.u585];refine fR H rfl λp S1 H=>?_
 (try(refine zz ?_;(repeat constructor);intro _))
 refine bO (j:=0) H 0 rfl rfl ?_
 (try(refine zz ?_;(repeat constructor);intro _))
 refine bO (j:=n) H 1 rfl hc ?_
 (try(refine zz ?_;(repeat constructor);intro _))
 refine bO (j:=1) H 0 rfl rfl ?_;by_cases e:z=a
 .refine Ad e ?_
  (try(refine zz ?_;(repeat constructor);intro _))
  refine bO (j:=2) H 0 rfl rfl ?_;exact wp_ret ⟨rfl,by rw[if_pos e,decide_eq_true e];rfl,H.iw 0⟩
 .refine uW e ?_
  (try(refine zz ?_;(repeat constructor);intro _))
  refine bO (j:=0) H 0 rfl rfl ?_
  (try(refine zz ?_;(repeat constructor);intro _))
  refine bO (j:=n) H 1 rfl hc ?_;exact wp_ret ⟨rfl,by rw[if_neg e,decide_eq_false e];rfl,H.iw 0⟩
end
section
variable{m bl:Nat}{x:Me}{rest:List AV}{R0:List Own}
theorem B5 {a:Int}{n:Nat}(h:x.has a)(e:a=n):x.at bl a=.ptr bl n:=by unfold Me.at;rw[if_pos h,e,Int.toNat_natCast]
instance XG {a z:Int}:SC EM (zF 16) [.ptr m 0,I a,U z] (ad m bl x rest++R0) x.gd uv (ad m bl (x.st a z) rest++R0) where
 ok:=λhx ro R B W S H=>by rw[lC] at H;refine aV (b:=Tryz.a16) rfl rfl ?_;rw[Tryz.u16];refine ox (y:=z) (y':=0) (z:=z) (held:=true) hx (λhh S1 R1 H=>Nd H) H (λc hc=>LH hc) λS' H=>?_;exact wp_ret ⟨rfl,rfl,by rw[lC];exact H⟩
instance aaa {a:Int}:SC EM (zF 298) [.ptr m 0,I a] (ad m bl x rest++R0) x.gd (U (x.word a)) (ad m bl (x.ld a) rest++R0) where
 ok:=λhx ro R B W S H=>by
  rw[lC] at H;refine aV (b:=Tryz.a298) rfl rfl ?_;rw[Tryz.u298];refine ox (y:=0) (y':=0) (z:=x.word a) (held:=false) hx (λhh S1 R1 H=>?_) H (λc hc=>RZ hc) λS' H=>?_
  .obtain⟨n,e,hw⟩:=yx hh;rw[B5 hh e];exact Ng (qS hw) H
  refine ae (v:=U (x.acc 1 a (x.word a) false).new) rfl ?_;refine wp_ret ⟨rfl,?_,by rw[lC];exact H⟩;show U _=U _;congr 2;unfold Me.acc Me.word;split<;>rfl
instance abi {a z:Int}:SC EM (zF 268) [.ptr m 0,I a,U z] (ad m bl x rest++R0) x.gd (U (x.add a z).new) (ad m bl (x.add a z) rest++R0) where
 ok:=λhx ro R B W S H=>by
  rw[lC] at H;refine aV (b:=Tryz.a268) rfl rfl ?_;rw[Tryz.u268];refine ox (y:=z) (y':=0) (z:=(x.word a+z)%18446744073709551616) (held:=true) hx (λhh S1 R1 H=>?_) H (λc hc=>LH hc) λS' H=>?_
  .obtain⟨n,e,hw⟩:=yx hh;rw[B5 hh e];exact JW (qS hw) H
  refine ae (v:=U (x.add a z).new) rfl ?_;exact wp_ret ⟨rfl,rfl,by rw[lC];exact H⟩
instance abj {a o z:Int}:SC EM (zF 543) [.ptr m 0,I a,U o,U z] (ad m bl x rest++R0) x.gd (B (decide (x.eq a o))) (ad m bl (x.eL a o z) rest++R0) where
 ok:=λhx ro R B W S H=>by
  rw[lC] at H;refine aV (b:=Tryz.a543) rfl rfl ?_;rw[Tryz.u543];refine ox (y:=o) (y':=z) (z:=if x.word a=o then z else x.word a) (held:=decide (x.word a=o)) hx (λhh S1 R1 H=>?_) H (λc hc=>R2 hc) λS' H=>?_
  .obtain⟨n,e,hw⟩:=yx hh;rw[B5 hh e];exact Hm (qS hw) H
  refine ae (v:=cO.B (x.eL a o z).held) rfl ?_;exact wp_ret ⟨rfl,by rw[Me.Al];rfl,by rw[lC];exact H⟩
end
theorem ZD {p:Prop} (h:p:=by first
 |assumption|omega|exact⟨rfl,rfl⟩|(refine Me.aj ?_ _;assumption)|(refine⟨Me.aj ?_ _,?_⟩;assumption;omega)|(show AV.beq _ _=true;simp[AV.beq,sW,aY,gP];(first|done|fail))|(simp only[Int.reducePow] at*;omega)|(show jo _ _=_;kernel_rfl)|(show Program.underlying _ _=_;kernel_rfl)|(refine⟨?_,?_⟩;simp;simp;(first|done|fail))):p:=h
theorem HQ {a b}(h:Hq a b:=by repeat' constructor):Hs a b:=h.hs
theorem ZL {p:Prop} (h:p:=by first
 |assumption|omega|exact⟨rfl,rfl⟩|(refine Me.aj ?_ _;assumption)|(refine⟨Me.aj ?_ _,?_⟩;assumption;omega)|(show AV.beq _ _=true;simp[AV.beq,sW,aY,gP];(first|done|fail))|(simp only[Int.reducePow] at*;omega)|(show jo _ _=_;kernel_rfl)|(show Program.underlying _ _=_;kernel_rfl)|(refine⟨?_,?_⟩;simp;simp;(first|done|fail))):bL p:=bL.of h
class Un (p:Prop)(q:outParam Prop):Prop where
 u:q->p
instance(priority:=10){p:Prop}:Un p p:=⟨id⟩
instance z18 {p:Prop}:Un (bL p) p:=⟨bL.of⟩
theorem zL {p q:Prop}[c:Un p q](h:q):p:=c.u h
theorem ZM {p:Prop}(h:p:=by first|exact ZL|exact ZD):p:=h
theorem zT:bL True:=bL.of trivial
theorem ZE {α:Type}{a b:α}(h:a=b:=by exact ZD):a=b:=h
theorem ZQ {p:Prop}(h:p:=by first|(intro _;exfalso;omega)|assumption|exact zT|exact ZL|exact ZE):p:=h
structure Wq (q:Prop):Prop where
 zo:q
theorem zZ {p:Prop}(h:p:=by repeat' first|constructor|exact ZQ|intro _):p:=h
theorem z1 {p q:Prop}(k1:q)(h:Wq q->p:=by intro _;(repeat' first|constructor|exact ZQ|intro _);repeat' first|refine bL.of ?_|(rename_i x;exact x.zo)|(rename_i x;have y:=x.zo;clear y x)|(rename_i x;revert x)):p:=h ⟨k1⟩
theorem z2 {p q r:Prop}(k1:q)(k2:r)(h:Wq r->Wq q->p:=by intro _ _;(repeat' first|constructor|exact ZQ|intro _);repeat' first|refine bL.of ?_|(rename_i x;exact x.zo)|(rename_i x;have y:=x.zo;clear y x)|(rename_i x;revert x)):p:=h ⟨k2⟩ ⟨k1⟩
theorem z3 {p q r s:Prop}(k1:q)(k2:r)(k3:s)(h:Wq s->Wq r->Wq q->p:=by intro _ _ _;(repeat' first|constructor|exact ZQ|intro _);repeat' first|refine bL.of ?_|(rename_i x;exact x.zo)|(rename_i x;have y:=x.zo;clear y x)|(rename_i x;revert x)):p:=h ⟨k3⟩ ⟨k2⟩ ⟨k1⟩
theorem z4 {p q r s t:Prop}(k1:q)(k2:r)(k3:s)(k4:t)(h:Wq t->Wq s->Wq r->Wq q->p:=by intro _ _ _ _;(repeat' first|constructor|exact ZQ|intro _);repeat' first|refine bL.of ?_|(rename_i x;exact x.zo)|(rename_i x;have y:=x.zo;clear y x)|(rename_i x;revert x)):p:=h ⟨k4⟩ ⟨k3⟩ ⟨k2⟩ ⟨k1⟩
theorem y1 {M B0 S W own o1 ro}{f:Nat}{fa args fc b Ψ}{q:Prop}(H:Cx B0 W S o1 ro)(e:o1=own)(k1:q)(hk:M.kn.v f (fa++(args++fc))=none:=by exact rfl)(hb:M.iP f=some b:=by exact rfl)(h:Wq q->Zx M false (b (fa++(args++fc))) [] own ro (jy ro Ψ):=by intro _;(repeat' first|constructor|exact ZQ|intro _);repeat' first|refine bL.of ?_|(rename_i x;exact x.zo)|(rename_i x;have y:=x.zo;clear y x)|(rename_i x;revert x)):aG M (.fn (.func f) fa fc) args S λr S'=>∃ab,Ψ r ab/\Cx B0 W S' ab ro:=Vx.fm H e (h ⟨k1⟩) hk hb
theorem y2 {M B0 S W own o1 ro}{f:Nat}{fa args fc b Ψ}{q r:Prop}(H:Cx B0 W S o1 ro)(e:o1=own)(k1:q)(k2:r)(hk:M.kn.v f (fa++(args++fc))=none:=by exact rfl)(hb:M.iP f=some b:=by exact rfl)(h:Wq r->Wq q->Zx M false (b (fa++(args++fc))) [] own ro (jy ro Ψ):=by intro _ _;(repeat' first|constructor|exact ZQ|intro _);repeat' first|refine bL.of ?_|(rename_i x;exact x.zo)|(rename_i x;have y:=x.zo;clear y x)|(rename_i x;revert x)):aG M (.fn (.func f) fa fc) args S λr S'=>∃ab,Ψ r ab/\Cx B0 W S' ab ro:=Vx.fm H e (h ⟨k2⟩ ⟨k1⟩) hk hb
theorem y3 {M B0 S W own o1 ro}{f:Nat}{fa args fc b Ψ}{q r s:Prop}(H:Cx B0 W S o1 ro)(e:o1=own)(k1:q)(k2:r)(k3:s)(hk:M.kn.v f (fa++(args++fc))=none:=by exact rfl)(hb:M.iP f=some b:=by exact rfl)(h:Wq s->Wq r->Wq q->Zx M false (b (fa++(args++fc))) [] own ro (jy ro Ψ):=by intro _ _ _;(repeat' first|constructor|exact ZQ|intro _);repeat' first|refine bL.of ?_|(rename_i x;exact x.zo)|(rename_i x;have y:=x.zo;clear y x)|(rename_i x;revert x)):aG M (.fn (.func f) fa fc) args S λr S'=>∃ab,Ψ r ab/\Cx B0 W S' ab ro:=Vx.fm H e (h ⟨k3⟩ ⟨k2⟩ ⟨k1⟩) hk hb
theorem y4 {M B0 S W own o1 ro}{f:Nat}{fa args fc b Ψ}{q r s t:Prop}(H:Cx B0 W S o1 ro)(e:o1=own)(k1:q)(k2:r)(k3:s)(k4:t)(hk:M.kn.v f (fa++(args++fc))=none:=by exact rfl)(hb:M.iP f=some b:=by exact rfl)(h:Wq t->Wq s->Wq r->Wq q->Zx M false (b (fa++(args++fc))) [] own ro (jy ro Ψ):=by intro _ _ _ _;(repeat' first|constructor|exact ZQ|intro _);repeat' first|refine bL.of ?_|(rename_i x;exact x.zo)|(rename_i x;have y:=x.zo;clear y x)|(rename_i x;revert x)):aG M (.fn (.func f) fa fc) args S λr S'=>∃ab,Ψ r ab/\Cx B0 W S' ab ro:=Vx.fm H e (h ⟨k4⟩ ⟨k3⟩ ⟨k2⟩ ⟨k1⟩) hk hb
theorem x1 {M own ro x K Φ}{q:Prop}(k1:q)(h:Wq q->Zx M false x K own ro Φ:=by intro _;(repeat' first|constructor|exact ZQ|intro _);repeat' first|refine bL.of ?_|(rename_i x;exact x.zo)|(rename_i x;have y:=x.zo;clear y x)|(rename_i x;revert x)):Vx M x K own ro Φ:=Zx.ok (n:=false) (h ⟨k1⟩)
theorem x2 {M own ro x K Φ}{q r:Prop}(k1:q)(k2:r)(h:Wq r->Wq q->Zx M false x K own ro Φ:=by intro _ _;(repeat' first|constructor|exact ZQ|intro _);repeat' first|refine bL.of ?_|(rename_i x;exact x.zo)|(rename_i x;have y:=x.zo;clear y x)|(rename_i x;revert x)):Vx M x K own ro Φ:=Zx.ok (n:=false) (h ⟨k2⟩ ⟨k1⟩)
theorem x3 {M own ro x K Φ}{q r s:Prop}(k1:q)(k2:r)(k3:s)(h:Wq s->Wq r->Wq q->Zx M false x K own ro Φ:=by intro _ _ _;(repeat' first|constructor|exact ZQ|intro _);repeat' first|refine bL.of ?_|(rename_i x;exact x.zo)|(rename_i x;have y:=x.zo;clear y x)|(rename_i x;revert x)):Vx M x K own ro Φ:=Zx.ok (n:=false) (h ⟨k3⟩ ⟨k2⟩ ⟨k1⟩)
theorem R3 {a b i:Nat}(hb:b<2^i):a*2^i|||b=a*2^i+b:=by have:=Nat.shiftLeft_add_eq_or_of_lt hb a;rw[Nat.shiftLeft_eq] at this;exact this.symm
theorem rS {a b:Int}{i:Nat}(ha:0<=a)(hb:0<=b)(h:b<2^i):nb (a*2^i) b=a*2^i+b:=by
 obtain⟨m,rfl⟩:∃m:Nat,a=m:=⟨a.toNat,am⟩;obtain⟨n,rfl⟩:∃n:Nat,b=n:=⟨b.toNat,am⟩;have e:(m:Int)*2^i=((m*2^i:Nat):Int):=ac;have hn:n<2^i:=by have:((2:Int)^i)=((2^i:Nat):Int):=ac;rw[this] at h;omega
 unfold nb;rw[e,Int.toNat_natCast,Int.toNat_natCast,R3 hn];omega
theorem lh {a b:Int}{i:Nat}(ha:0<=a)(hb:0<=b)(h:b<2^i):nb b (a*2^i)=a*2^i+b:=by
 have:nb b (a*2^i)=nb (a*2^i) b:=by unfold nb;rw[Nat.or_comm]
 rw[this,rS ha hb h]
theorem Df {m n:Nat}(h:m<=n):(2:Int)^m<=2^n:=by have:=Nat.pow_le_pow_right (n:=2) am h;have e1:((2:Int)^m)=((2^m:Nat):Int):=ac;have e2:((2:Int)^n)=((2^n:Nat):Int):=ac;omega
theorem yy (n:Nat):(1:Int)<=2^n:=by have e1:((2:Int)^n)=((2^n:Nat):Int):=ac;have:=Nat.one_le_two_pow (n:=n);omega
theorem qT {S}{w:Int}{f n:Nat}(hw:Me.ar w)(hf:f<=63)(hn:n<=62):aG EM (zF 498) [U w,.agg [I (Int.ofNat f),I (Int.ofNat n)]] S λr S'=>r=I (w/2^f%2^n)/\aR S S':=by
 refine aV (b:=Tryz.a498) rfl rfl ?_;have H:Cx S [] S [] []:=Cx.enter ac;rw[Tryz.u498];unfold Me.ar at hw;have h1:=Df (m:=n) (n:=62) hn;have h2:=yy n;have h3:=yy f;have h4:w/2^f<=w:=Int.ediv_le_self _ hw.1;have h5:0<=w/2^f:=Int.ediv_nonneg hw.1 am;have h6:=Int.emod_lt_of_pos (w/2^f) (show(0:Int)<2^n by omega);have h7:=Int.emod_nonneg (w/2^f) (show(2:Int)^n≠0 by omega);refine fR H rfl λp S1 H=>?_
 (try(refine zz ?_;(repeat constructor);intro _))
 refine bO (j:=0) H 0 rfl rfl ?_;refine ae (B2 (cJ (by show f<=64;omega))) ?_
 (try(refine zz ?_;(repeat constructor);intro _))
 refine bO (j:=1) H 0 rfl rfl ?_;refine ae (B3 (cJ am)) ?_;refine uU (c:=2^n-1) (by rw[bw,IntKind.wrap_u64];omega) ?_;refine ae (pM h5 am am am) ?_;rw[ot h5];refine ae (u_ (wrap64 am am)) ?_;exact wp_ret ⟨rfl,rfl,(H.iw 0).cr⟩
instance aab {w:Int}:VC EM (zF 498) [U w,.agg [I 0,I 16]] (Me.ar w) (I (w%65536)):=⟨λh S=>by have:=qT (S:=S) (f:=0) (n:=16) h am am;simpa using this⟩
instance aac {w:Int}:VC EM (zF 498) [U w,.agg [I 16,I 48]] (Me.ar w) (I (w/65536)):=⟨λh S=>by
 have:=qT (S:=S) (f:=16) (n:=48) h am am;have e:w/2^16%2^48=w/65536:=by unfold Me.ar at h;omega
 rw[e] at this;exact this⟩
instance aad {w:Int}:VC EM (zF 498) [U w,.agg [I 16,I 32]] (Me.ar w) (I (w/65536%4294967296)):=⟨λh S=>by have:=qT (S:=S) (f:=16) (n:=32) h am am;simpa using this⟩
instance aae {w:Int}:VC EM (zF 498) [U w,.agg [I 16,I 40]] (Me.ar w) (I (w/65536%1099511627776)):=⟨λh S=>by have:=qT (S:=S) (f:=16) (n:=40) h am am;simpa using this⟩
instance aaf {w:Int}:VC EM (zF 498) [U w,.agg [I 56,I 8]] (Me.ar w) (I (w/72057594037927936)):=⟨λh S=>by
 have:=qT (S:=S) (f:=56) (n:=8) h am am;have e:w/2^56%2^8=w/72057594037927936:=by unfold Me.ar at h;omega
 rw[e] at this;exact this⟩
instance z19:cH 473 where
instance getTop {w:Int}:VC EM (zF 612) [U w] (Me.ar w) (.dD [.agg [I (w%65536-1),I (w/65536)],I 0]):=.of rfl rfl λhw=>by
 show Zx EM false (Tryz.a612 _) _ _ _ _
 (repeat' first|constructor|exact ZQ|intro _)
 all_goals apply zL
instance marked {w:Int}:VC EM (zF 642) [U w] (Me.ar w) (B (decide (9223372036854775808<=w))):=.of rfl rfl λhw=>by
 show Zx EM false (Tryz.a642 _) _ _ _ _
 (repeat' first|constructor|exact ZQ|intro _)
 all_goals apply zL
 .refine⟨rfl,?_⟩;rw[decide_eq_true (by simp only[Int.reducePow] at*;omega)];rfl
 .refine⟨rfl,?_⟩;rw[decide_eq_false (by simp only[Int.reducePow] at*;omega)];rfl
instance Nh {w:Int}:VC EM (zF 641) [U w,B false] (Me.ar w) (U (w%9223372036854775808)):=.of rfl rfl λhw=>by
 show Zx EM false (Tryz.a641 _) _ _ _ _
 (repeat' first|constructor|exact ZQ|intro _)
 all_goals apply zL
theorem Hn {w:Int}(h0:0<=w)(h1:w<9223372036854775808):nb w 9223372036854775808=w+9223372036854775808:=by have:=lh (a:=1) (b:=w) (i:=63) am h0 (by simpa using h1);rw[show(1:Int)*2^63=9223372036854775808 by decide] at this;omega
instance XH {w:Int}:VC EM (zF 641) [U w,B true] (0<=w/\w<9223372036854775808) (U (w+9223372036854775808)):=.of rfl rfl λhw=>by
 show Zx EM false (Tryz.a641 _) _ _ _ _
 (repeat' first|constructor|exact ZQ|intro _)
 all_goals apply zL
 exact⟨rfl,by show U (nb w 9223372036854775808)=_;rw[Hn hw.1 hw.2]⟩
instance z20 {n:Nat}[Mn n [379,381,485,640,380]]:cH n where
theorem xa {a:Int}(h:0<=a):nb 0 a=a:=by unfold nb;simp;omega
theorem yz {i g:Int}(h0:0<=i)(h1:i<=65535)(g0:0<=g)(g1:g<281474976710656):nb (nb 0 (i%18446744073709551616*2^0%18446744073709551616)) (g%18446744073709551616*2^16%18446744073709551616)=i+g*65536:=by simp only[Int.reducePow];rw[xa am];have e1:i%18446744073709551616*1%18446744073709551616=i:=am;have e2:g%18446744073709551616*65536%18446744073709551616=g*2^16:=am;rw[e1,e2,lh g0 h0 am];omega
instance XI {i g:Int}:VC EM (zF 367) [.agg [I i,I g]] ((-1<=i/\i<=65534)/\0<=g/\g<281474976710656) (.dD [U (i+1+g*65536),I 0]):=.of rfl rfl λ⟨h1,h2⟩=>by
 show Zx EM false (Tryz.a367 _) _ _ _ _;haveI:aU:=⟨⟩
 (repeat' first|constructor|exact ZQ|intro _)
 all_goals apply zL
 .rw[xa am];omega
 .rw[yz am am h2.1 h2.2];exact⟨rfl,rfl⟩
def aD (i g:Int):Int:=i+1+g*65536
def dw (i g:Int):Prop:=(0<=i/\i<=65534)/\0<=g/\g<4294967296
instance XJ {i g:Int}:VC EM (zF 628) [.agg [I i,I g,B false]] (dw i g) (.dD [U (aD i g),I 0]):=.of rfl rfl λ⟨h1,h2⟩=>by
 show Zx EM false (Tryz.a628 _) _ _ _ _;haveI:aU:=⟨⟩
 (repeat' first|constructor|exact ZQ|intro _)
 all_goals apply zL
 .rw[xa am];omega
 .rw[yz am am h2.1 am];unfold Me.ar;omega
 .rw[yz am am h2.1 am];refine⟨rfl,?_⟩;unfold aD;show AV.dD [U ((i+1+g*65536)%9223372036854775808),I 0]=_;rw[Int.emod_eq_of_lt am am]
theorem rT {i g:Int}(h:dw i g):aD i g%65536-1=i:=by unfold dw at h;unfold aD;omega
theorem Ho {i g:Int}(h:dw i g):aD i g/65536%4294967296=g:=by unfold dw at h;unfold aD;omega
theorem yA {i g:Int}(h:dw i g):0<=aD i g/\aD i g<9223372036854775808:=by unfold dw at h;unfold aD;omega
theorem lj {i g:Int}(h:dw i g):Me.ar (aD i g):=by have:=yA h;unfold Me.ar;omega
instance getRef {i g:Int}:VC EM (zF 635) [U (aD i g)] (dw i g) (.dD [.agg [I i,I g,B false],I 0]):=.of rfl rfl λh=>by
 show Zx EM false (Tryz.a635 _) _ _ _ _;have hw:=lj h;have hm:=yA h
 (repeat' first|constructor|exact ZQ|intro _)
 all_goals apply zL
 rw[rT h,Ho h,decide_eq_false am];refine Zx.ok (n:=false) ?_
 (repeat' first|constructor|exact ZQ|intro _)
 all_goals apply zL
def Sk.ok (s:Sk):Prop:=(0<=s.top/\s.top<100000)/\(0<=s.gp/\s.gp<100000)/\1<=s.size/\s.size<=4096
theorem fN {n w:Int}(h:0<=n):-1<=idx n w/\idx n w<n:=by unfold idx;split<;>omega
instance aag {a b c w:Int}:VC EM (zF 586) [.agg [I a,I b,I c],U w] (Me.ar w/\0<=c) (I (idx c w)):=.of rfl rfl λ⟨hw,hc⟩=>by
 show Zx EM false (Tryz.a586 _) _ _ _ _;refine z2 ?_ ?_<;>intros
 .exact⟨rfl,by unfold idx;rw[if_neg am];rfl⟩
 .exact⟨rfl,by unfold idx;rw[if_pos am];rfl⟩
instance aah {i:Int}:VC EM (zF 247) [I i] (-1<=i/\i<=65534) (U (i+1)):=.of rfl rfl λhi=>by show Zx EM false (Tryz.a247 _) _ _ _ _;refine z1 ?_;exact⟨rfl,by show U (i+1+0*65536)=_;rw[Int.zero_mul,Int.add_zero]⟩
instance z21 {n:Nat}[Mn n [545,613,546,547,588,548,476,544,587,478,371,551,590,614,483,647,653,656,638]]:cH n where
def Sk.row (s:Sk)(w i j:Int)(dn:Bool)(er:Int)(f:Nat):List AV:=[I s.top,I s.gp,I s.size,U w,I i,I j,B true,B dn,I er,.fn (.func f) [] []]
inductive wC (s:Sk)(q:Nat):pO->List Own->Prop
 |a {w i j:Int}:wC s q .a [.obj q (.row (s.row w i j false 0 476))]
 |b {w i j:Int}(hw:Me.ar w)(hi:0<=i/\i<s.size):wC s q (.b w i) [.obj q (.row (s.row w i j false 0 544))]
 |c {w i j:Int}(hw:Me.ar w)(hi:0<=i/\i<s.size)(hj:-1<=j/\j<s.size):wC s q (.c w i j) [.obj q (.row (s.row w i j false 0 587))]
 |d {w i j:Int}{f:Nat}(hi:0<=i/\i<s.size):wC s q (.d i) [.obj q (.row (s.row w i j true 0 f))]
 |n {w i j:Int}{f:Nat}(hi:i=-1):wC s q (.d (-1)) [.obj q (.row (s.row w i j true 15 f))]
inductive kK (s:Sk)(v:Int)(q:Nat):kI->List Own->Prop
 |a {w j:Int}(hv:0<=v/\v<s.size):kK s v q .a [.obj q (.row (s.row w v j false 0 551))]
 |b {w:Int}(hv:0<=v/\v<s.size)(hw:Me.ar w):kK s v q (.b w) [.obj q (.row (s.row w v (idx s.size w) false 0 590))]
 |c {w:Int}(hv:0<=v/\v<s.size)(hw:Me.ar w):kK s v q (.c w) [.obj q (.row (s.row w v (idx s.size w) false 0 614))]
 |d {w j e:Int}{f:Nat}:kK s v q (.d e) [.obj q (.row (s.row w v j true e f))]
inductive yB (s:Sk)(q:Nat):te->List Own->Prop
 |a {w i j:Int}:yB s q .a [.obj q (.row (s.row w i j false 0 647))]
 |b {w i j:Int}(hw:Me.ar w)(hi:0<=i/\i<s.size):yB s q (.b w i) [.obj q (.row (s.row w i j false 0 653))]
 |d {w i j:Int}{f:Nat}(hi:0<=i/\i<s.size):yB s q (.d i) [.obj q (.row (s.row w i j true 0 f))]
 |n {w i j:Int}{f:Nat}(hi:i=-1):yB s q (.d (-1)) [.obj q (.row (s.row w i j true 15 f))]
section
variable{B0 S:AH}{W:List Nat}{own R l:List Own}{ro:List aB}{m bl q:Nat}{x:Me}{rest:List AV}{s:Sk}
theorem bK {o1 own:List Own}(e:o1=own:=by conv=>lhs;try simp only[lA,lB,lC]):o1=own:=e
theorem Dg {σ:pO}(hs:s.ok)(hx:x.gd)(h:wC s q σ l)(H:Cx B0 W S (l++(ad m bl x rest++R)) ro):
  aG EM (zF 477) [.ptr q 0,.ptr m 0] S λr S'=>∃ab,eW (wC s q) pO.over (σ.step s x) (ad m bl · rest) R r ab/\Cx B0 W S' ab ro:=by
 have bt:=hs;unfold Sk.ok at bt;have hi:=fN (n:=s.size) (w:=x.word s.top) am;cases h with
 |a=>
  refine y2 H bK ?_ ?_<;>intros
  .next h=>exact aa (Prod.ext (if_pos h) rfl) (.n am) rfl .rfl'
  .next h=>exact aa (Prod.ext (if_neg h) rfl) (.b (Me.aj hx _) ⟨am,hi.2⟩) rfl .rfl'
 |b hw hi=>
  refine y1 H bK ?_;exact aa rfl (.c hw hi (fN am)) rfl .rfl'
 |c hw hi hj=>
  refine y2 H bK ?_ ?_<;>intros
  .next h=>exact aa (Prod.ext (if_pos h) rfl) (.d hi) rfl (.drop .rfl')
  .next h=>exact aa (Prod.ext (if_neg h) rfl) .a rfl (.drop .rfl')
 |d hi=>
  refine y1 H bK ?_;exact aa rfl (.d hi) rfl .rfl'
 |n hi=>refine y1 H bK ?_;exact aa rfl (.n hi) rfl .rfl'
theorem vg {v:Int}{σ:kI}(hs:s.ok)(hx:x.gd)(h:kK s v q σ l)(H:Cx B0 W S (l++(ad m bl x rest++R)) ro):
  aG EM (zF 615) [.ptr q 0,.ptr m 0] S λr S'=>∃ab,eW (kK s v q) kI.over (σ.step s v x) (ad m bl · rest) R r ab/\Cx B0 W S' ab ro:=by
 have bt:=hs;unfold Sk.ok at bt;cases h with
 |a hv=>
  refine y1 H bK ?_;exact aa rfl (.b hv (Me.aj hx _)) rfl .rfl'
 |@b w hv hw=>
  have hi:=fN (n:=s.size) (w:=w) am;refine y1 H bK ?_;exact aa rfl (.c hv hw) rfl .rfl'
 |c hv hw=>
  refine y2 H bK ?_ ?_<;>intros
  .next h=>exact aa (Prod.ext (if_pos h) rfl) .d rfl (.drop .rfl')
  .next h=>exact aa (Prod.ext (if_neg h) rfl) (.a hv) rfl (.drop .rfl')
 |d=>refine y1 H bK ?_;exact aa rfl .d rfl .rfl'
theorem JX {σ:te}(hs:s.ok)(hx:x.gd)(h:yB s q σ l)(H:Cx B0 W S (l++(ad m bl x rest++R)) ro):
  aG EM (zF 655) [.ptr q 0,.ptr m 0] S λr S'=>∃ab,eW (yB s q) te.over (σ.step s x) (ad m bl · rest) R r ab/\Cx B0 W S' ab ro:=by
 have bt:=hs;unfold Sk.ok at bt;have hi:=fN (n:=s.size) (w:=x.word s.top) am;cases h with
 |a=>
  refine y2 H bK ?_ ?_<;>intros
  .next h=>exact aa (Prod.ext (if_pos h) rfl) (.n am) rfl .rfl'
  .next h=>exact aa (Prod.ext (if_neg h) rfl) (.b (Me.aj hx _) ⟨am,hi.2⟩) rfl .rfl'
 |b hw hi=>
  refine y2 H bK ?_ ?_<;>intros
  .next h=>exact aa (Prod.ext (if_pos h) rfl) (.d hi) rfl (.drop .rfl')
  .next h=>exact aa (Prod.ext (if_neg h) rfl) .a rfl (.drop .rfl')
 |d hi=>
  refine y1 H bK ?_;exact aa rfl (.d hi) rfl .rfl'
 |n hi=>refine y1 H bK ?_;exact aa rfl (.n hi) rfl .rfl'
end
def Ar.ok (a:Ar):Prop:=a.f.ok/\(0<=a.km/\a.km<100000)/\(0<=a.lW/\a.lW<100000)/\1<=a.Fq/\a.Fq<=4294967295
def Ar.cs (a:Ar):List AV:=[I a.f.top,I a.f.gp,I a.f.size,I a.km,I a.lW,I a.Fq]
instance z22 {n:Nat}[Mn n [629,601,618,619,564,602,659,662,665,666,667]]:cH n where
def Ar.lq (a:Ar)(qp:Nat)(nx:AV)(i r e:Int):List AV:=.ptr qp 0::(a.cs++[B true,nx,I i,U r,I e])
inductive nS (a:Ar)(q:Nat):bN->List Own->Prop
 |p {i:Int}{qp:Nat}{σ l}(h:wC a.f qp σ l)(ho:σ.over=false):nS a q (.p σ) ([.obj q (.row (a.lq qp (zF 601) i 0 0))]++l)
 |g {i:Int}{qp:Nat}(hi:0<=i/\i<a.f.size):nS a q (.g i) [.obj q (.row (a.lq qp (zF 618) i 0 0))]
 |w {i:Int}{qp:Nat}:nS a q .w [.obj q (.row (a.lq qp (zF 619) i 0 0))]
 |d {i r e:Int}{qp:Nat}(hr:e=0->∃i' g,(dw i' g/\i'<a.f.size)/\r=aD i' g):nS a q (.d r e) [.obj q (.row (a.lq qp Nf i r e))]
inductive qU (a:Ar)(v:Int)(q:Nat):jY->List Own->Prop
 |l {g:Int}{qp:Nat}{l}(hv:0<=v/\v<a.f.size)(h:kK a.f v qp .a l):qU a v q .l ([.obj q (.row (a.lq qp (zF 662) v g 0))]++l)
 |r {g:Int}{qp:Nat}{l}(hv:0<=v/\v<a.f.size)(hg:Me.ar g)(h:kK a.f v qp .a l):qU a v q (.r g) ([.obj q (.row (a.lq qp (zF 665) v g 0))]++l)
 |u {g:Int}{qp:Nat}{σ l}(hv:0<=v/\v<a.f.size)(h:kK a.f v qp σ l)(ho:σ.over=false):qU a v q (.u σ) ([.obj q (.row (a.lq qp (zF 667) v g 0))]++l)
 |w {g:Int}{qp:Nat}:qU a v q .w [.obj q (.row (a.lq qp (zF 666) v g 0))]
 |d {g e:Int}{qp:Nat}:qU a v q (.d e) [.obj q (.row (a.lq qp Nf v g e))]
section
variable{B0 S:AH}{W:List Nat}{own R l:List Own}{ro:List aB}{m bl q:Nat}{x:Me}{rest:List AV}{a:Ar}
theorem xb {σ}(hs:a.ok)(hx:x.gd)(h:nS a q σ l)(H:Cx B0 W S (l++(ad m bl x rest++R)) ro):
  aG EM (zF 745) [.ptr q 0,.ptr m 0] S λr S'=>∃ab,eW (nS a q) bN.over (σ.step a x) (ad m bl · rest) R r ab/\Cx B0 W S' ab ro:=by
 have bt:=hs;unfold Ar.ok Sk.ok at bt;have h0:=hs.1;have hg:=λi=>Me.aj hx i;cases h with
 |@p i qp σ l h ho=>
  refine y1 H bK ?_;refine Vx.fV (A:=[_]) (λB W S H=>Dg h0 hx h H) λa' x' l' e hl=>?_;have e2:(bN.p σ).step a x=(bN.kh a',x'):=by show(bN.kh _,_)=_;rw[e]
  cases ho:a'.over
  .refine z1 ?_;have e3:(bN.p σ).step a x=(.p a',x'):=e2.trans (Prod.ext (by cases hl<;>first|rfl|cases ho) rfl);exact aa e3 (.p hl ho) rfl .rfl'
  .cases hl with
   |a=>cases ho
   |b=>cases ho
   |c=>cases ho
   |d hi=>
    refine z1 ?_;exact aa (e2.trans (Prod.ext (if_neg am) rfl)) (.g hi) rfl (.cons (.drop .rfl'))
   |n hi=>
    subst hi;refine z1 ?_;exact aa e2 .w rfl (.cons (.drop .rfl'))
 |@g i qp hi=>
  have hg:=hg (a.km+i);refine y2 H bK ?_ ?_;.unfold dw;omega
  .exact aa rfl (.d λ_=>⟨i,x.word (a.km+i)%4294967296,⟨by unfold dw;omega,hi.2⟩,rfl⟩) rfl .rfl'
 |w=>
  refine y2 H bK ?_ ?_<;>intros
  .next h=>exact aa (Prod.ext (congrArg (bN.d 0) (if_pos am)) rfl) (.d λh=>absurd h dl) rfl .rfl'
  .next h=>exact aa (Prod.ext (congrArg (bN.d 0) (if_neg am)) rfl) (.d λh=>absurd h dl) rfl .rfl'
 |d hr=>refine y1 H bK ?_;exact aa rfl (.d hr) rfl .rfl'
theorem Hp {v:Int}{σ}(hs:a.ok)(hx:x.gd)(h:qU a v q σ l)(H:Cx B0 W S (l++(ad m bl x rest++R)) ro):
  aG EM (zF 663) [.ptr q 0,.ptr m 0] S λr S'=>∃ab,eW (qU a v q) jY.over (σ.step a v x) (ad m bl · rest) R r ab/\Cx B0 W S' ab ro:=by
 have bt:=hs;unfold Ar.ok Sk.ok at bt;have h0:=hs.1;cases h with
 |@l g qp l hv h=>
  have hg:=Me.aj hx (a.km+v);refine y2 H bK ?_ ?_<;>intros
  .next e=>exact aa (Prod.ext (if_pos am) rfl) .w rfl (.cons (.perm (.of (g:=l) (List.perm_append_comm)) (.refl _)))
  .next e=>exact aa (Prod.ext (if_neg am) rfl) (.r hv hg h) rfl .rfl'
 |@r g qp l hv hg h=>
  refine y1 H bK ?_;exact aa rfl (.u hv h rfl) rfl .rfl'
 |@u g qp σ l hv h ho=>
  refine y1 H bK ?_;refine Vx.fV (A:=[_]) (λB W S H=>vg h0 hx h H) λa' x' l' e hl=>?_;have e2:(jY.u σ).step a v x=(if a'.over then .d 0 else .u a',x'):=by show(_,_)=_;rw[e]
  cases ho:a'.over
  .refine z1 ?_;have e3:(jY.u σ).step a v x=(.u a',x'):=e2.trans (Prod.ext (if_neg (by rw[ho];simp)) rfl);exact aa e3 (.u hv hl ho) rfl .rfl'
  .refine z1 ?_;exact aa (e2.trans (Prod.ext (if_pos ho) rfl)) .d rfl (.cons (.perm (.of (g:=l') (List.perm_append_comm)) (.refl _)))
 |w=>
  refine y1 H bK ?_;exact aa rfl .d rfl .rfl'
 |d=>refine y1 H bK ?_;exact aa rfl .d rfl .rfl'
end
def Ep.ok (e:Ep):Prop:=(0<=e.cb/\e.cb<100000)/\(0<=e.pins/\e.pins<100000)/\1<=e.ah/\e.ah<=64
def Ep.cs (e:Ep):List AV:=[I e.cb,I e.pins,I e.ah]
instance z23 {n:Nat}[Mn n [595,596,654,600,560,562,597,598,599,575,610,637,644,645,646,649,366,472]]:cH n where
def LI (h:List AV)(ln er:Int):List AV:=h++[I ln,B true,I er]
def Ep.rowP (e:Ep)(q:Nat)(c ln n:Int):List AV:=LI [.fn (.func 597) [.ptr q 0] [],.fn (.func 598) [.ptr q 0] [],.fn (.func 599) [.ptr q 0] []] ln 0++(e.cs++[I (e.pins+c),Z .u32 n])
inductive wD (e:Ep)(c:Int)(q:Nat):m_->List Own->Prop
 |a {n:Int}(hc:0<=c/\c<e.ah):wD e c q .a [.obj q (.row (e.rowP q c 0 n))]
 |b {p:Int}(hc:0<=c/\c<e.ah)(hp:0<=p/\p<4294967296):wD e c q (.b p) [.obj q (.row (e.rowP q c 1 p))]
 |c {p:Int}(hc:0<=c/\c<e.ah)(hp:0<=p/\p<4294967296):wD e c q (.c p) [.obj q (.row (e.rowP q c 2 p))]
 |d {p:Int}(hp:0<=p/\p<4294967296):wD e c q (.d p 0) [.obj q (.row (e.rowP q c (-1) p))]
inductive mE (e:Ep)(c:Int)(q:Nat):cG->List Own->Prop
 |a (hc:0<=c/\c<e.ah):mE e c q .a [.obj q (.row (LI [.fn (.func 610) [.ptr q 0] [],Nf,Nf] 0 0++[I (e.pins+c)]))]
 |d {er:Int}:mE e c q (.d er) [.obj q (.row (LI [.fn (.func 610) [.ptr q 0] [],Nf,Nf] (-1) er++[I (e.pins+c)]))]
def Ep.lq (e:Ep)(q:Nat)(c p ln er w k:Int):List AV:=LI [.fn (.func 644) [.ptr q 0] [],.fn (.func 645) [.ptr q 0] [],.fn (.func 646) [.ptr q 0] []] ln er++(e.cs++[I c,I p,U w,I k])
inductive yC (e:Ep)(c p:Int)(q:Nat):jc->List Own->Prop
 |a {w k:Int}(hc:0<=c/\c<e.ah):yC e c p q .a [.obj q (.row (e.lq q c p 0 0 w k))]
 |b {w n:Int}(hc:0<=c/\c<e.ah)(hw:Me.ar w)(hp:w%4294967296=p)(hn:0<=n/\n<e.ah):yC e c p q (.b w n) [.obj q (.row (e.lq q c p 1 0 w n))]
 |c {w k:Int}(hc:0<=c/\c<e.ah)(hw:Me.ar w)(hp:w%4294967296=p):yC e c p q (.c w) [.obj q (.row (e.lq q c p 2 0 w k))]
 |d {er w k:Int}:yC e c p q (.d er) [.obj q (.row (e.lq q c p (-1) er w k))]
section
variable{B0 S:AH}{W:List Nat}{own R l:List Own}{ro:List aB}{m bl q:Nat}{x:Me}{rest:List AV}{e:Ep}{c p:Int}
theorem oy {σ}(hs:e.ok)(hx:x.gd)(h:wD e c q σ l)(H:Cx B0 W S (l++(ad m bl x rest++R)) ro):
  aG EM (zF 743) [.ptr q 0,.ptr m 0] S λr S'=>∃ab,eW (wD e c q) m_.over (σ.step e c x) (ad m bl · rest) R r ab/\Cx B0 W S' ab ro:=by
 have bt:=hs;unfold Ep.ok at bt;have hb:=Me.aj hx e.cb;cases h with
 |a hc=>
  refine y1 H bK ?_;exact aa rfl (.b hc am) rfl .rfl'
 |@b p hc hp=>
  refine y1 H bK ?_;refine aa rfl (.c hc hp) rfl ?_;rw[show p%18446744073709551616=p by omega,show(p+1)%18446744073709551616=p+1 by omega];exact .rfl'
 |@c p hc hp=>
  refine y2 H bK ?_ ?_<;>intros
  .next h=>exact aa (Prod.ext (if_pos h) rfl) (.d hp) rfl .rfl'
  .next h=>exact aa (Prod.ext (if_neg h) rfl) (.b hc am) rfl .rfl'
 |d hp=>refine y1 H bK ?_;exact aa rfl (.d hp) rfl .rfl'
theorem gG {σ}(hs:e.ok)(hx:x.gd)(h:mE e c q σ l)(H:Cx B0 W S (l++(ad m bl x rest++R)) ro):
  aG EM (zF 755) [.ptr q 0,.ptr m 0] S λr S'=>∃ab,eW (mE e c q) cG.over (σ.step e c x) (ad m bl · rest) R r ab/\Cx B0 W S' ab ro:=by
 have bt:=hs;unfold Ep.ok at bt;cases h with
 |a hc=>
  refine y1 H bK ?_;exact aa rfl .d rfl .rfl'
 |d=>refine y1 H bK ?_;exact aa rfl .d rfl .rfl'
theorem Dh {f:Int}{w k ln:Int}(hs:e.ok)(hc:0<=c/\c<e.ah)(hf:0<=f)(H:Cx B0 W S (.obj q (.row (e.lq q c p ln 0 w k))::R) ro):
  aG EM (zF 652) [.ptr q 0,I f] S λr S'=>∃ab,(∃xc k',r=uv/\ab=.obj q (.row (e.lq q c p xc 0 w k'))::R/\((xc=2/\jc.skip e c w f=.c w)\/(xc=1/\jc.skip e c w f=.b w k'/\0<=k'/\k'<e.ah)))/\Cx B0 W S' ab ro:=by
 have bt:=hs;unfold Ep.ok at bt;refine y1 H bK ?_;intros;refine Vx.RW e.ah.toNat (λi=>∀j:Int,f<=j->j<i->j=c) (λj h1 h2=>am) ?_ ?_
 .intro i hi hp hn;refine z3 ?_ ?_ ?_<;>intros
  .next h1 h2 h3=>
   refine⟨rfl,rfl,_,⟨1,i,rfl,rfl,.inr ⟨rfl,?_,am,am⟩⟩,.drop (.drop (.drop .rfl'))⟩;have h4:(if f=c then f+1 else f)=i:=by
    by_cases h5:f=(i:Int);.rw[if_neg am];exact h5
    .have h6:=hp f (Int.le_refl _) am;rw[if_pos h6];by_cases h7:f+1=(i:Int);.exact h7
     .have:=hp (f+1) am am;omega
   unfold jc.skip;rw[h4,if_neg am]
  .next h1 h2 h3=>
   exact hn λj h4 h5=>by
    by_cases h6:j=(i:Int);.omega
    .exact hp j h4 am
  .next h1 h2=>exact hn λj h4 h5=>hp j h4 am
 .intro hp;refine z1 ?_;intros;refine⟨rfl,rfl,_,⟨2,k,rfl,rfl,.inl ⟨rfl,?_⟩⟩,.drop (.drop (.drop .rfl'))⟩;unfold jc.skip;rw[if_pos];by_cases h5:f=c
  .rw[if_pos h5];by_cases h7:f+1<e.ah;.have:=hp (f+1) am am;omega
   .omega
  .rw[if_neg h5];by_cases h7:f<e.ah;.have:=hp f am am;omega
   .omega
theorem JY {σ}(hs:e.ok)(hx:x.gd)(h:yC e c p q σ l)(H:Cx B0 W S (l++(ad m bl x rest++R)) ro):
  aG EM (zF 648) [.ptr q 0,.ptr m 0] S λr S'=>∃ab,eW (yC e c p q) jc.over (σ.step e c p x) (ad m bl · rest) R r ab/\Cx B0 W S' ab ro:=by
 have bt:=hs;unfold Ep.ok at bt;have hb:=Me.aj hx e.cb;cases h with
 |a hc=>
  refine y2 H bK ?_ ?_<;>intros
  .next h=>exact aa (Prod.ext (if_neg h) rfl) .d rfl .rfl'
  .next h=>
   have h:x.word e.cb%4294967296=p:=am;refine Vx.spec (λB W S H=>Dh (f:=0) hs hc am H) λr ab q=>?_;obtain⟨xc,k',rfl,rfl,q|q⟩:=q
   .obtain⟨rfl,q⟩:=q;refine z1 ?_;exact aa (Prod.ext ((if_pos h).trans q) rfl) (.c hc hb h) rfl .rfl'
   .obtain⟨rfl,q,q1,q2⟩:=q;refine z1 ?_;exact aa (Prod.ext ((if_pos h).trans q) rfl) (.b hc hb h ⟨q1,q2⟩) rfl .rfl'
 |@b w n hc hw hp hn=>
  have tC:=Me.aj hx (e.pins+n);have go:∀{K Φ},(∀xc k',(xc=2/\jc.skip e c w (n+1)=.c w)\/(xc=1/\jc.skip e c w (n+1)=.b w k'/\0<=k'/\k'<e.ah)->Zx EM false (.ret .ret []) K (.obj q (.row (e.lq q c p xc 0 w k'))::(ad m bl (x.ld (e.pins+n)) rest++R)) ro Φ)->
    Vx EM (.call (zF 652) [.ptr q 0,I (n+1)] λv25=>.ret .ret []) K (.obj q (.row (e.lq q c p 1 0 w n))::(ad m bl (x.ld (e.pins+n)) rest++R)) ro Φ:=by
   intro K Φ h;refine Vx.spec (λB W S H=>Dh (f:=n+1) hs hc am H) λr ab q=>?_;obtain⟨xc,k',rfl,rfl,q⟩:=q;exact h xc k' q
  have fin:∀{xc k'},(x.word (e.pins+n)=0\/x.word (e.pins+n)=p+1)->(xc=2/\jc.skip e c w (n+1)=.c w)\/(xc=1/\jc.skip e c w (n+1)=.b w k'/\0<=k'/\k'<e.ah)->
    jy ro (eW (yC e c p q) jc.over (jc.step e c p (.b w n) x) (ad m bl · rest) R) .ret [B (decide (xc=-1))] (.obj q (.row (e.lq q c p xc 0 w k'))::(ad m bl (x.ld (e.pins+n)) rest++R)) ro:=by
   intro xc k' h q;rcases q with⟨rfl,q⟩|⟨rfl,q,q1⟩;.exact aa (Prod.ext ((if_pos h).trans q) rfl) (.c hc hw hp) rfl .rfl'
   .exact aa (Prod.ext ((if_pos h).trans q) rfl) (.b hc hw hp q1) rfl .rfl'
  refine y3 H bK ?_ ?_ ?_<;>intros
  .next h1 h2=>exact aa (Prod.ext (if_neg am) rfl) .d rfl .rfl'
  .next h1 h2=>
   refine go λxc k' q=>?_;have hl:xc≠-1:=am;refine z1 ?_;intros;have:=fin am q
   rwa[decide_eq_false hl] at this
  .next h1=>
   refine go λxc k' q=>?_;have hl:xc≠-1:=am;refine z1 ?_;intros;have:=fin am q
   rwa[decide_eq_false hl] at this
 |@c w k hc hw hp=>
  have h1:(w%4294967296%18446744073709551616+1)%18446744073709551616=p+1:=am;refine y2 H bK ?_ ?_<;>intros
  .next h=>rw[h1];exact aa (Prod.ext (if_pos h) rfl) .d rfl .rfl'
  .next h=>
   rw[h1];exact aa (Prod.ext (if_neg h) rfl) .d rfl .rfl'
 |d=>refine y1 H bK ?_;exact aa rfl .d rfl .rfl'
end
def Lb.ok (l:Lb):Prop:=l.a.ok/\l.e.ok/\0<=l.vd/\l.vd<50000
def Lb.cs (l:Lb):List AV:=l.a.cs++(l.e.cs++[I l.vd])
theorem Lb.kL {l:Lb}(h:l.ok){k:Int}(h0:0<=k)(h1:k<3):(l.wait k).ok:=by unfold Lb.ok Ar.ok Sk.ok at h;unfold Sk.ok Lb.wait;dsimp only;omega
instance z24 {n:Nat}[Mn n [245,740,734,739,741,627,639,650,657,660]]:cH n where
def Lb.Nj (l:Lb)(nx:AV)(er v:Int)(pp:AV):List AV:=nx::B true::I er::(l.cs++[I v,pp])
inductive An (l:Lb)(v:Int)(q:Nat):iy->List Own->Prop
 |a (hv:0<=v/\v<l.a.f.size):An l v q .a [.obj q (.row (l.Nj (.fn (.func 739) [.ptr q 0] []) 0 v Np))]
 |b {k:Int}{qp:Nat}{σ lp}(hk:0<=k/\k<3)(h:kK (l.wait k) v qp σ lp)(ho:σ.over=false):An l v q (.b k σ) ([.obj q (.row (l.Nj (.fn (.func 741) [.ptr q 0] []) 0 v (.ptr qp 0)))]++lp)
 |d {er:Int}{qp:Nat}:An l v q (.d er) [.obj q (.row (l.Nj Nf er v (.ptr qp 0)))]
def Lb.j8 (l:Lb)(nx:AV)(er:Int)(on all:AV)(i:Int)(one:AV)(j n:Int):List AV:=nx::B true::I er::(l.cs++[on,all,I i,one,I j,I n])
inductive yD (l:Lb)(c p:Int)(q:Nat):eX->List Own->Prop
 |v {i:Int}{qa qb:Nat}{σ la lb}(hp:0<=p/\p<4294967296)(h:yC l.e c p qa σ la)(ho:σ.over=false)(h2:yB (l.wait ((p+2)%3)) qb .a lb):yD l c p q (.v σ) ([.obj q (.row (l.j8 (.fn (.func 639) [.ptr q 0] []) 0 (.ptr qa 0) (.ptr qb 0) i Np 0 0))]++(lb++la))
 |t {i:Int}{qa qb:Nat}{σ lb}(hp:0<=p/\p<4294967296)(h:yB (l.wait ((p+2)%3)) qb σ lb)(ho:σ.over=false):yD l c p q (.t σ) ([.obj q (.row (l.j8 (.fn (.func 650) [.ptr q 0] []) 0 (.ptr qa 0) (.ptr qb 0) i Np 0 0))]++lb)
 |l {i j n:Int}{qa qb:Nat}{one}(hi:0<=i/\i<l.a.f.size)(hn:0<=n/\n<l.a.f.size):yD l c p q (.l i n) [.obj q (.row (l.j8 (.fn (.func 657) [.ptr q 0] []) 0 (.ptr qa 0) (.ptr qb 0) i one j n))]
 |f {i j n:Int}{qa qb qf:Nat}{σ lf}(hi:0<=i/\i<l.a.f.size)(hn:0<=n/\n<l.a.f.size)(hj:-1<=j/\j<=65534)(h:qU l.a i qf σ lf)(ho:σ.over=false):yD l c p q (.f i j n σ) ([.obj q (.row (l.j8 (.fn (.func 660) [.ptr q 0] []) 0 (.ptr qa 0) (.ptr qb 0) i (.ptr qf 0) j n))]++lf)
 |d {i j n er:Int}{qa qb:Nat}{one}:yD l c p q (.d n er) [.obj q (.row (l.j8 Nf er (.ptr qa 0) (.ptr qb 0) i one j n))]
section
variable{B0 S:AH}{W:List Nat}{own R lo:List Own}{ro:List aB}{m bl q:Nat}{x:Me}{rest:List AV}{l:Lb}{c p v:Int}
theorem Di {σ:iy}(hs:l.ok)(hx:x.gd)(h:An l v q σ lo)(H:Cx B0 W S (lo++(ad m bl x rest++R)) ro):
  aG EM (zF 735) [.ptr q 0,.ptr m 0] S λr S'=>∃ab,eW (An l v q) iy.over (σ.step l v x) (ad m bl · rest) R r ab/\Cx B0 W S' ab ro:=by
 have bt:=hs;unfold Lb.ok Ar.ok Sk.ok Ep.ok at bt;have hb:=Me.aj hx l.e.cb;cases h with
 |a hv=>
  refine y1 H bK ?_;intros;exact aa rfl (.b ⟨am,am⟩ (.a hv) rfl) rfl HQ
 |@b k qp σ lp hk h ho=>
  refine y1 H bK ?_;refine Vx.fV (A:=[_]) (λB W S H=>vg (l.kL hs hk.1 hk.2) hx h H) λa' x' l' e hl=>?_;have e2:(iy.b k σ).step l v x=(if a'.over then .d 0 else .b k a',x'):=by show(_,_)=_;rw[e]
  cases ho:a'.over
  .refine z1 ?_;have e3:(iy.b k σ).step l v x=(.b k a',x'):=e2.trans (Prod.ext (if_neg (by rw[ho];simp)) rfl);exact aa e3 (.b hk hl ho) rfl .rfl'
  .refine z1 ?_;exact aa (e2.trans (Prod.ext (if_pos ho) rfl)) .d rfl (.cons (.perm (.of (g:=l') (List.perm_append_comm)) (.refl _)))
 |d=>refine y1 H bK ?_;exact aa rfl .d rfl .rfl'
theorem Dj {σ:eX}(hs:l.ok)(hx:x.gd)(h:yD l c p q σ lo)(H:Cx B0 W S (lo++(ad m bl x rest++R)) ro):
  aG EM (zF 785) [.ptr q 0,.ptr m 0] S λr S'=>∃ab,eW (yD l c p q) eX.over (σ.step l c p x) (ad m bl · rest) R r ab/\Cx B0 W S' ab ro:=by
 have bt:=hs;unfold Lb.ok Ar.ok Sk.ok Ep.ok at bt;cases h with
 |@v i qa qb σ la lb hp h ho h2=>
  refine y1 H bK ?_;refine Vx.fV (A:=_::lb) (λB W S H=>JY hs.2.1 hx h H) λa' x' l' e hl=>?_;have e2:(eX.v σ).step l c p x=(eX.Hf a',x'):=by show(eX.Hf _,_)=_;rw[e]
  cases ho:a'.over
  .refine z1 ?_;have e3:(eX.v σ).step l c p x=(.v a',x'):=e2.trans (Prod.ext (by cases hl<;>first|rfl|cases ho) rfl);exact aa e3 (.v hp hl ho h2) rfl HQ
  .cases hl with
   |a=>cases ho
   |b=>cases ho
   |c=>cases ho
   |@d er w k=>
    refine z2 ?_ ?_<;>intros
    .next h=>exact aa (e2.trans (Prod.ext (if_neg h) rfl)) .d rfl HQ
    .next h=>
     obtain rfl:er=0:=am;exact aa e2 (.t hp h2 rfl) rfl HQ
 |@t i qa qb σ lb hp h ho=>
  refine y1 H bK ?_;refine Vx.fV (A:=[_]) (λB W S H=>JX (l.kL hs am am) hx h H) λa' x' l' e hl=>?_;have e2:(eX.t σ).step l c p x=(eX.Hg a',x'):=by show(eX.Hg _,_)=_;rw[e]
  cases ho:a'.over
  .refine z1 ?_;have e3:(eX.t σ).step l c p x=(.t a',x'):=e2.trans (Prod.ext (by cases hl<;>first|rfl|cases ho) rfl);exact aa e3 (.t hp hl ho) rfl HQ
  .cases hl with
   |a=>cases ho
   |b=>cases ho
   |d hi=>
    refine z1 ?_;obtain⟨h3,h4⟩:=hi;exact aa (e2.trans (Prod.ext (if_neg am) rfl)) (.l ⟨h3,h4⟩ ⟨am,am⟩) rfl HQ
   |n hi=>
    subst hi;refine z1 ?_;exact aa e2 .d rfl HQ
 |@l i j n qa qb one hi hn=>
  have hb:=Me.aj hx (l.a.f.gp+i);refine y1 H bK ?_;intros;exact aa rfl (.f hi hn am (.l hi (.a hi)) rfl) rfl HQ
 |@f i j n qa qb qf σ lf hi hn hj h ho=>
  refine y1 H bK ?_;refine Vx.fV (A:=[_]) (λB W S H=>Hp hs.1 hx h H) λa' x' l' e hl=>?_;have e2:(eX.f i j n σ).step l c p x=(if a'.over then(if j<0\/l.a.f.size<=j\/l.a.f.size<=n+1 then .d (n+1) 0 else .l j (n+1)) else .f i j n a',x'):=by show(_,_)=_;rw[e]
  cases ho:a'.over
  .refine z1 ?_;have e3:(eX.f i j n σ).step l c p x=(.f i j n a',x'):=e2.trans (Prod.ext (if_neg (by rw[ho];simp)) rfl);exact aa e3 (.f hi hn hj hl ho) rfl HQ
  .refine z4 ?_ ?_ ?_ ?_<;>intros
   .exact aa (e2.trans (Prod.ext ((if_pos ho).trans (if_pos am)) rfl)) .d rfl HQ
   .exact aa (e2.trans (Prod.ext ((if_pos ho).trans (if_pos am)) rfl)) .d rfl HQ
   .exact aa (e2.trans (Prod.ext ((if_pos ho).trans (if_pos am)) rfl)) .d rfl HQ
   .exact aa (e2.trans (Prod.ext ((if_pos ho).trans (if_neg am)) rfl)) (.l ⟨am,am⟩ ⟨am,am⟩) rfl HQ
 |d=>refine y1 H bK ?_;exact aa rfl .d rfl .rfl'
end
def Rn.ok (r:Rn):Prop:=(0<=r.head/\r.head<100000)/\(0<=r.tail/\r.tail<100000)/\(0<=r.eY/\r.eY<100000)/\1<=r.size/\r.size<=4096
def Rn.cs (r:Rn):List AV:=[I r.head,I r.tail,I r.eY,I r.size]
instance XK {a b c d t:Int}:VC EM (zF 353) [.agg [I a,I b,I c,I d],U t] (Me.ar t/\(0<=c/\c<100000)/\1<=d/\d<=4096) (I (c+t%d)):=.of rfl rfl λ⟨h1,h2,h3,h4⟩=>by
 show Zx EM false (Tryz.a353 _) _ _ _ _;have h5:=Int.emod_lt_of_pos t (show 0<d by omega);have h6:=Int.emod_nonneg t (show d≠0 by omega);have e1:d%18446744073709551616=d:=am;refine z3 ?_ ?_ ?_<;>intros
 all_goals(try rw[e1] at*)
 all_goals first|omega|exact⟨rfl,rfl⟩
instance abk {a b c d t:Int}:VC EM (zF 468) [.agg [I a,I b,I c,I d],U t] (Me.ar t/\1<=d/\d<=4096) (Z .u32 (t/d%4294967296)):=.of rfl rfl λ⟨h1,h2,h3⟩=>by show Zx EM false (Tryz.a468 _) _ _ _ _;have e1:d%18446744073709551616=d:=am;refine z1 ?_;intros;rw[e1];exact⟨rfl,rfl⟩
theorem Hr {w:Int}(h:0<=w):(yq w 65536≠0)↔w/65536%2=1:=by
 obtain⟨n,rfl⟩:∃n:Nat,w=n:=⟨w.toNat,am⟩;have hb:n.testBit 16=decide (n/65536%2=1):=Nat.testBit_eq_decide_div_mod_eq;have e:yq (n:Int) 65536=((n&&&65536:Nat):Int):=rfl;have h2:n&&&65536=if n.testBit 16 then 65536 else 0:=by
  apply Nat.eq_of_testBit_eq;intro i;have h6:(65536:Nat).testBit i=decide (16=i):=Nat.testBit_two_pow (n:=16);rw[Nat.testBit_and,h6];by_cases ht:n.testBit 16=true
  .rw[if_pos ht,h6];by_cases hi:16=i;.subst hi;rw[ht];rfl
   .simp[hi]
  .rw[if_neg ht,Nat.zero_testBit];by_cases hi:16=i;.subst hi;simpa using ht
   .simp[hi]
 rw[e,h2,hb];by_cases h3:n/65536%2=1;.simp only[h3,decide_true,if_true];omega
 .simp only[h3,decide_false];simp;omega
theorem R4 {w l:Int}(hw:Me.ar w):w/2^32%4294967296=l↔w/4294967296=l:=by simp only[Int.reducePow];rw[Int.emod_eq_of_lt am am]
instance aai {w l:Int}:VC EM (zF 467) [U w,Z .u32 l] (Me.ar w) (B (decide (jd w l))):=.of rfl rfl λh=>by
 show Zx EM false (Tryz.a467 _) _ _ _ _;have hu:=Hr h.1;have hh:=R4 (l:=l) h;refine z3 ?_ ?_ ?_<;>intros
 .next h1 h2=>exact⟨rfl,by rw[decide_eq_true (show jd w l from⟨hh.1 h1,hu.1 h2⟩)];rfl⟩
 .next h1 h2=>exact⟨rfl,by rw[decide_eq_false (λ(q:jd w l)=>h2 (hu.2 q.2))];rfl⟩
 .next h1=>exact⟨rfl,by rw[decide_eq_false (λ(q:jd w l)=>h1 (hh.2 q.1))];rfl⟩
instance XL {w l:Int}:VC EM (zF 592) [U w,Z .u32 l] (Me.ar w) (B (decide (jz w l))):=.of rfl rfl λh=>by
 show Zx EM false (Tryz.a592 _) _ _ _ _;have hu:=Hr h.1;have hh:=R4 (l:=l) h;refine z3 ?_ ?_ ?_<;>intros
 .next h1 h2=>exact⟨rfl,by rw[decide_eq_true (show jz w l from⟨hh.1 h1,by have:=mt hu.2 (λh3=>h3 h2);omega⟩)];rfl⟩
 .next h1 h2=>exact⟨rfl,by rw[decide_eq_false (λ(q:jz w l)=>by have:=hu.1 h2;have:=q.2;omega)];rfl⟩
 .next h1=>exact⟨rfl,by rw[decide_eq_false (λ(q:jz w l)=>h1 (hh.2 q.1))];rfl⟩
instance XM {w:Int}:VC EM (zF 354) [U w] (Me.ar w) (I (w%65536)):=.of rfl rfl λh=>by show Zx EM false (Tryz.a354 _) _ _ _ _;exact zZ
instance rOf {l:Int}:VC EM (zF 504) [Z .u32 l] (0<=l/\l<4294967296) (U (l*4294967296)):=.of rfl rfl λh=>by show Zx EM false (Tryz.a504 _) _ _ _ _;refine z1 ?_;refine⟨rfl,?_⟩;show U _=U _;congr 2;simp only[Int.reducePow];omega
theorem or3 {l v:Int}(h:0<=l/\l<4294967296)(hv:0<=v/\v<65536):nb (nb (l*4294967296) 65536) v=l*4294967296+65536+v:=by
 have e1:nb (l*4294967296) 65536=(l*65536+1)*2^16:=by have:=rS (a:=l) (b:=65536) (i:=32) h.1 am am;simp only[Int.reducePow] at this;rw[this];omega
 rw[e1,rS am hv.1 am];omega
instance aaj {l v:Int}:VC EM (zF 616) [U (l*4294967296),I v] ((0<=l/\l<4294967296)/\0<=v/\v<65536) (U (l*4294967296+65536+v)):=.of rfl rfl λ⟨h,hv⟩=>by
 show Zx EM false (Tryz.a616 _) _ _ _ _;have e1:l*4294967296-l*4294967296%65536=l*4294967296:=am;have e2:v%18446744073709551616=v:=am;have e3:nb (l*4294967296) 65536=l*4294967296+65536:=by have:=rS (a:=l) (b:=65536) (i:=32) h.1 am am;simpa only[Int.reducePow] using this
 refine z2 ?_ ?_;.rw[e1,e3,e2];omega
 .rw[e1,e2,or3 h hv];exact⟨rfl,rfl⟩
instance z25 {n:Nat}[Mn n [249,409,488,695,495,387,489,553,593,617,594,694,393,494,558,395,396,289,410,505]]:cH n where
def Rn.row (r:Rn)(nx:AV)(er:Int):List AV:=r.cs++[nx,B true,I er]
theorem Rn.mF (r:Rn)(t:Int):0<=r.tf t/\r.tf t<4294967296:=by unfold Rn.tf;omega
inductive lu (r:Rn)(v:Int)(q:Nat):b7->List Own->Prop
 |a {t w:Int}(hv:0<=v/\v<65536):lu r v q .a [.obj q (.row (r.row (.fn (.func 489) [.ptr q 0] []) 0++[I v,U t,U w]))]
 |b {t w:Int}(hv:0<=v/\v<65536)(ht:Me.ar t):lu r v q (.b t) [.obj q (.row (r.row (.fn (.func 553) [.ptr q 0] []) 0++[I v,U t,U w]))]
 |c {t w:Int}(hv:0<=v/\v<65536)(ht:Me.ar t)(hw:Me.ar w):lu r v q (.c t w) [.obj q (.row (r.row (.fn (.func 593) [.ptr q 0] []) 0++[I v,U t,U w]))]
 |l {t w:Int}(hv:0<=v/\v<65536)(ht:Me.ar t):lu r v q (.l t) [.obj q (.row (r.row (.fn (.func 617) [.ptr q 0] []) 0++[I v,U t,U w]))]
 |h {t w:Int}(hv:0<=v/\v<65536)(ht:Me.ar t):lu r v q (.h t) [.obj q (.row (r.row (.fn (.func 594) [.ptr q 0] []) 0++[I v,U t,U w]))]
 |d {t w e:Int}:lu r v q (.d e) [.obj q (.row (r.row Nf e++[I v,U t,U w]))]
inductive j_ (r:Rn)(q:Nat):eM->List Own->Prop
 |a {h:Int}:j_ r q .a [.obj q (.row (r.row (.fn (.func 494) [.ptr q 0] []) 0++[U h,I 0]))]
 |b {h:Int}(hh:Me.ar h):j_ r q (.b h) [.obj q (.row (r.row (.fn (.func 558) [.ptr q 0] []) 0++[U h,I 0]))]
 |d {h v e:Int}(hh:Me.ar h)(hv:0<=v/\v<65536):j_ r q (.d h v e) [.obj q (.row (r.row Nf e++[U h,I v]))]
inductive qV (r:Rn)(h:Int)(q:Nat):jZ->List Own->Prop
 |a (hh:Me.ar h):qV r h q .a [.obj q (.row (r.row (.fn (.func 410) [.ptr q 0] []) 0++[U h]))]
 |b (hh:Me.ar h):qV r h q .b [.obj q (.row (r.row (.fn (.func 505) [.ptr q 0] []) 0++[U h]))]
 |d:qV r h q .d [.obj q (.row (r.row Nf 0++[U h]))]
section
variable{B0 S:AH}{W:List Nat}{own R lo:List Own}{ro:List aB}{m bl q:Nat}{x:Me}{rest:List AV}{r:Rn}{v g:Int}
theorem Er {σ}(hs:r.ok)(hx:x.gd)(h:lu r v q σ lo)(H:Cx B0 W S (lo++(ad m bl x rest++R)) ro):
  aG EM (zF 693) [.ptr q 0,.ptr m 0] S λu S'=>∃ab,eW (lu r v q) b7.over (σ.step r v x) (ad m bl · rest) R u ab/\Cx B0 W S' ab ro:=by
 have bt:=hs;unfold Rn.ok at bt;cases h with
 |a hv=>
  refine y1 H bK ?_;exact aa rfl (.b hv (Me.aj hx _)) rfl HQ
 |@b t w hv ht=>
  have hb:=r.mF t;have el:(t/r.size%4294967296-1)%4294967296=(r.tf t+4294967296-1)%4294967296:=by unfold Rn.tf;omega
  refine y3 H bK ?_ ?_ ?_<;>intros
  .next e=>exact aa (Prod.ext (if_pos e) rfl) (.c hv ht (Me.aj hx _)) rfl HQ
  .next e e2=>exact aa (Prod.ext ((if_neg e).trans (if_pos (by rw[<-el];exact e2))) rfl) .d rfl HQ
  .next e e2=>exact aa (Prod.ext ((if_neg e).trans (if_neg (by rw[<-el];exact e2))) rfl) (.h hv ht) rfl HQ
 |@c t w hv ht hw=>
  have hb:=r.mF t;refine y2 H bK ?_ ?_<;>intros
  .next e=>exact aa (Prod.ext (if_pos e) rfl) (.l hv ht) rfl HQ
  .next e=>exact aa (Prod.ext (if_neg e) rfl) (.h hv ht) rfl HQ
 |l hv ht=>
  refine y1 H bK ?_;exact aa rfl .d rfl HQ
 |h hv ht=>
  refine y1 H bK ?_;exact aa rfl (.a hv) rfl HQ
 |d=>refine y1 H bK ?_;exact aa rfl .d rfl HQ
theorem xd {σ}(hs:r.ok)(hx:x.gd)(h:j_ r q σ lo)(H:Cx B0 W S (lo++(ad m bl x rest++R)) ro):
  aG EM (zF 703) [.ptr q 0,.ptr m 0] S λu S'=>∃ab,eW (j_ r q) eM.over (σ.step r x) (ad m bl · rest) R u ab/\Cx B0 W S' ab ro:=by
 have bt:=hs;unfold Rn.ok at bt;cases h with
 |a=>
  refine y1 H bK ?_;exact aa rfl (.b (Me.aj hx _)) rfl HQ
 |@b h hh=>
  refine y2 H bK ?_ ?_<;>intros
  .next e=>exact aa (Prod.ext (if_pos e) rfl) (.d hh am) rfl HQ
  .next e=>exact aa (Prod.ext (if_neg e) rfl) (.d hh am) rfl HQ
 |d hh hv=>refine y1 H bK ?_;exact aa rfl (.d hh hv) rfl HQ
theorem Ao {σ}(hs:r.ok)(hx:x.gd)(h:qV r g q σ lo)(H:Cx B0 W S (lo++(ad m bl x rest++R)) ro):
  aG EM (zF 697) [.ptr q 0,.ptr m 0] S λu S'=>∃ab,eW (qV r g q) jZ.over (σ.step r g x) (ad m bl · rest) R u ab/\Cx B0 W S' ab ro:=by
 have bt:=hs;unfold Rn.ok at bt;cases h with
 |a hh=>
  have hb:=r.mF g;refine y1 H bK ?_;exact aa rfl (.b hh) rfl HQ
 |b hh=>
  refine y1 H bK ?_;exact aa rfl .d rfl HQ
 |d=>refine y1 H bK ?_;exact aa rfl .d rfl HQ
end
instance aak {w n a:Int}:VC EM (zF 475) [U w,U n,U a] (Me.ar w/\(0<=n/\n<=1099511627776)/\0<=a/\a<=1099511627776) (B (decide (yu w n a))):=.of rfl rfl λ⟨h1,h2,h3⟩=>by
 show Zx EM false (Tryz.a475 _) _ _ _ _;refine z4 ?_ ?_ ?_ ?_<;>intros
 .exact⟨rfl,by rw[decide_eq_false (λ(q:yu w n a)=>q.1 ci)];rfl⟩
 .exact⟨rfl,by rw[decide_eq_true (show yu w n a from⟨am,am⟩)];rfl⟩
 .exact⟨rfl,by rw[decide_eq_true (show yu w n a from⟨am,am⟩)];rfl⟩
 .exact⟨rfl,by rw[decide_eq_false (λ(q:yu w n a)=>by have:=q.2;omega)];rfl⟩
instance aal {w:Int}:VC EM (zF 557) [U w] (Me.ar w) (.agg [I (w%256),I (w/256%256),I (w/4294967296)]):=.of rfl rfl λh=>by show Zx EM false (Tryz.a557 _) _ _ _ _;exact zZ
theorem jor {s c g:Int}(hs:0<=s/\s<256)(hc:0<=c/\c<256)(hg:0<=g/\g<4294967296):nb (nb s (c*256)) (g*4294967296)=jw s c g:=by have e1:=lh (a:=c) (b:=s) (i:=8) hc.1 hs.1 (by simpa using hs.2);have e2:=lh (a:=g) (b:=c*256+s) (i:=32) hg.1 am (by simp only[Int.reducePow];omega);simp only[Int.reducePow] at e1 e2;rw[e1,e2];unfold jw;omega
instance abl {s c g:Int}:VC EM (zF 160) [.agg [I s,I c,I g]] ((0<=s/\s<256)/\(0<=c/\c<256)/\0<=g/\g<4294967296) (U (jw s c g)):=.of rfl rfl λ⟨h1,h2,h3⟩=>by
 show Zx EM false (Tryz.a160 _) _ _ _ _;have e1:s%18446744073709551616=s:=am;have e2:c%18446744073709551616*2^8%18446744073709551616=c*256:=by simp only[Int.reducePow];omega
 have e3:g%18446744073709551616*2^32%18446744073709551616=g*4294967296:=by simp only[Int.reducePow];omega
 have e4:=lh (a:=c) (b:=s) (i:=8) h2.1 h1.1 (by simpa using h1.2);simp only[Int.reducePow] at e4;refine z2 ?_ ?_<;>intros
 all_goals(try rw[e1,e2] at*)
 all_goals(try rw[e3] at*)
 all_goals first|omega|skip
 rw[jor h1 h2 h3];exact⟨rfl,rfl⟩
instance z26:cH 554 where
instance z27:cH 555 where
theorem Ap {a b:ByteArray}(h:(a.toList==b.toList)=true)(hn:a.data.toList≠b.data.toList):False:=by have h2:=eq_of_beq h;rw[ByteArray.toList_eq,ByteArray.toList_eq] at h2;exact hn h2
instance XN:VC EM (zF 491) [I 2,I 3] True (B true):=.of rfl rfl λ_=>by
 show Zx EM false (Tryz.a491 _) _ _ _ _
 (refine z2 ?_ ?_<;>intros;all_goals(exact absurd ci (λh=>Ap h dl)))
instance XO:VC EM (zF 491) [I 3,I 2] True (B true):=.of rfl rfl λ_=>by
 show Zx EM false (Tryz.a491 _) _ _ _ _
 (refine z2 ?_ ?_<;>intros;all_goals(exact absurd ci (λh=>Ap h dl)))
instance XP:VC EM (zF 491) [I 3,I 4] True (B true):=.of rfl rfl λ_=>by
 show Zx EM false (Tryz.a491 _) _ _ _ _
 (refine z2 ?_ ?_<;>intros;all_goals(exact absurd ci (λh=>Ap h dl)))
instance XQ:VC EM (zF 491) [I 4,I 3] True (B true):=.of rfl rfl λ_=>by
 show Zx EM false (Tryz.a491 _) _ _ _ _
 (refine z2 ?_ ?_<;>intros;all_goals(exact absurd ci (λh=>Ap h dl)))
instance XR:VC EM (zF 491) [I 4,I 5] True (B true):=.of rfl rfl λ_=>by
 show Zx EM false (Tryz.a491 _) _ _ _ _
 (refine z2 ?_ ?_<;>intros;all_goals(exact absurd ci (λh=>Ap h dl)))
instance z28 {n:Nat}[Mn n [256,369,474,258,482,689,690,691,480,373,549,589,262,372,479,550,264,376,484,552,591,390,492,556,384,487,399,497,401]]:cH n where
inductive nT (a e n:Int)(q:Nat):eE->List Own->Prop
 |a {w:Int}:nT a e n q .a [.obj q (.row [B true,I a,U e,U n,U w,.fn (.func 369) [.ptr q 0] [],I 0])]
 |b {w:Int}(hw:Me.ar w):nT a e n q (.b w) [.obj q (.row [B true,I a,U e,U n,U w,.fn (.func 474) [.ptr q 0] [],I 0])]
 |d {w er:Int}:nT a e n q (.d er) [.obj q (.row [B true,I a,U e,U n,U w,Nf,I er])]
def Jb.ok (j:Jb):Prop:=j.f.ok/\(0<=j.bE/\j.bE<100000)/\(0<=j.keys/\j.keys<100000)
def Jb.row (j:Jb)(i w:Int)(nx th:AV)(er:Int):List AV:=[I j.bE,I j.keys,I j.f.top,I j.f.gp,I j.f.size,I i,U w,nx,th,B true,I er]
inductive kM (j:Jb)(q:Nat):cw->List Own->Prop
 |p {i w:Int}{th}{qp:Nat}{σ l}(h:wC j.f qp σ l)(ho:σ.over=false):kM j q (.p σ) (.obj q (.row (j.row i w (.fn (.func 372) [.ptr q 0] []) th 0++[.ptr qp 0]))::l)
 |l {i w:Int}{th}{qp:Nat}(hi:0<=i/\i<j.f.size):kM j q (.l i) [.obj q (.row (j.row i w (.fn (.func 479) [.ptr q 0] []) th 0++[.ptr qp 0]))]
 |s {i w:Int}{th}{qp:Nat}(hi:0<=i/\i<j.f.size)(hw:Me.ar w):kM j q (.s i w) [.obj q (.row (j.row i w (.fn (.func 550) [.ptr q 0] []) th 0++[.ptr qp 0]))]
 |d {i w:Int}{th}{qp:Nat}(hi:0<=i/\i<j.f.size):kM j q (.d i 0) [.obj q (.row (j.row i w Nf th 0++[.ptr qp 0]))]
 |n {i w:Int}{th}{qp:Nat}:kM j q (.d 0 7) [.obj q (.row (j.row i w Nf th 7++[.ptr qp 0]))]
inductive o6 (j:Jb)(i:Int)(q:Nat):cX->List Own->Prop
 |l {w:Int}{th}{qp:Nat}{l}(hi:0<=i/\i<j.f.size)(h:kK j.f i qp .a l):o6 j i q .l (.obj q (.row (j.row i w (.fn (.func 484) [.ptr q 0] []) th 0++[.ptr qp 0]))::l)
 |s {w:Int}{th}{qp:Nat}{l}(hi:0<=i/\i<j.f.size)(hw:Me.ar w)(h:kK j.f i qp .a l):o6 j i q (.s w) (.obj q (.row (j.row i w (.fn (.func 552) [.ptr q 0] []) th 0++[.ptr qp 0]))::l)
 |p {w:Int}{th}{qp:Nat}{σ l}(hi:0<=i/\i<j.f.size)(h:kK j.f i qp σ l)(ho:σ.over=false):o6 j i q (.p σ) (.obj q (.row (j.row i w (.fn (.func 591) [.ptr q 0] []) th 0++[.ptr qp 0]))::l)
 |d {w er:Int}{th qp}:o6 j i q (.d er) [.obj q (.row (j.row i w Nf th er++[qp]))]
inductive qW (j:Jb)(i fr to c:Int)(q:Nat):aZ->List Own->Prop
 |l {w:Int}{th}(hi:0<=i/\i<j.f.size):qW j i fr to c q .l [.obj q (.row (j.row i w (.fn (.func 492) [.ptr q 0] []) th 0++[I fr,I to,I c]))]
 |s {w:Int}{th}(hi:0<=i/\i<j.f.size)(hw:Me.ar w):qW j i fr to c q (.s w) [.obj q (.row (j.row i w (.fn (.func 556) [.ptr q 0] []) th 0++[I fr,I to,I c]))]
 |d {w er:Int}{th}:qW j i fr to c q (.d er) [.obj q (.row (j.row i w Nf th er++[I fr,I to,I c]))]
inductive wE (j:Jb)(i k:Int)(q:Nat):bF->List Own->Prop
 |a {w:Int}{th}(hi:0<=i/\i<j.f.size):wE j i k q .a [.obj q (.row (j.row i w (.fn (.func 487) [.ptr q 0] []) th 0++[U k]))]
 |d {w v er:Int}{th}:wE j i k q (.d v er) [.obj q (.row (j.row i w Nf th er++[U k]))]
inductive je (j:Jb)(i:Int)(q:Nat):bF->List Own->Prop
 |a {w:Int}{th}(hi:0<=i/\i<j.f.size):je j i q .a [.obj q (.row (j.row i w (.fn (.func 497) [.ptr q 0] []) th 0))]
 |d {w:Int}{th}(hw:Me.ar w):je j i q (.d w 0) [.obj q (.row (j.row i w Nf th 0))]
section
variable{B0 S:AH}{W:List Nat}{own R lo:List Own}{ro:List aB}{m bl q:Nat}{x:Me}{rest:List AV}{j:Jb}{a e n i k fr to c:Int}
theorem Aq {σ}(hs:(0<=e/\e<=1099511627776)/\0<=n/\n<=1099511627776)(hx:x.gd)(h:nT a e n q σ lo)(H:Cx B0 W S (lo++(ad m bl x rest++R)) ro):
  aG EM (zF 687) [.ptr q 0,.ptr m 0] S λu S'=>∃ab,eW (nT a e n q) eE.over (σ.step a e n x) (ad m bl · rest) R u ab/\Cx B0 W S' ab ro:=by
 cases h with
 |a=>
  refine y2 H bK ?_ ?_<;>intros
  .next h=>exact aa (Prod.ext (if_pos h) rfl) .d rfl HQ
  .next h=>exact aa (Prod.ext (if_neg h) rfl) (.b (Me.aj hx _)) rfl HQ
 |@b w hw=>
  have e1:(n+1)%18446744073709551616=n+1:=am;refine y2 H bK ?_ ?_<;>intros
  all_goals rw[e1]
  .next h=>exact aa (Prod.ext (if_neg (show¬x.eq a w by simpa using h)) rfl) .a rfl HQ
  .next h=>exact aa (Prod.ext (if_pos (show x.eq a w by simpa using h)) rfl) .d rfl HQ
 |d=>refine y1 H bK ?_;exact aa rfl .d rfl HQ
theorem oz {σ}(hs:j.ok)(hx:x.gd)(h:wE j i k q σ lo)(H:Cx B0 W S (lo++(ad m bl x rest++R)) ro):
  aG EM (zF 701) [.ptr q 0,.ptr m 0] S λu S'=>∃ab,eW (wE j i k q) bF.over (σ.step j i k x) (ad m bl · rest) R u ab/\Cx B0 W S' ab ro:=by
 have bt:=hs;unfold Jb.ok Sk.ok at bt;cases h with
 |a hi=>
  refine y1 H bK ?_;intros;exact aa rfl .d rfl HQ
 |d=>refine y1 H bK ?_;intros;exact aa rfl .d rfl HQ
theorem jJ {σ}(hs:j.ok)(hx:x.gd)(h:je j i q σ lo)(H:Cx B0 W S (lo++(ad m bl x rest++R)) ro):
  aG EM (zF 704) [.ptr q 0,.ptr m 0] S λu S'=>∃ab,eW (je j i q) bF.over (σ.stepOf j i x) (ad m bl · rest) R u ab/\Cx B0 W S' ab ro:=by
 have bt:=hs;unfold Jb.ok Sk.ok at bt;cases h with
 |a hi=>
  refine y1 H bK ?_;intros;exact aa rfl (.d (Me.aj hx _)) rfl HQ
 |d hw=>refine y1 H bK ?_;intros;exact aa rfl (.d hw) rfl HQ
theorem As {σ}(hs:j.ok)(hf:0<=fr/\fr<6)(ht:0<=to/\to<6)(hc:0<=c/\c<64)(hx:x.gd)(h:qW j i fr to c q σ lo)(H:Cx B0 W S (lo++(ad m bl x rest++R)) ro):
  aG EM (zF 702) [.ptr q 0,.ptr m 0] S λu S'=>∃ab,eW (qW j i fr to c q) aZ.over (σ.step j i fr to c x) (ad m bl · rest) R u ab/\Cx B0 W S' ab ro:=by
 have bt:=hs;unfold Jb.ok Sk.ok at bt;cases h with
 |l hi=>
  have hb:=Me.aj hx (j.bE+i);refine y4 H bK ?_ ?_ ?_ ?_<;>intros
  .next h=>exact aa (Prod.ext (if_neg (λq=>h q.1)) rfl) .d rfl HQ
  .next h3 h4 h=>have h4':fr=4:=am;exact aa (Prod.ext (if_neg (λq=>q.2.elim (λz=>z h4') h)) rfl) .d rfl HQ
  .next h3 h4 h=>exact aa (Prod.ext (if_pos ⟨Decidable.not_not.1 h3,.inr (Decidable.not_not.1 h)⟩) rfl) (.s hi hb) rfl HQ
  .next h3 h=>exact aa (Prod.ext (if_pos ⟨Decidable.not_not.1 h3,.inl am⟩) rfl) (.s hi hb) rfl HQ
 |@s w th hi hw=>
  have e1:(w/4294967296+0)%4294967296=w/4294967296:=am;have e2:(aZ.s w).step j i fr to c x=(if x.eq (j.bE+i) w then .d 0 else .l,x.eL (j.bE+i) w (jw to (if to=4 then c else 0) (w/4294967296))):=rfl;refine y4 H bK ?_ ?_ ?_ ?_<;>intros
  all_goals rw[e1]
  all_goals rw[e2]
  .next h4 h=>rw[if_pos h4,if_pos h];exact aa rfl .d rfl HQ
  .next h4 h=>rw[if_pos h4,if_neg h];exact aa rfl (.l hi) rfl HQ
  .next h4 h=>rw[if_neg h4,if_pos h];exact aa rfl .d rfl HQ
  .next h4 h=>
   rw[if_neg h4,if_neg h];exact aa rfl (.l hi) rfl HQ
 |d=>refine y1 H bK ?_;intros;exact aa rfl .d rfl HQ
theorem At {σ}(hs:j.ok)(hx:x.gd)(h:o6 j i q σ lo)(H:Cx B0 W S (lo++(ad m bl x rest++R)) ro):
  aG EM (zF 700) [.ptr q 0,.ptr m 0] S λu S'=>∃ab,eW (o6 j i q) cX.over (σ.step j i x) (ad m bl · rest) R u ab/\Cx B0 W S' ab ro:=by
 have bt:=hs;unfold Jb.ok Sk.ok at bt;cases h with
 |@l w th qp l hi h=>
  have hb:=Me.aj hx (j.bE+i);refine y3 H bK ?_ ?_ ?_<;>intros
  .next h5 h2=>exact aa (Prod.ext (if_neg (λq=>q.elim h5 h2)) rfl) .d rfl HQ
  .next h5 h2=>exact aa (Prod.ext (if_pos (.inr (Decidable.not_not.1 h2))) rfl) (.s hi hb h) rfl HQ
  .next h5=>exact aa (Prod.ext (if_pos (.inl (Decidable.not_not.1 h5))) rfl) (.s hi hb h) rfl HQ
 |@s w th qp l hi hw h=>
  have e1:(w/4294967296+0)%4294967296=w/4294967296:=am;have e2:(cX.s w).step j i x=(if x.eq (j.bE+i) w then .p .a else .l,x.eL (j.bE+i) w (jw 1 0 (w/4294967296))):=rfl;refine y2 H bK ?_ ?_<;>intros
  all_goals rw[e1,e2]
  .next h3=>rw[if_pos h3];exact aa rfl (.p hi h rfl) rfl HQ
  .next h3=>
   rw[if_neg h3];exact aa rfl (.l hi h) rfl HQ
 |@p w th qp σ l hi h ho=>
  refine y1 H bK ?_;intros;refine Vx.fV (A:=[_,_,_]) (λB W S H=>vg hs.1 hx h H) λa' x' l' e hl=>?_;have e2:(cX.p σ).step j i x=(if a'.over then .d 0 else .p a',x'):=by show(_,_)=_;rw[e]
  cases ho:a'.over
  .refine z1 ?_;have e3:(cX.p σ).step j i x=(.p a',x'):=e2.trans (Prod.ext (if_neg (by rw[ho];simp)) rfl);exact aa e3 (.p hi hl ho) rfl HQ
  .cases hl with
   |a=>cases ho
   |b=>cases ho
   |c=>cases ho
   |d=>
    refine z1 ?_;exact aa e2 .d rfl HQ
 |d=>refine y1 H bK ?_;intros;exact aa rfl .d rfl HQ
theorem Au {σ}(hs:j.ok)(hx:x.gd)(h:kM j q σ lo)(H:Cx B0 W S (lo++(ad m bl x rest++R)) ro):
  aG EM (zF 688) [.ptr q 0,.ptr m 0] S λu S'=>∃ab,eW (kM j q) cw.over (σ.step j x) (ad m bl · rest) R u ab/\Cx B0 W S' ab ro:=by
 have bt:=hs;unfold Jb.ok Sk.ok at bt;cases h with
 |@p i w th qp σ l h ho=>
  refine y1 H bK ?_;intros;refine Vx.fV (A:=[_,_,_]) (λB W S H=>Dg hs.1 hx h H) λa' x' l' e hl=>?_;have e2:(cw.p σ).step j x=(cw.kh a',x'):=by show(cw.kh _,_)=_;rw[e]
  cases ho:a'.over
  .refine z1 ?_;have e3:(cw.p σ).step j x=(.p a',x'):=e2.trans (Prod.ext (by cases hl<;>first|rfl|cases ho) rfl);exact aa e3 (.p hl ho) rfl HQ
  .cases hl with
   |a=>cases ho
   |b=>cases ho
   |c=>cases ho
   |d hi=>
    refine z1 ?_;exact aa (e2.trans (Prod.ext (if_neg am) rfl)) (.l hi) rfl HQ
   |n hi=>
    refine z1 ?_;exact aa e2 .n rfl HQ
 |@l i w th qp hi=>
  have hb:=Me.aj hx (j.bE+i);refine y1 H bK ?_;intros;exact aa rfl (.s hi hb) rfl HQ
 |@s i w th qp hi hw=>
  have e2:(cw.s i w).step j x=(if x.eq (j.bE+i) w then .d i 0 else .l i,x.eL (j.bE+i) w (jw 2 0 ((w/4294967296+1)%4294967296))):=rfl;refine y2 H bK ?_ ?_<;>intros
  all_goals rw[e2]
  .next h=>rw[if_pos h];exact aa rfl (.d hi) rfl HQ
  .next h=>
   rw[if_neg h];exact aa rfl (.l hi) rfl HQ
 |d hi=>
  refine y1 H bK ?_;intros;exact aa rfl (.d hi) rfl HQ
 |n=>refine y1 H bK ?_;intros;exact aa rfl .n rfl HQ
end
def Tw.ok (t:Tw):Prop:=(0<=t.nd/\t.nd<4096)/\(0<=t.hd/\t.hd<4096)/\(1<=t.ht/\t.ht<=4)/\t.l.a.f.size<=128/\t.l.ok
def Tw.cs (t:Tw):List AV:=I t.nd::I t.hd::I t.ht::t.l.cs
def p9 (nd ht i k:Int):Int:=nd+i*(4+ht)+k
def B6 (nd hd ht i l:Int):Int:=if i=-1 then hd+l else p9 nd ht i (4+l)
instance z29 {n:Nat}[Mn n [136,150,149,151,137,684]]:cH n where
section
variable{nd hd ht c3 c4 n c6 c7 c8 c9 dP dp dM i k l:Int}
instance Vb:VC EM (zF 133) [.agg [I nd,I hd,I ht,I c3,I c4,I n,I c6,I c7,I c8,I c9,I dP,I dp,I dM]] ((0<=nd/\nd<4096)/\(0<=hd/\hd<4096)/\(1<=ht/\ht<=4)/\1<=n/\n<=128) (B true):=.of rfl rfl λh=>by show Zx EM false (Tryz.a133 _) _ _ _ _;exact zZ
instance Vc:m9 EM 219 "coxswain/tower.cells" 137:=⟨λ_=>by kernel_rfl⟩
instance Vd:m9 EM 232 "coxswain/tower.cells" 684:=⟨λ_=>by kernel_rfl⟩
instance z30:cH 61 where
instance XS:VC EM (zF 609) [.agg [I nd,I hd,I ht,I c3,I c4,I n,I c6,I c7,I c8,I c9,I dP,I dp,I dM],I i,I l] (((0<=nd/\nd<4096)/\(0<=hd/\hd<4096)/\(1<=ht/\ht<=4)/\1<=n/\n<=128)/\(-1<=i/\i<n)/\0<=l/\l<ht) (I (B6 nd hd ht i l)):=.of rfl rfl λ⟨h,hi,hk⟩=>by
 by_cases h0:i=-1
 .subst h0;show Zx EM false (Tryz.a609 _) _ _ _ _;refine z1 ?_;intros;have e:hd+0*ht+(4+l-4)=hd+l:=am;exact⟨rfl,by rw[e];unfold B6;rw[if_pos rfl];rfl⟩
 .have e:B6 nd hd ht i l=p9 nd ht i (4+l):=if_neg h0;rw[e];show Zx EM false (Tryz.a609 _) _ _ _ _;have h1:0<=i*(4+ht):=Int.mul_nonneg am am;have h2:i*(4+ht)<=128*8:=Int.mul_le_mul am am am am;exact zZ
instance aam:VC EM (zF 61) [.agg [I nd,I hd,I ht,I c3,I c4,I n,I c6,I c7,I c8,I c9,I dP,I dp,I dM],I i,I k] (((0<=nd/\nd<4096)/\(0<=hd/\hd<4096)/\(1<=ht/\ht<=4)/\1<=n/\n<=128)/\(0<=i/\i<n)/\0<=k/\k<4+ht) (I (p9 nd ht i k)):=.of rfl rfl λ⟨h,hi,hk⟩=>by show Zx EM false (Tryz.a61 _) _ _ _ _;have h1:0<=i*(4+ht):=Int.mul_nonneg hi.1 am;have h2:i*(4+ht)<=128*8:=Int.mul_le_mul am am am am;exact zZ
end
def Tw.rf (t:Tw)(i g:Int):Prop:=dw i g/\i<t.l.a.f.size
theorem Tw.xe {t:Tw}{i g:Int}(h:t.rf i g):t.ix (aD i g)=i:=by have h1:=rT h.1;unfold Tw.ix idx Tw.size;rw[h1,if_pos h.2]
section
variable{nd hd ht c3 c4 n c6 c7 c8 c9 dP dp dM i k l g aq high:Int}
instance Qo:VC EM (zF 630) [.agg [I nd,I hd,I ht,I c3,I c4,I n,I c6,I c7,I c8,I c9,I dP,I dp,I dM],U (aD i g),I aq,I high] (((0<=nd/\nd<4096)/\(0<=hd/\hd<4096)/\(1<=ht/\ht<=4)/\1<=n/\n<=128)/\(dw i g/\i<n)/\(0<=aq/\aq<=65534)/\1<=high/\high<=ht) (I 0):=.of rfl rfl λ⟨h,hi,hj,hh⟩=>by have kj:=hi;unfold dw at kj;show Zx EM false (Tryz.a630 _) _ _ _ _;refine z1 ?_;intros;exact hi.1
instance Ve:VC EM (zF 631) [.agg [I nd,I hd,I ht,I c3,I c4,I n,I c6,I c7,I c8,I c9,I dP,I dp,I dM],U (aD i g)] (dw i g/\i<n) (I i):=.of rfl rfl λ⟨hi,hn⟩=>by have kj:=hi;unfold dw at kj;have hw:=lj hi;have hx:=rT hi;show Zx EM false (Tryz.a631 _) _ _ _ _;refine z1 ?_;intros;exact⟨rfl,by rw[hx];rfl⟩
end
instance z31 {n:Nat}[Mn n [758,621,632,633]]:cH n where
def Dk (pt pi a b:Nat):AV:=.fn (.func 633) [] [.ptr pt 0,.ptr pi 0,.ptr a 0,.ptr b 0]
inductive Av (t:Tw)(i g key aq high:Int)(q:Nat):mD->List Own->Prop
 |s {k:Nat}{pt pi a0 b0 a1 b1 a2 b2 a3 b3:Nat}(hk:k<4):Av t i g key aq high q (.s k) [.obj q (.row [B true,U (aD i g),Dk pt pi a0 b0,Dk pt pi a1 b1,Dk pt pi a2 b2,Dk pt pi a3 b3,I k,I 0]),.obj pt (.row t.cs),.obj pi (.row [I i]),.obj a0 (.row [I 0]),.obj b0 (.row [U key]),.obj a1 (.row [I 1]),.obj b1 (.row [U aq]),.obj a2 (.row [I 2]),.obj b2 (.row [U high]),.obj a3 (.row [I 3]),.obj b3 (.row [U 2])]
 |d {f0 f1 f2 f3}:Av t i g key aq high q (.d 0) [.obj q (.row [B true,U (aD i g),f0,f1,f2,f3,I 4,I 0])]
section
variable{B0 S:AH}{W:List Nat}{own R lo:List Own}{ro:List aB}{m bl q:Nat}{x:Me}{rest:List AV}{t:Tw}{i g key aq high:Int}
theorem Dl {σ:mD}(hs:t.ok)(hr:t.rf i g)(hx:x.gd)(h:Av t i g key aq high q σ lo)(H:Cx B0 W S (lo++(ad m bl x rest++R)) ro):
  aG EM (zF 757) [.ptr q 0,.ptr m 0] S λu S'=>∃ab,eW (Av t i g key aq high q) mD.over (σ.step t (aD i g) key aq high x) (ad m bl · rest) R u ab/\Cx B0 W S' ab ro:=by
 have bt:=hs;unfold Tw.ok Lb.ok Ar.ok Sk.ok Ep.ok at bt;have py:=hr;unfold Tw.rf dw at py;have mX:=Tw.xe hr;haveI:aU:=⟨⟩;cases h with
 |@s k pt pi a0 b0 a1 b1 a2 b2 a3 b3 hk=>
  match k,hk with
  |0,_=>
   have e:(mD.s 0).step t (aD i g) key aq high x=(.s 1,x.st (t.pt i 0) key):=by show(_,x.st (t.pt (t.ix _) 0) key)=_;rw[mX]
   refine y1 H bK ?_;exact aa e (.s am) rfl HQ
  |1,_=>
   have e:(mD.s 1).step t (aD i g) key aq high x=(.s 2,x.st (t.pt i 1) aq):=by show(_,x.st (t.pt (t.ix _) 1) aq)=_;rw[mX]
   refine y1 H bK ?_;exact aa e (.s am) rfl HQ
  |2,_=>
   have e:(mD.s 2).step t (aD i g) key aq high x=(.s 3,x.st (t.pt i 2) high):=by show(_,x.st (t.pt (t.ix _) 2) high)=_;rw[mX]
   refine y1 H bK ?_;exact aa e (.s am) rfl HQ
  |3,_=>
   have e:(mD.s 3).step t (aD i g) key aq high x=(.d 0,x.st (t.pt i 3) 2):=by show(_,x.st (t.pt (t.ix _) 3) 2)=_;rw[mX]
   refine y1 H bK ?_;exact aa e .d rfl HQ
 |d=>refine y1 H bK ?_;exact aa rfl .d rfl HQ
end
def iA:List Int->gr->List AV
 |v::L,s::T=>I v::I s.pred::U s.known::U s.cur::iA L T
 |_,_=>[]
def Sp.ok (t:Tw)(s:Sp):Prop:=(-1<=s.pred/\s.pred<t.l.a.f.size)/\Me.ar s.known/\Me.ar s.cur
def gr.ok (t:Tw)(T:gr):Prop:=(T.length:Int)=t.ht/\∀s∈T,s.ok t
instance z32 {n:Nat}[Mn n [661,664,658,736,733]]:cH n where
def B7:Nat->Int|0=>9|_+1=>1
def LJ:Nat->Int|0=>0|l+1=>l
def LK:Nat->Int->Int|0,c=>c|_+1,_=>0
theorem tg {α:Type}{l:List α}(h:l.length=1):∃a,l=[a]:=match l,h with|[a],_=>⟨a,rfl⟩
theorem tj {α:Type}{l:List α}(h:l.length=2):∃a b,l=[a,b]:=match l,h with|[a,b],_=>⟨a,b,rfl⟩
theorem tn {α:Type}{l:List α}(h:l.length=3):∃a b c,l=[a,b,c]:=match l,h with|[a,b,c],_=>⟨a,b,c,rfl⟩
theorem tp {α:Type}{l:List α}(h:l.length=4):∃a b c d,l=[a,b,c,d]:=match l,h with|[a,b,c,d],_=>⟨a,b,c,d,rfl⟩
section
variable{nd hd ht c3 c4 n c6 c7 c8 c9 dP dp dM key ln lv pred known cur w cM er:Int}{told:AV}{q qt k:Nat}{R0:List Own}{L:List Int}{T:gr}
instance R5:SC EM (zF 651) [.ptr q 0] (.obj q (.row [I nd,I hd,I ht,I c3,I c4,I n,I c6,I c7,I c8,I c9,I dP,I dp,I dM,U key,I ln,I lv,I pred,U known,U cur,U w,.sl qt 0 k k,U cM,B true,I er])::R0) (1<=ht/\ht<=4) uv
  (.obj q (.row [I nd,I hd,I ht,I c3,I c4,I n,I c6,I c7,I c8,I c9,I dP,I dp,I dM,U key,I 1,I (ht-1),I (-1),U 0,U 0,U w,.sl qt 0 k k,U cM,B true,I er])::R0):=.of rfl rfl λh ro R=>by
 show Zx EM false (Tryz.a651 _) _ _ _ _;haveI:aU:=⟨⟩;refine z1 ?_;intros;exact⟨rfl,rfl,_,⟨rfl,rfl⟩,HQ⟩
instance R6 {l:Nat}:SC EM (zF 737) [.ptr q 0] (.obj q (.row [I nd,I hd,I ht,I c3,I c4,I n,I c6,I c7,I c8,I c9,I dP,I dp,I dM,U key,I ln,I l,I pred,U known,U cur,U w,.sl qt 0 k k,U cM,B true,I er])::.obj qt (.row (iA L T))::R0)
  ((1<=ht/\ht<=4)/\(k:Int)=ht/\l<k/\T.length=k/\L.length=k) uv
  (.obj q (.row [I nd,I hd,I ht,I c3,I c4,I n,I c6,I c7,I c8,I c9,I dP,I dp,I dM,U key,I (B7 l),I (LJ l),I pred,U known,U (LK l cur),U w,.sl qt 0 k k,U cM,B true,I er])::.obj qt (.row (iA (L.set l l) (T.set l ⟨pred,known,cur⟩)))::R0):=.of rfl rfl λ⟨h,hk,hl,hT,hL⟩ ro R=>by
 have:k=1\/k=2\/k=3\/k=4:=am;rcases this with rfl|rfl|rfl|rfl
 .obtain⟨a,rfl⟩:=tg hT;obtain⟨a',rfl⟩:=tg hL;obtain rfl:ht=1:=am;match l,hl with
  |0,_=>(show Zx EM false (Tryz.a737 _) _ _ _ _;haveI:aU:=⟨⟩;refine z1 ?_;intros;exact⟨rfl,rfl,_,⟨rfl,rfl⟩,HQ⟩)
 .obtain⟨a,b,rfl⟩:=tj hT;obtain⟨a',b',rfl⟩:=tj hL;obtain rfl:ht=2:=am;match l,hl with
  |0,_=>(show Zx EM false (Tryz.a737 _) _ _ _ _;haveI:aU:=⟨⟩;refine z1 ?_;intros;exact⟨rfl,rfl,_,⟨rfl,rfl⟩,HQ⟩)
  |1,_=>(show Zx EM false (Tryz.a737 _) _ _ _ _;haveI:aU:=⟨⟩;refine z1 ?_;intros;exact⟨rfl,rfl,_,⟨rfl,rfl⟩,HQ⟩)
 .obtain⟨a,b,c,rfl⟩:=tn hT;obtain⟨a',b',c',rfl⟩:=tn hL;obtain rfl:ht=3:=am;match l,hl with
  |0,_=>(show Zx EM false (Tryz.a737 _) _ _ _ _;haveI:aU:=⟨⟩;refine z1 ?_;intros;exact⟨rfl,rfl,_,⟨rfl,rfl⟩,HQ⟩)
  |1,_=>(show Zx EM false (Tryz.a737 _) _ _ _ _;haveI:aU:=⟨⟩;refine z1 ?_;intros;exact⟨rfl,rfl,_,⟨rfl,rfl⟩,HQ⟩)
  |2,_=>(show Zx EM false (Tryz.a737 _) _ _ _ _;haveI:aU:=⟨⟩;refine z1 ?_;intros;exact⟨rfl,rfl,_,⟨rfl,rfl⟩,HQ⟩)
 .obtain⟨a,b,c,d,rfl⟩:=tp hT;obtain⟨a',b',c',d',rfl⟩:=tp hL;obtain rfl:ht=4:=am;match l,hl with
  |0,_=>(show Zx EM false (Tryz.a737 _) _ _ _ _;haveI:aU:=⟨⟩;refine z1 ?_;intros;exact⟨rfl,rfl,_,⟨rfl,rfl⟩,HQ⟩)
  |1,_=>(show Zx EM false (Tryz.a737 _) _ _ _ _;haveI:aU:=⟨⟩;refine z1 ?_;intros;exact⟨rfl,rfl,_,⟨rfl,rfl⟩,HQ⟩)
  |2,_=>(show Zx EM false (Tryz.a737 _) _ _ _ _;haveI:aU:=⟨⟩;refine z1 ?_;intros;exact⟨rfl,rfl,_,⟨rfl,rfl⟩,HQ⟩)
  |3,_=>(show Zx EM false (Tryz.a737 _) _ _ _ _;haveI:aU:=⟨⟩;refine z1 ?_;intros;exact⟨rfl,rfl,_,⟨rfl,rfl⟩,HQ⟩)
end
end Go.cO
