/- Contracts. Conditions: in each theorem. -/
import Derived.Test.YtdfgboafnklioaaGreatAc
import Derived.Test.YtdfgboafnklioaaGreatT
set_option linter.all false
set_option maxRecDepth 100000
set_option maxHeartbeats 4000000
namespace Go.cG
open Go.Proofs
inductive Kf where
 |call (k:AV->AC)
 |bind (id:Option Nat)(k:List AV->AC)(outs:List AV->List AV)
 |fin (k:List AV->AC)
 |loop (body:List AV->AC)(outs:List AV->List AV)
 |Ef (p:Nat)(k:AC)(outs:List AV)
 |yd (p:Nat)(k:AV->AC)
def post (M:cP):List Kf->gG->gG
 |[],Q=>Q
 |.call k::K,Q=>λt vs S=>t=.ret/\wp M (k (oneOf vs)) S (post M K Q)
 |.bind id k outs::K,Q=>yE M id k outs (post M K Q)
 |.fin k::K,Q=>λt vs S=>(t=.normal\/t=.ret)/\wp M (k vs) S (post M K Q)
 |.loop body outs::K,Q=>λt vs S=>(t=.normal/\Qt M body vs S λt vs S'=>post M K Q t (outs vs) S')\/(t≠.normal/\post M K Q t (outs vs) S)
 |.Ef p k outs::K,Q=>λt vs S=>t=.normal/\∃st dI m b,S.get p=some (.loop st dI m b)/\st≠.busy/\
   match dI with
   |none=>wp M k (S.set p (.loop .exhausted dI m b)) (post M K Q)
   |some t=>post M K Q t outs (S.set p (.loop .exhausted dI m b))
 |.yd p k::K,Q=>λt vs S=>∃pd m b,S.get p=some (.loop .busy pd m b)/\
   match t with
   |.normal=>wp M (k (.sc (.bool true))) (S.set p (.loop .ready none m b)) (post M K Q)
   |t=>wp M (k (.sc (.bool false))) (S.set p (.loop .done (some t) m b)) (post M K Q)
abbrev gz:=Tag->List AV->List Own->List aI->Prop
def cl (B:AH)(W:List Nat)(Φ:gz):gG:=λt vs S=>∃own ro,Φ t vs own ro/\Cx B W S own ro
def Vx (M:cP)(x:AC)(K:List Kf)(own:List Own)(ro:List aI)(Φ:gz):Prop:=∀B W S,Cx B W S own ro->wp M x S (post M K (cl B W Φ))
def bP (p:Prop):Prop:=p=True
theorem bP.of {p:Prop}(h:p):bP p:=eq_true h
theorem bP.out {p:Prop}(h:bP p):p:=of_eq_true h
attribute[irreducible] bP
theorem Cx.ic {B S W own ab ro}(H:Cx B W S own ro)(h:own.Perm ab):Cx B W S ab ro where
 next:=H.next
 jc:=H.jc
 oh:=λx hx=>H.oh x (h.mem_iff.2 hx)
 oi:=λx hx=>H.oi x (h.mem_iff.2 hx)
 od:=(h.pairwise_iff (λ{x y} hxy id hy hx=>hxy id hx hy)).1 H.od
 rh:=H.rh
 ri:=λφ jt id bT=>⟨(H.ri φ jt id bT).1,λx hx=>(H.ri φ jt id bT).2 x (h.mem_iff.2 hx)⟩
inductive Lo:List Own->Nat->List AV->Prop
 |hd {p:Nat}{c r}:Lo (.obj p (.row c)::r) p c
 |tl {p:Nat}{c x r}(h:Lo r p c):Lo (x::r) p c
 |ap {p:Nat}{c l r}(h:Lo r p c):Lo (l++r) p c
inductive Lr:List aI->Nat->List AV->Prop
 |hd {p:Nat}{c r}:Lr (.pt p 0 c::r) p c
 |tl {p:Nat}{c x r}(h:Lr r p c):Lr (x::r) p c
 |ap {p:Nat}{c l r}(h:Lr r p c):Lr (l++r) p c
 |me {p:Nat}{c r}(h:bP (aI.pt p 0 c∈r)):Lr r p c
inductive Lk:List Own->List aI->Nat->List AV->Prop
 |hd {p:Nat}{c r ro}:Lk (.obj p (.row c)::r) ro p c
 |tl {p:Nat}{c x r ro}(h:Lk r ro p c):Lk (x::r) ro p c
 |ap {p:Nat}{c l r ro}(h:Lk r ro p c):Lk (l++r) ro p c
 |ro {p:Nat}{c r ro}(h:Lr ro p c):Lk r ro p c
theorem Lr.mem {r}{p:Nat}{c}(h:Lr r p c):aI.pt p 0 c∈r:=by
 induction h with
 |hd=>exact List.Mem.head _
 |tl h ih=>exact List.mem_cons_of_mem _ ih
 |ap h ih=>exact List.mem_append_right _ ih
 |me h=>exact h.out
theorem Lk.cells {own ro}{p:Nat}{c}(h:Lk own ro p c){S}(ho:∀x∈own,x.holds S)(hr:∀φ∈ro,φ.holds S):∃d,S.cells? p=some d/\c.length<=d.length/\d.take c.length=c:=by
 induction h with
 |hd=>exact⟨_,ef (ho _ (List.Mem.head _)),Nat.le_refl _,List.take_length⟩
 |tl h ih=>exact ih (λx hx=>ho x (List.mem_cons_of_mem _ hx)) hr
 |ap h ih=>exact ih (λx hx=>ho x (List.mem_append_right _ hx)) hr
 |ro h=>obtain⟨d,h1,h2,h3⟩:=hr _ h.mem;exact⟨d,h1,am,by simpa using h3⟩
inductive Cut:Nat->Nat->List AV->List AV->Prop
 |d {o n:Nat}{v c l}(h:Cut o n c l):Cut (o+1) n (v::c) l
 |t {n:Nat}{v c l}(h:Cut 0 n c l):Cut 0 (n+1) (v::c) (v::l)
 |z {c}:Cut 0 0 c []
theorem Cut.eq {o n:Nat}{c l}(h:Cut o n c l):(c.drop o).take n=l/\o+n<=c.length:=by
 induction h with
 |d h ih=>exact⟨ih.1,by have:=ih.2;simp;omega⟩
 |t h ih=>exact⟨by simpa using ih.1,by have:=ih.2;simp;omega⟩
 |z=>simp
inductive FI:List AV->Nat->AV->Prop
 |s {c}{o:Nat}{v w}(h:FI c o v):FI (w::c) (o+1) v
 |z {c v}:FI (v::c) 0 v
theorem FI.eq {c}{o:Nat}{v}(h:FI c o v):c[o]?=some v:=by
 induction h with
 |s h ih=>simpa using ih
 |z=>rfl
inductive Sr:List AV->Nat->List AV->List AV->Prop
 |s {c c' vs}{o:Nat}{w}(h:Sr c o vs c'):Sr (w::c) (o+1) vs (w::c')
 |p {c c' vs v w}(h:Sr c 0 vs c'):Sr (w::c) 0 (v::vs) (v::c')
 |z {c}:Sr c 0 [] c
theorem Sr.eq {c c' vs}{o:Nat}(h:Sr c o vs c'):bu c o vs=c'/\o+vs.length<=c.length:=by
 induction h with
 |s h ih=>
  refine⟨?_,by have:=ih.2;simp;omega⟩;rw[cr] at*
  rw[<-ih.1];simp[Nat.succ_add]
 |@p c c' vs v w h ih=>
  refine⟨?_,by have:=ih.2;simp;omega⟩;rw[cr] at*
  rw[<-ih.1];simp
 |z=>exact⟨by rw[cr];simp,ac⟩
inductive Up:List Own->Nat->List AV->List AV->List Own->Prop
 |hd {p:Nat}{c c' r}:Up (.obj p (.row c)::r) p c c' (.obj p (.row c')::r)
 |tl {p:Nat}{c c' x r r'}(h:Up r p c c' r'):Up (x::r) p c c' (x::r')
 |ap {p:Nat}{c c' l r r'}(h:Up r p c c' r'):Up (l++r) p c c' (l++r')
theorem Up.at {own ab}{p:Nat}{c c'}(h:Up own p c c' ab):∃n,own[n]?=some (.obj p (.row c))/\ab=own.set n (.obj p (.row c')):=by
 induction h with
 |hd=>exact⟨0,rfl,rfl⟩
 |tl h ih=>
  obtain⟨n,h1,h2⟩:=ih;exact⟨n+1,by simpa using h1,by rw[h2];rfl⟩
 |@ap p c c' l r r' h ih=>
  obtain⟨n,h1,h2⟩:=ih;refine⟨l.length+n,?_,?_⟩
  .rw[List.getElem?_append_right am];simpa using h1
  .rw[h2,List.set_append_right _ _ am];congr 2;omega
inductive Uo:List Own->Nat->AO->AO->List Own->Prop
 |hd {p:Nat}{o o' r}:Uo (.obj p o::r) p o o' (.obj p o'::r)
 |tl {p:Nat}{o o' x r r'}(h:Uo r p o o' r'):Uo (x::r) p o o' (x::r')
 |ap {p:Nat}{o o' l r r'}(h:Uo r p o o' r'):Uo (l++r) p o o' (l++r')
theorem Uo.at {own ab}{p:Nat}{o o'}(h:Uo own p o o' ab):∃n,own[n]?=some (.obj p o)/\ab=own.set n (.obj p o'):=by
 induction h with
 |hd=>exact⟨0,rfl,rfl⟩
 |tl h ih=>
  obtain⟨n,h1,h2⟩:=ih;exact⟨n+1,by simpa using h1,by rw[h2];rfl⟩
 |@ap p o o' l r r' h ih=>
  obtain⟨n,h1,h2⟩:=ih;refine⟨l.length+n,?_,?_⟩
  .rw[List.getElem?_append_right am];simpa using h1
  .rw[h2,List.set_append_right _ _ am];congr 2;omega
inductive Ro:List Own->Nat->AO->List Own->Prop
 |hd {p:Nat}{o r}:Ro (.obj p o::r) p o r
 |tl {p:Nat}{o x r r'}(h:Ro r p o r'):Ro (x::r) p o (x::r')
 |ap {p:Nat}{o l r r'}(h:Ro r p o r'):Ro (l++r) p o (l++r')
theorem Ro.at {own ab}{p:Nat}{o}(h:Ro own p o ab):∃n,own[n]?=some (.obj p o)/\ab=own.eraseIdx n:=by
 induction h with
 |hd=>exact⟨0,rfl,rfl⟩
 |tl h ih=>
  obtain⟨n,h1,h2⟩:=ih;exact⟨n+1,by simpa using h1,by rw[h2];rfl⟩
 |@ap p o l r r' h ih=>
  obtain⟨n,h1,h2⟩:=ih;refine⟨l.length+n,?_,?_⟩
  .rw[List.getElem?_append_right am];simpa using h1
  .rw[h2,List.eraseIdx_append_of_length_le am];congr 2;omega
def NG (t:Option Tag)(kk:AC)(outs:List AV):AC:=match t with
 |none=>kk
 |some t=>.ret t outs
inductive Le:List Own->Nat->Option Tag->List Own->Prop
 |Vc {p m:Nat}{b r}:Le (.obj p (.loop .ready none m b)::r) p none r
 |Db {p m:Nat}{t b r}:Le (.obj p (.loop .done (some t) m b)::r) p (some t) r
 |tl {p:Nat}{t x r r'}(h:Le r p t r'):Le (x::r) p t (x::r')
 |ap {p:Nat}{t l r r'}(h:Le r p t r'):Le (l++r) p t (l++r')
theorem Le.at {own ab}{p:Nat}{t}(h:Le own p t ab):∃n st m b,own[n]?=some (.obj p (.loop st t m b))/\st≠.busy/\ab=own.eraseIdx n:=by
 induction h with
 |Vc=>exact⟨0,.ready,_,_,rfl,ac,rfl⟩
 |Db=>exact⟨0,.done,_,_,rfl,ac,rfl⟩
 |tl h ih=>
  obtain⟨n,st,m,b,h1,h3,h2⟩:=ih;exact⟨n+1,st,m,b,by simpa using h1,h3,by rw[h2];rfl⟩
 |@ap p o l r r' h ih=>
  obtain⟨n,st,m,b,h1,h3,h2⟩:=ih;refine⟨l.length+n,st,m,b,?_,h3,?_⟩
  .rw[List.getElem?_append_right am];simpa using h1
  .rw[h2,List.eraseIdx_append_of_length_le am];congr 2;omega
inductive Ls:List Own->AV->Nat->List (List AV)->Prop
 |hd {v}{es:Nat}{L r}:Ls (.sl v es L::r) v es L
 |tl {v}{es:Nat}{L x r}(h:Ls r v es L):Ls (x::r) v es L
 |ap {v}{es:Nat}{L l r}(h:Ls r v es L):Ls (l++r) v es L
theorem Ls.mem {own v}{es:Nat}{L}(h:Ls own v es L):Own.sl v es L∈own:=by
 induction h with
 |hd=>exact List.Mem.head _
 |tl _ ih=>exact List.mem_cons_of_mem _ ih
 |ap _ ih=>exact List.mem_append_right _ ih
inductive Us:List Own->AV->Nat->List (List AV)->AV->List (List AV)->List Own->Prop
 |hd {v v'}{es:Nat}{L L' r}:Us (.sl v es L::r) v es L v' L' (.sl v' es L'::r)
 |tl {v v'}{es:Nat}{L L' x r r'}(h:Us r v es L v' L' r'):Us (x::r) v es L v' L' (x::r')
 |ap {v v'}{es:Nat}{L L' l r r'}(h:Us r v es L v' L' r'):Us (l++r) v es L v' L' (l++r')
theorem Us.at {own ab v v'}{es:Nat}{L L'}(h:Us own v es L v' L' ab):∃n,own[n]?=some (.sl v es L)/\ab=own.set n (.sl v' es L'):=by
 induction h with
 |hd=>exact⟨0,rfl,rfl⟩
 |tl h ih=>
  obtain⟨n,h1,h2⟩:=ih;exact⟨n+1,by simpa using h1,by rw[h2];rfl⟩
 |@ap v v' es L L' l r r' h ih=>
  obtain⟨n,h1,h2⟩:=ih;refine⟨l.length+n,?_,?_⟩
  .rw[List.getElem?_append_right am];simpa using h1
  .rw[h2,List.set_append_right _ _ am];congr 2;omega
inductive ET:List (List AV)->Nat->List AV->Prop
 |s {c}{o:Nat}{v w}(h:ET c o v):ET (w::c) (o+1) v
 |z {c v}:ET (v::c) 0 v
theorem ET.eq {c}{o:Nat}{v}(h:ET c o v):c[o]?=some v:=by
 induction h with
 |s h ih=>simpa using ih
 |z=>rfl
mutual
inductive wD:AV->AV->Prop
 |num {κ}{n:Int}:wD (Z κ n) (Z κ n)
 |bool {b:Bool}:wD (B b) (B b)
 |ptr {p o:Nat}:wD (.ptr p o) (.ptr p o)
 |np:wD Np Np
 |nf:wD Nf Nf
 |ns:wD Ns Ns
 |fn {f a a' c c'}(h:wE a a')(h2:wE c c'):wD (.fn f a c) (.fn f a' c')
 |agg {l l'}(h:wE l l'):wD (.agg l) (.agg l')
 |ed {l l'}(h:wE l l'):wD (.ed l) (.ed l')
 |MG {t:Nat}{v v'}(h:wD v v'):wD (.iface t v) (.iface t v')
 |sl {i o n c:Nat}:wD (.sl i o n c) (.sl i o n c)
 |any {v}:wD v v
inductive wE:List AV->List AV->Prop
 |nil:wE [] []
 |cons {v v' l l'}(h:wD v v')(h2:wE l l'):wE (v::l) (v'::l')
 |any {l}:wE l l
end
mutual
theorem wD.eq:∀{v v'},wD v v'->v=v'
 |_,_,.num=>rfl
 |_,_,.bool=>rfl
 |_,_,.ptr=>rfl
 |_,_,.np=>rfl
 |_,_,.nf=>rfl
 |_,_,.ns=>rfl
 |_,_,.fn h h2=>by rw[h.eq,h2.eq]
 |_,_,.agg h=>by rw[h.eq]
 |_,_,.ed h=>by rw[h.eq]
 |_,_,.MG h=>by rw[h.eq]
 |_,_,.sl=>rfl
 |_,_,.any=>rfl
theorem wE.eq:∀{l l'},wE l l'->l=l'
 |_,_,.nil=>rfl
 |_,_,.cons h h2=>by rw[h.eq,h2.eq]
 |_,_,.any=>rfl
end
class VC (M:cP)(f:AV)(args:List AV)(P:outParam Prop)(v:outParam AV):Prop where
 ok:P->∀S,aN M f args S λr S'=>r=v/\bn S S'
class SC (M:cP)(f:AV)(args:List AV)(own:List Own)(P:outParam Prop)(v:outParam AV)(ab:outParam (List Own)):Prop where
 ok:P->∀(ro:List aI) (R:List Own) (B:AH) (W:List Nat) (S:AH),Cx B W S (own++R) ro->aN M f args S λr S'=>r=v/\Cx B W S' (ab++R) ro
theorem mH {o:Own}{a b:List Own}:(o::(a++b)).Perm (a++(o::b)):=List.perm_middle.symm
instance SC.cons {M:cP}{f:AV}{args:List AV}{own ab:List Own}{P:Prop}{v:AV}{o:Own}[h:SC M f args own P v ab]:SC M f args (o::own) P v (o::ab) where
 ok:=λhp ro R B W S H=>az (h.ok hp ro (o::R) B W S (H.ic mH)) λr S' q=>⟨q.1,q.2.ic mH.symm⟩
theorem kN {l a b:List Own}:(l++a++b).Perm (a++(l++b)):=by rw[<-List.append_assoc];exact List.Perm.append_right b List.perm_append_comm
instance SC.app {M:cP}{f:AV}{args:List AV}{own ab:List Own}{P:Prop}{v:AV}{l:List Own}[h:SC M f args own P v ab]:SC M f args (l++own) P v (l++ab) where
 ok:=λhp ro R B W S H=>az (h.ok hp ro (l++R) B W S (H.ic kN)) λr S' q=>⟨q.1,q.2.ic kN.symm⟩
class NC (M:cP)(f:AV)(args:List AV)(P:outParam Prop)(Q:outParam (Nat->List Own->Prop)):Prop where
 ok:P->∀(ro:List aI) (R:List Own) (B:AH) (W:List Nat) (S:AH),Cx B W S R ro->aN M f args S λr S'=>∃p l,Q p l/\r=.ptr p 0/\Cx B W S' (l++R) ro
class NS (M:cP)(f:AV)(args:List AV)(own:List Own)(P:outParam Prop)(L:outParam (List (List AV))):Prop where
 ok:P->∀(ro:List aI) (R:List Own) (B:AH) (W:List Nat) (S:AH),Cx B W S (own++R) ro->aN M f args S λr S'=>Cx B W S' (.sl r 1 L::(own++R)) ro
instance NS.cons {M:cP}{f:AV}{args:List AV}{own:List Own}{P:Prop}{L:List (List AV)}{o:Own}[h:NS M f args own P L]:NS M f args (o::own) P L where
 ok:=λhp ro R B W S H=>az (h.ok hp ro (o::R) B W S (H.ic mH)) λr S' q=>q.ic (List.Perm.cons _ mH.symm)
instance NS.app {M:cP}{f:AV}{args:List AV}{own:List Own}{P:Prop}{L:List (List AV)}{l:List Own}[h:NS M f args own P L]:NS M f args (l++own) P L where
 ok:=λhp ro R B W S H=>az (h.ok hp ro (l++R) B W S (H.ic kN)) λr S' q=>q.ic (List.Perm.cons _ kN.symm)
class Mb (L:List (List AV))(i:Int)(P:outParam Prop)(x:outParam AV):Prop where
 ok:P->∃j:Nat,i=j/\L[j]?=some [x]
class HD (own:List Own)(v:AV)(i:Int)(P:outParam Prop)(x:outParam AV):Prop where
 ok:P->∃L,Own.sl v 1 L∈own/\∃j:Nat,i=j/\L[j]?=some [x]
instance HD.tl {o own v x}{i:Int}{P:Prop}[c:HD own v i P x]:HD (o::own) v i P x where
 ok:=λhp=>let⟨L,h1,h2⟩:=c.ok hp;⟨L,List.mem_cons_of_mem _ h1,h2⟩
instance HD.ap {l own v x}{i:Int}{P:Prop}[c:HD own v i P x]:HD (l++own) v i P x where
 ok:=λhp=>let⟨L,h1,h2⟩:=c.ok hp;⟨L,List.mem_append_right _ h1,h2⟩
instance HD.hd {own v x L}{i:Int}{P:Prop}[c:Mb L i P x]:HD (.sl v 1 L::own) v i P x where
 ok:=λhp=>⟨L,List.Mem.head _,c.ok hp⟩
class Kt (M:cP)(ty u:Nat):Prop where
 ok:∀v,iS M.P ty true true (some Ni) (.iface u v)=some (.ed [.iface u v,B true])
class w5 (M:cP)(ty u:Nat):Prop where
 ok:∀v,iS M.P ty true true (some Ni) (.iface u v)=some (.ed [Ni,B false])
class cK (f:Nat):Prop
class Mn (n:Nat)(l:List Nat):Prop
instance z10 {n:Nat}{l}:Mn n (n::l) where
instance z11 {n m:Nat}{l}[Mn n l]:Mn n (m::l) where
class aY:Prop
class nj (M:cP)(t:Nat)(name:String)(f:outParam Nat):Prop where
 ok:∀v,methodOf M.P t v name=some (f,v)
class dQ:Prop
class Mc:Prop
def yJ (a b:Int):Int:=((a.toNat&&&b.toNat:Nat):Int)
def nq (a b:Int):Int:=((a.toNat|||b.toNat:Nat):Int)
inductive Zx (M:cP):Bool->AC->List Kf->List Own->List aI->gz->Prop
 |rc1 {v k K own ro Φ}(h:Zx M false (k v) K own ro Φ):Zx M false (.ret .ret [v]) (.call k::K) own ro Φ
 |rc0 {k K own ro Φ}(h:Zx M false (k (.ed [])) K own ro Φ):Zx M false (.ret .ret []) (.call k::K) own ro Φ
 |rc2 {v w r k K own ro Φ}(h:Zx M false (k (.ed (v::w::r))) K own ro Φ):Zx M false (.ret .ret (v::w::r)) (.call k::K) own ro Φ
 |rbn {vs id k outs K own ro Φ}(h:Zx M false (k vs) K own ro Φ):Zx M false (.ret .normal vs) (.bind id k outs::K) own ro Φ
 |rbe {vs}{i:Nat}{k outs K own ro Φ}(h:Zx M false (k vs) K own ro Φ):Zx M false (.ret (.exit i) vs) (.bind (some i) k outs::K) own ro Φ
 |rbx {vs}{i j:Nat}{k outs K own ro Φ}(e:Nat.beq j i=false)(h:Zx M false (.ret (.exit i) (outs vs)) K own ro Φ):Zx M false (.ret (.exit i) vs) (.bind (some j) k outs::K) own ro Φ
 |rby {vs}{i:Nat}{k outs K own ro Φ}(h:Zx M false (.ret (.exit i) (outs vs)) K own ro Φ):Zx M false (.ret (.exit i) vs) (.bind none k outs::K) own ro Φ
 |rbr {vs id k outs K own ro Φ}(h:Zx M false (.ret .ret (outs vs)) K own ro Φ):Zx M false (.ret .ret vs) (.bind id k outs::K) own ro Φ
 |rbg {vs}{l:Nat}{id k outs K own ro Φ}(h:Zx M false (.ret (.goto l) (outs vs)) K own ro Φ):Zx M false (.ret (.goto l) vs) (.bind id k outs::K) own ro Φ
 |rfn {vs k K own ro Φ}(h:Zx M false (k vs) K own ro Φ):Zx M false (.ret .normal vs) (.fin k::K) own ro Φ
 |rfr {vs k K own ro Φ}(h:Zx M false (k vs) K own ro Φ):Zx M false (.ret .ret vs) (.fin k::K) own ro Φ
 |Ku [aY]{vs body outs K own ro Φ}(h:Zx M false (body vs) (.loop body outs::K) own ro Φ):Zx M false (.ret .normal vs) (.loop body outs::K) own ro Φ
 |rle {vs}{i:Nat}{body outs K own ro Φ}(h:Zx M false (.ret (.exit i) (outs vs)) K own ro Φ):Zx M false (.ret (.exit i) vs) (.loop body outs::K) own ro Φ
 |rlr {vs body outs K own ro Φ}(h:Zx M false (.ret .ret (outs vs)) K own ro Φ):Zx M false (.ret .ret vs) (.loop body outs::K) own ro Φ
 |rrn {p:Nat}{t kk outs vs K own ab ro Φ}(h1:Le own p t ab)(h:Zx M false (NG t kk outs) K ab ro Φ):Zx M false (.ret .normal vs) (.Ef p kk outs::K) own ro Φ
 |ryn {p m:Nat}{b vs k K own ab ro Φ}(h1:Uo own p (.loop .busy none m b) (.loop .ready none m b) ab)(h:Zx M false (k (B true)) K ab ro Φ):Zx M false (.ret .normal vs) (.yd p k::K) own ro Φ
 |rye {p m i:Nat}{b vs k K own ab ro Φ}(h1:Uo own p (.loop .busy none m b) (.loop .done (some (.exit i)) m b) ab)(h:Zx M false (k (B false)) K ab ro Φ):Zx M false (.ret (.exit i) vs) (.yd p k::K) own ro Φ
 |ryr {p m:Nat}{b vs k K own ab ro Φ}(h1:Uo own p (.loop .busy none m b) (.loop .done (some .ret) m b) ab)(h:Zx M false (k (B false)) K ab ro Φ):Zx M false (.ret .ret vs) (.yd p k::K) own ro Φ
 |leaf {t vs wJ own ro Φ}(ha:wE vs wJ)(h:bP (Φ t wJ own ro)):Zx M false (.ret t vs) [] own ro Φ
 |bind {m id k outs K own ro Φ}(h:Zx M false m (.bind id k outs::K) own ro Φ):Zx M false (.bind m id k outs) K own ro Φ
 |fin {m k K own ro Φ}(h:Zx M false m (.fin k::K) own ro Φ):Zx M false (.fin m k) K own ro Φ
 |loop [aY]{init body outs K own ro Φ}(h:Zx M false (body init) (.loop body outs::K) own ro Φ):Zx M false (.loop init body outs) K own ro Φ
 |Ef {n:Nat}{f fa fc body kk outs K own ro Φ}(h:∀p:Nat,Zx M false (.call (.fn f fa fc) [.yd p] λv=>.ret .normal [v]) (.Ef p kk outs::K) (.obj p (.loop .ready none n body)::own) ro Φ):Zx M false (.Ef n (.fn f fa fc) body kk outs) K own ro Φ
 |start {p m:Nat}{b k K own ab ro Φ}(h1:Uo own p (.loop .ready none m b) (.loop .busy none m b) ab)(h:Zx M false k K ab ro Φ):Zx M false (.start (.yd p) k) K own ro Φ
 |Xs {x y K own ro Φ}(h:Zx M false x K own ro Φ):Zx M false (.ite (B true) x y) K own ro Φ
 |Xt {x y K own ro Φ}(h:Zx M false y K own ro Φ):Zx M false (.ite (B false) x y) K own ro Φ
 |Xu {p:Prop}[d:Decidable p]{x y K own ro Φ}(h1:p->Zx M false x K own ro Φ)(h2:¬p->Zx M false y K own ro Φ):Zx M false (.ite (B (decide p)) x y) K own ro Φ
 |Xv {c:Bool}{x y K own ro Φ}(h1:c=true->Zx M false x K own ro Φ)(h2:c=false->Zx M false y K own ro Φ):Zx M false (.ite (B c) x y) K own ro Φ
 |NH {g:Bool}{o k K own ro Φ}(h:Zx M false (.op o k) K own ro Φ):Zx M false (.qh (B g) g o k) K own ro Φ
 |Xw {o k K own ro Φ}(h:Zx M false (k uv) K own ro Φ):Zx M false (.qh (B false) true o k) K own ro Φ
 |Xx {o k K own ro Φ}(h:Zx M false (k uv) K own ro Φ):Zx M false (.qh (B true) false o k) K own ro Φ
 |Xy {g:Bool}{o k K own ro Φ}(h:Zx M false (k uv) K own ro Φ):Zx M false (.qh uv g o k) K own ro Φ
 |Xz {p:Prop}[d:Decidable p]{g:Bool}{o k K own ro Φ}(h1:p->Zx M false (.qh (B true) g o k) K own ro Φ)(h2:¬p->Zx M false (.qh (B false) g o k) K own ro Φ):Zx M false (.qh (B (decide p)) g o k) K own ro Φ
 |XA {b g:Bool}{o k K own ro Φ}(h1:b=true->Zx M false (.qh (B true) g o k) K own ro Φ)(h2:b=false->Zx M false (.qh (B false) g o k) K own ro Φ):Zx M false (.qh (B b) g o k) K own ro Φ
 |XB {g:Bool}{f l k K own ro Φ}(h:Zx M false (.call f l k) K own ro Φ):Zx M false (.iQ (B g) g f l k) K own ro Φ
 |XC {f l k K own ro Φ}(h:Zx M false (k uv) K own ro Φ):Zx M false (.iQ (B false) true f l k) K own ro Φ
 |XD {f l k K own ro Φ}(h:Zx M false (k uv) K own ro Φ):Zx M false (.iQ (B true) false f l k) K own ro Φ
 |XE {g:Bool}{f l k K own ro Φ}(h:Zx M false (k uv) K own ro Φ):Zx M false (.iQ uv g f l k) K own ro Φ
 |XF {b g:Bool}{f l k K own ro Φ}(h1:b=true->Zx M false (.iQ (B true) g f l k) K own ro Φ)(h2:b=false->Zx M false (.iQ (B false) g f l k) K own ro Φ):Zx M false (.iQ (B b) g f l k) K own ro Φ
 |XG {g:Bool}{o v k K own ro Φ}(h:Zx M false (.rN o v k) K own ro Φ):Zx M false (.BB (B g) g o v k) K own ro Φ
 |XH {o v k K own ro Φ}(h:Zx M false k K own ro Φ):Zx M false (.BB (B false) true o v k) K own ro Φ
 |XI {o v k K own ro Φ}(h:Zx M false k K own ro Φ):Zx M false (.BB (B true) false o v k) K own ro Φ
 |XJ {g:Bool}{o v k K own ro Φ}(h:Zx M false k K own ro Φ):Zx M false (.BB uv g o v k) K own ro Φ
 |XK {p o:Nat}{c v w k K own ro Φ}(h1:Lk own ro p c)(h2:FI c o w)(hb:bP (w.beq v=true))(h:Zx M false k K own ro Φ):Zx M false (.rN (.load 1 false (.ptr p o)) v k) K own ro Φ
 |XL {p o n:Nat}{c l v k K own ro Φ}(h1:Lk own ro p c)(h2:Cut o n c l)(hb:bP (AV.beq (.agg l) v=true))(h:Zx M false k K own ro Φ):Zx M false (.rN (.load n true (.ptr p o)) v k) K own ro Φ
 |mvT {k K own ro Φ}(h:Zx M false (k (B true)) K own ro Φ):Zx M false (.op (.mv (B true)) k) K own ro Φ
 |mvF {k K own ro Φ}(h:Zx M false (k (B false)) K own ro Φ):Zx M false (.op (.mv (B false)) k) K own ro Φ
 |mvD {p:Prop}[d:Decidable p]{k K own ro Φ}(h1:p->Zx M false (k (B true)) K own ro Φ)(h2:¬p->Zx M false (k (B false)) K own ro Φ):Zx M false (.op (.mv (B (decide p))) k) K own ro Φ
 |mvB {c:Bool}{k K own ro Φ}(h1:c=true->Zx M false (k (B true)) K own ro Φ)(h2:c=false->Zx M false (k (B false)) K own ro Φ):Zx M false (.op (.mv (B c)) k) K own ro Φ
 |mv {x x' k K own ro Φ}(ha:wD x x')(h:Zx M false (k x') K own ro Φ):Zx M false (.op (.mv x) k) K own ro Φ
 |not {b:Bool}{k K own ro Φ}(h:Zx M false (.op (.mv (B (!b))) k) K own ro Φ):Zx M false (.op (.un .not (B b)) k) K own ro Φ
 |pkT {x y k K own ro Φ}(h:Zx M false (k x) K own ro Φ):Zx M false (.op (.pick (B true) x y) k) K own ro Φ
 |pkF {x y k K own ro Φ}(h:Zx M false (k y) K own ro Φ):Zx M false (.op (.pick (B false) x y) k) K own ro Φ
 |pkD {p:Prop}[d:Decidable p]{x y k K own ro Φ}(h1:p->Zx M false (k x) K own ro Φ)(h2:¬p->Zx M false (k y) K own ro Φ):Zx M false (.op (.pick (B (decide p)) x y) k) K own ro Φ
 |pkB {c:Bool}{x y k K own ro Φ}(h1:c=true->Zx M false (k x) K own ro Φ)(h2:c=false->Zx M false (k y) K own ro Φ):Zx M false (.op (.pick (B c) x y) k) K own ro Φ
 |ex {i:Nat}{v l k K own ro Φ}(h1:FI l i v)(h:Zx M false (k v) K own ro Φ):Zx M false (.op (.extract i (.ed l)) k) K own ro Φ
 |R6 {o n:Nat}{l c k K own ro Φ}(h1:Cut o n c l)(h:Zx M false (k (.agg l)) K own ro Φ):Zx M false (.op (.part o n true (.agg c)) k) K own ro Φ
 |R7 {o n:Nat}{v c k K own ro Φ}(h1:FI c o v)(h:Zx M false (k v) K own ro Φ):Zx M false (.op (.part o n false (.agg c)) k) K own ro Φ
 |bld {z c c' ps k K own ro Φ}(h1:fX z ps=some c)(ha:wE c c')(h:Zx M false (k (.agg c')) K own ro Φ):Zx M false (.op (.build z ps) k) K own ro Φ
 |fad {p o f:Nat}{k K own ro Φ}(h:Zx M false (k (.ptr p (o+f))) K own ro Φ):Zx M false (.op (.kA f (.ptr p o)) k) K own ro Φ
 |nck {x k K own ro Φ}(e:live x=true)(h:Zx M false (k x) K own ro Φ):Zx M false (.op (.pn x) k) K own ro Φ
 |lss {κ}{a b:Int}{k K own ro Φ}(h:Zx M false (.op (.mv (B (decide (a<b)))) k) K own ro Φ):Zx M false (.op (.bin .lss (Z κ a) (Z κ b)) k) K own ro Φ
 |leq {κ}{a b:Int}{k K own ro Φ}(h:Zx M false (.op (.mv (B (decide (a<=b)))) k) K own ro Φ):Zx M false (.op (.bin .leq (Z κ a) (Z κ b)) k) K own ro Φ
 |gtr {κ}{a b:Int}{k K own ro Φ}(h:Zx M false (.op (.mv (B (decide (b<a)))) k) K own ro Φ):Zx M false (.op (.bin .gtr (Z κ a) (Z κ b)) k) K own ro Φ
 |geq {κ}{a b:Int}{k K own ro Φ}(h:Zx M false (.op (.mv (B (decide (b<=a)))) k) K own ro Φ):Zx M false (.op (.bin .geq (Z κ a) (Z κ b)) k) K own ro Φ
 |eql {κ}{a b:Int}{k K own ro Φ}(h:Zx M false (.op (.mv (B (decide (a=b)))) k) K own ro Φ):Zx M false (.op (.bin .eql (Z κ a) (Z κ b)) k) K own ro Φ
 |neq {κ}{a b:Int}{k K own ro Φ}(h:Zx M false (.op (.mv (B (decide (a≠b)))) k) K own ro Φ):Zx M false (.op (.bin .neq (Z κ a) (Z κ b)) k) K own ro Φ
 |eqs {a b k K own ro Φ}(h:Zx M false (.op (.mv (B (a.toList==b.toList))) k) K own ro Φ):Zx M false (.op (.bin .eql (.sc (.string a)) (.sc (.string b))) k) K own ro Φ
 |Ee {len es:Nat}{ag:Bool}{x i v v' k K own ro Φ}(e:xi len es ag x i=some v)(ha:wD v v')(h:Zx M false (k v') K own ro Φ):Zx M false (.op (.Ee len es ag x i) k) K own ro Φ
 |add {a b:Int}{k K own ro Φ}(e:bP (-9223372036854775808<=a+b/\a+b<=9223372036854775807))(h:Zx M false (k (I (a+b))) K own ro Φ):Zx M false (.op (.bin .add (I a) (I b)) k) K own ro Φ
 |sub {a b:Int}{k K own ro Φ}(e:bP (-9223372036854775808<=a-b/\a-b<=9223372036854775807))(h:Zx M false (k (I (a-b))) K own ro Φ):Zx M false (.op (.bin .sub (I a) (I b)) k) K own ro Φ
 |mul {a b:Int}{k K own ro Φ}(e:bP (-9223372036854775808<=a*b/\a*b<=9223372036854775807))(h:Zx M false (k (I (a*b))) K own ro Φ):Zx M false (.op (.bin .mul (I a) (I b)) k) K own ro Φ
 |XM {a b:Int}{k K own ro Φ}(h:Zx M false (k (U ((a+b)%18446744073709551616))) K own ro Φ):Zx M false (.op (.bin .add (U a) (U b)) k) K own ro Φ
 |XN {a b:Int}{k K own ro Φ}(h:Zx M false (k (U ((a-b)%18446744073709551616))) K own ro Φ):Zx M false (.op (.bin .sub (U a) (U b)) k) K own ro Φ
 |shr {κ Qw}{a:Int}{s:Nat}{k K own ro Φ}(e:Nat.ble s κ.bits=true)(h:Zx M false (k (Z κ (a/2^s))) K own ro Φ):Zx M false (.op (.bin .shr (Z κ a) (Z Qw (Int.ofNat s))) k) K own ro Φ
 |shl {κ}{a:Int}{s:Nat}{k K own ro Φ}(e:Nat.ble s 64=true)(h:Zx M false (k (U (a*2^s%18446744073709551616))) K own ro Φ):Zx M false (.op (.bin .shl (U a) (Z κ (Int.ofNat s))) k) K own ro Φ
 |HE {a:Int}{k K own ro Φ}(e:bP (0<=a/\a<9223372036854775808))(h:Zx M false (k (I (a%65536))) K own ro Φ):Zx M false (.op (.bin .and (I a) (I 65535)) k) K own ro Φ
 |HF {a:Int}{k K own ro Φ}(e:bP (0<=a/\a<18446744073709551616))(h:Zx M false (k (U (a%65536))) K own ro Φ):Zx M false (.op (.bin .and (U a) (U 65535)) k) K own ro Φ
 |NI {a:Int}{k K own ro Φ}(e:bP (0<=a/\a<9223372036854775808))(h:Zx M false (k (I (a%256))) K own ro Φ):Zx M false (.op (.bin .and (I a) (I 255)) k) K own ro Φ
 |NJ {a:Int}{k K own ro Φ}(e:bP (0<=a/\a<18446744073709551616))(h:Zx M false (k (U (a%256))) K own ro Φ):Zx M false (.op (.bin .and (U a) (U 255)) k) K own ro Φ
 |w6 {a:Int}{k K own ro Φ}(e:bP (0<=a/\a<9223372036854775808))(h:Zx M false (k (I (a%4294967296))) K own ro Φ):Zx M false (.op (.bin .and (I a) (I 4294967295)) k) K own ro Φ
 |w7 {a:Int}{k K own ro Φ}(e:bP (0<=a/\a<18446744073709551616))(h:Zx M false (k (U (a%4294967296))) K own ro Φ):Zx M false (.op (.bin .and (U a) (U 4294967295)) k) K own ro Φ
 |pQ {a:Int}{k K own ro Φ}(e:bP (0<=a/\a<9223372036854775808))(h:Zx M false (k (I (a%281474976710656))) K own ro Φ):Zx M false (.op (.bin .and (I a) (I 281474976710655)) k) K own ro Φ
 |pR {a:Int}{k K own ro Φ}(e:bP (0<=a/\a<18446744073709551616))(h:Zx M false (k (U (a%281474976710656))) K own ro Φ):Zx M false (.op (.bin .and (U a) (U 281474976710655)) k) K own ro Φ
 |and {a b:Int}{k K own ro Φ}(e:bP ((0<=a/\a<18446744073709551616)/\0<=b/\b<18446744073709551616))(h:Zx M false (k (U (yJ a b))) K own ro Φ):Zx M false (.op (.bin .and (U a) (U b)) k) K own ro Φ
 |XO {a b:Int}{k K own ro Φ}(e:bP ((0<=a/\a<9223372036854775808)/\0<=b/\b<9223372036854775808))(h:Zx M false (k (I (yJ a b))) K own ro Φ):Zx M false (.op (.bin .and (I a) (I b)) k) K own ro Φ
 |or {a b:Int}{k K own ro Φ}(e:bP ((0<=a/\a<18446744073709551616)/\0<=b/\b<18446744073709551616))(h:Zx M false (k (U (nq a b))) K own ro Φ):Zx M false (.op (.bin .or (U a) (U b)) k) K own ro Φ
 |XP {a:Int}{k K own ro Φ}(e:bP (0<=a/\a<18446744073709551616))(h:Zx M false (k (U (a%9223372036854775808))) K own ro Φ):Zx M false (.op (.bin .andNot (U a) (U 9223372036854775808)) k) K own ro Φ
 |rem {κ}{a b:Int}{k K own ro Φ}(e:bP (0<=a/\0<b))(h:Zx M false (k (Z κ (a%b))) K own ro Φ):Zx M false (.op (.bin .rem (Z κ a) (Z κ b)) k) K own ro Φ
 |NK {a:Int}{k K own ro Φ}(e:bP (0<=a/\a<18446744073709551616))(h:Zx M false (k (U (a-a%65536))) K own ro Φ):Zx M false (.op (.bin .andNot (U a) (U 65535)) k) K own ro Φ
 |XQ {a b:Int}{k K own ro Φ}(h:Zx M false (k (Z .u32 ((a+b)%4294967296))) K own ro Φ):Zx M false (.op (.bin .add (Z .u32 a) (Z .u32 b)) k) K own ro Φ
 |XR {a b:Int}{k K own ro Φ}(h:Zx M false (k (Z .u32 ((a-b)%4294967296))) K own ro Φ):Zx M false (.op (.bin .sub (Z .u32 a) (Z .u32 b)) k) K own ro Φ
 |quo {a b:Int}{k K own ro Φ}(e:bP (0<=a/\0<b/\a<18446744073709551616))(h:Zx M false (k (U (a/b))) K own ro Φ):Zx M false (.op (.bin .quo (U a) (U b)) k) K own ro Φ
 |min2 {κ}{a b:Int}{k K own ro Φ}(h:Zx M false (k (Z κ (min a b))) K own ro Φ):Zx M false (.op (.nt false [Z κ a,Z κ b]) k) K own ro Φ
 |pad {len es:Nat}{x i v k K own ro Φ}(e:nw len es x i=some v)(h:Zx M false (k v) K own ro Φ):Zx M false (.op (.zA len es x i) k) K own ro Φ
 |NL {id o n c es:Nat}{i v k K own ro Φ}(e:gi es (.sl id o n c) i=some v)(h:Zx M false (k v) K own ro Φ):Zx M false (.op (.cC es (.sl id o n c) i) k) K own ro Φ
 |asl {len es:Nat}{x v a b c k K own ro Φ}(e:kD len es x a b c=some v)(h:Zx M false (k v) K own ro Φ):Zx M false (.op (.pk len es x a b c) k) K own ro Φ
 |XS {v x}{i:Int}{own}{P:Prop}[c:HD own v i P x]{k K ro Φ}(hp:bP P)(h:Zx M false (k x) K own ro Φ):Zx M false (.op (.cC 1 v (I i)) λp=>.op (.load 1 false p) k) K own ro Φ
 |ldS {v x}{j:Nat}{L k K own ro Φ}(h1:Ls own v 1 L)(h2:ET L j [x])(h:Zx M false (k x) K own ro Φ):Zx M false (.op (.cC 1 v (I (Int.ofNat j))) λp=>.op (.load 1 false p) k) K own ro Φ
 |apN {bytes id o n cap:Nat}{c l k K own ro Φ}(h1:Lo own id c)(h2:Cut o n c l)(e:bP (l.length*bytes<=140737488355328/\l.length<=9223372036854775807))(h:∀v:AV,Zx M false (k v) K (.sl v 1 (l.map λa=>[a])::own) ro Φ):Zx M false (.op (.append 1 bytes Ns (.sl id o n cap)) k) K own ro Φ
 |ap1 {v:AV}{bytes id o n cap:Nat}{c l:List AV}{L L':List (List AV)}{ab:AV->List Own}{k:AV->AC}{K:List Kf}{own:List Own}{ro:List aI}{Φ:gz}(h0:Ls own v 1 L)(h1:Lo own id c)(h2:Cut o n c l)(hl:L++(l.map λa=>[a])=L')(e:bP ((L.length+l.length)*bytes<=140737488355328/\L.length+l.length<=9223372036854775807))(h3:∀v',Us own v 1 L v' L' (ab v'))(h:∀v':AV,Zx M false (k v') K (ab v') ro Φ):Zx M false (.op (.append 1 bytes v (.sl id o n cap)) k) K own ro Φ
 |XT {w}{bytes:Nat}{N k K own ro Φ}(h1:Ls own w 1 N)(e:bP (N.length*bytes<=140737488355328/\N.length<=9223372036854775807))(h:∀v':AV,odd v'=false->v'.cells=[v']->AV.beq v' v'=true->Zx M false (k v') K (.sl v' 1 N::own) ro Φ):Zx M false (.op (.append 1 bytes Ns w) k) K own ro Φ
 |apW {v w:AV}{bytes:Nat}{L N L':List (List AV)}{ab:AV->List Own}{k:AV->AC}{K:List Kf}{own:List Own}{ro:List aI}{Φ:gz}(h0:Ls own v 1 L)(h1:Ls own w 1 N)(hl:L++N=L')(e:bP ((L.length+N.length)*bytes<=140737488355328/\L.length+N.length<=9223372036854775807))(h3:∀v',Us own v 1 L v' L' (ab v'))(h:∀v':AV,odd v'=false->v'.cells=[v']->AV.beq v' v'=true->Zx M false (k v') K (ab v') ro Φ):Zx M false (.op (.append 1 bytes v w) k) K own ro Φ
 |XU {v:AV}{es a:Nat}{L L':List (List AV)}{ab:AV->List Own}{k:AV->AC}{K:List Kf}{own:List Own}{ro:List aI}{Φ:gz}(h0:Ls own v es L)(ha:Nat.ble a L.length=true)(hl:L.drop a=L')(h3:∀v',Us own v es L v' L' (ab v'))(h:∀v':AV,odd v'=false->v'.cells=[v']->AV.beq v' v'=true->Zx M false (k v') K (ab v') ro Φ):Zx M false (.op (.i_ es v (some (I (Int.ofNat a))) none none) k) K own ro Φ
 |R8 {v:AV}{es a:Nat}{L L':List (List AV)}{ab:AV->List Own}{k:AV->AC}{K:List Kf}{own:List Own}{ro:List aI}{Φ:gz}(h0:Ls own v es L)(ha:Nat.ble a L.length=true)(hl:L.take a=L')(h3:∀v',Us own v es L v' L' (ab v'))(h:∀v':AV,odd v'=false->v'.cells=[v']->AV.beq v' v'=true->Zx M false (k v') K (ab v') ro Φ):Zx M false (.op (.i_ es v none (some (I (Int.ofNat a))) (some (I (Int.ofNat a)))) k) K own ro Φ
 |XV {ty u:Nat}[c:Kt M ty u]{v k K own ro Φ}(h:Zx M false (k (.ed [.iface u v,B true])) K own ro Φ):Zx M false (.op (.mh ty true true (some Ni) (.iface u v)) k) K own ro Φ
 |XW {ty u:Nat}[c:w5 M ty u]{v k K own ro Φ}(h:Zx M false (k (.ed [Ni,B false])) K own ro Φ):Zx M false (.op (.mh ty true true (some Ni) (.iface u v)) k) K own ro Φ
 |mks {es bytes n:Nat}{z c k K own ro Φ}(e:(Nat.ble (bytes*n) 140737488355328&&Nat.beq (ca z) es)=true)(e2:Nat.ble n 1000000=true)(hc:wE (cD z n) c)(h:∀p:Nat,Zx M false (k (.sl p 0 n n)) K (.obj p (.row c)::own) ro Φ):Zx M false (.op (.gS es bytes z (I (Int.ofNat n)) (I (Int.ofNat n))) k) K own ro Φ
 |lnS {id o n c:Nat}{k K own ro Φ}(h:Zx M false (k (I (Int.ofNat n))) K own ro Φ):Zx M false (.op (.len false (.sl id o n c)) k) K own ro Φ
 |lnO {id o n c s:Nat}{k K own ro Φ}(h:Zx M false (k (I (Int.ofNat n))) K own ro Φ):Zx M false (.op (.len false (.op id o n c s)) k) K own ro Φ
 |lnN {k K own ro Φ}(h:Zx M false (k (I 0)) K own ro Φ):Zx M false (.op (.len false Ns) k) K own ro Φ
 |lnW {v}{es:Nat}{L k K own ro Φ}(h1:Ls own v es L)(h:Zx M false (k (I (Int.ofNat L.length))) K own ro Φ):Zx M false (.op (.len false v) k) K own ro Φ
 |XX [dQ]{n:Nat}{z c c' ps k K own ro Φ}(e:fX (cD z n) ps=some c)(ha:wE c c')(e2:(Nat.beq (ca c) n&&Nat.beq (ca z) 1)=true)(h:∀v:AV,odd v=false->v.cells=[v]->AV.beq v v=true->Zx M false (k v) K (.sl v 1 (c'.map λa=>[a])::own) ro Φ):Zx M false (.op (.nu 1 n z ps) k) K own ro Φ
 |bsl {es n:Nat}{z c c' ps k K own ro Φ}(e:fX (cD z n) ps=some c)(ha:wE c c')(e2:(Nat.beq (ca c) (Nat.mul n es)&&Nat.beq (ca z) es)=true)(h:∀p:Nat,Zx M false (k (.sl p 0 n n)) K (.obj p (.row c')::own) ro Φ):Zx M false (.op (.nu es n z ps) k) K own ro Φ
 |cvI {κ}{a:Int}{k K own ro Φ}(e:bP (-9223372036854775808<=a/\a<=9223372036854775807))(h:Zx M false (k (I a)) K own ro Φ):Zx M false (.op (.conv .i64 (Z κ a)) k) K own ro Φ
 |cvU {κ}{a:Int}{k K own ro Φ}(h:Zx M false (k (U (a%18446744073709551616))) K own ro Φ):Zx M false (.op (.conv .u64 (Z κ a)) k) K own ro Φ
 |cvV {κ}{a:Int}{k K own ro Φ}(h:Zx M false (k (Z .u32 (a%4294967296))) K own ro Φ):Zx M false (.op (.conv .u32 (Z κ a)) k) K own ro Φ
 |XY {t p o:Nat}{n:Bool}{k K own ro Φ}(e:bP (jm M.P t=1))(h:Zx M false (k (B n)) K own ro Φ):Zx M false (.op (.eq t n (.ptr p o) Np) k) K own ro Φ
 |XZ {t:Nat}{n:Bool}{k K own ro Φ}(e:bP (jm M.P t=1))(h:Zx M false (k (B (!n))) K own ro Φ):Zx M false (.op (.eq t n Np Np) k) K own ro Φ
 |X0 {t:Nat}{n:Bool}{f fa fc k K own ro Φ}(e:bP (jm M.P t=4))(h:Zx M false (k (B n)) K own ro Φ):Zx M false (.op (.eq t n (.fn f fa fc) Nf) k) K own ro Φ
 |X1 {t:Nat}{n:Bool}{k K own ro Φ}(e:bP (jm M.P t=4))(h:Zx M false (k (B (!n))) K own ro Φ):Zx M false (.op (.eq t n Nf Nf) k) K own ro Φ
 |eqB {t:Nat}{n a b:Bool}{k K own ro Φ}(e:bP (M.P.underlying t=some .bool))(h:Zx M false (.op (.mv (B (if n then !(a==b) else(a==b)))) k) K own ro Φ):Zx M false (.op (.eq t n (B a) (B b)) k) K own ro Φ
 |ld {p o:Nat}{c v k K own ro Φ}(h1:Lk own ro p c)(h2:FI c o v)(h:Zx M false (k v) K own ro Φ):Zx M false (.op (.load 1 false (.ptr p o)) k) K own ro Φ
 |ldn {p o n:Nat}{c l k K own ro Φ}(h1:Lk own ro p c)(h2:Cut o n c l)(h:Zx M false (k (.agg l)) K own ro Φ):Zx M false (.op (.load n true (.ptr p o)) k) K own ro Φ
 |sta {p o n:Nat}{c c' vs ws k K own ab ro Φ}(ha:wE ws vs)(h0:Lo own p c)(h2:Sr c o vs c')(h1:Up own p c c' ab)(hn:ca vs=n)(h:Zx M false (k uv) K ab ro Φ):Zx M false (.op (.store n (.ptr p o) (.agg ws)) k) K own ro Φ
 |st {p o:Nat}{c c' v w k K own ab ro Φ}(ha:wD w v)(ho:odd v=false)(hc:v.cells=[v])(h0:Lo own p c)(h2:Sr c o [v] c')(h1:Up own p c c' ab)(h:Zx M false (k uv) K ab ro Φ):Zx M false (.op (.store 1 (.ptr p o) w) k) K own ro Φ
 |alloc {c c' k K own ro Φ}(ha:wE c c')(h:∀p:Nat,Zx M false (k (.ptr p 0)) K (.obj p (.row c')::own) ro Φ):Zx M false (.op (.alloc c) k) K own ro Φ
 |X2 [Mc]{c c' k K own ro Φ}(ha:wE c c')(h:∀p:Nat,Zx M false (k (.ptr p 0)) K own (.pt p 0 c'::ro) Φ):Zx M false (.op (.box (.agg c)) k) K own ro Φ
 |X3 [Mc]{x w k K own ro Φ}(ha:wD w x)(ho:odd x=false)(hc:x.cells=[x])(h:∀p:Nat,Zx M false (k (.ptr p 0)) K own (.pt p 0 [x]::ro) Φ):Zx M false (.op (.box w) k) K own ro Φ
 |X4 {c c' k K own ro Φ}(ha:wE c c')(h:∀p:Nat,Zx M false (k (.ptr p 0)) K (.obj p (.row c')::own) ro Φ):Zx M false (.op (.box (.agg c)) k) K own ro Φ
 |box {x w k K own ro Φ}(ha:wD w x)(ho:odd x=false)(hc:x.cells=[x])(h:∀p:Nat,Zx M false (k (.ptr p 0)) K (.obj p (.row [x])::own) ro Φ):Zx M false (.op (.box w) k) K own ro Φ
 |call {f f' args Md k K own ro Φ}(hf:wD f f')(ha:wE args Md)(h:Zx M true (.call f' Md k) K own ro Φ):Zx M false (.call f args k) K own ro Φ
 |vc {f args}{P:Prop}{v}[c:VC M f args P v]{k K own ro Φ}(hp:bP P)(h:Zx M false (k v) K own ro Φ):Zx M true (.call f args k) K own ro Φ
 |sc {f args}{P:Prop}{v own ab}[c:SC M f args own P v ab]{k K ro Φ}(hp:bP P)(h:Zx M false (k v) K ab ro Φ):Zx M true (.call f args k) K own ro Φ
 |nc {f args}{P:Prop}{Q}[c:NC M f args P Q]{k K own ro Φ}(hp:bP P)(h:∀(p:Nat) (l:List Own),Q p l->Zx M false (k (.ptr p 0)) K (l++own) ro Φ):Zx M true (.call f args k) K own ro Φ
 |mvc {t f:Nat}{name:String}[c0:nj M t name f]{v r args}{P:Prop}[c:VC M (.fn (.func f) [] []) (v::args) P r]{k K own ro Φ}(hp:bP P)(h:Zx M false (k r) K own ro Φ):Zx M true (.call (.fn (.method name) [] []) (.iface t v::args) k) K own ro Φ
 |msc {t f:Nat}{name:String}[c0:nj M t name f]{v r args}{P:Prop}{own ab}[c:SC M (.fn (.func f) [] []) (v::args) own P r ab]{k K ro Φ}(hp:bP P)(h:Zx M false (k r) K ab ro Φ):Zx M true (.call (.fn (.method name) [] []) (.iface t v::args) k) K own ro Φ
 |ns {f args}{P:Prop}{L own}[c:NS M f args own P L]{k K ro Φ}(hp:bP P)(h:∀v:AV,odd v=false->v.cells=[v]->AV.beq v v=true->Zx M false (k v) K (.sl v 1 L::own) ro Φ):Zx M true (.call f args k) K own ro Φ
 |inl {f:Nat}[cK f]{fa args fc l b k K own ro Φ}(hk:M.kn.v f (fa++(args++fc))=none)(hb:M.iT f=some b)(hl:wE (fa++(args++fc)) l)(h:Zx M false (b l) (.call k::K) own ro Φ):Zx M true (.call (.fn (.func f) fa fc) args k) K own ro Φ
 |ydc {p m:Nat}{args b k K own ro Φ}(h1:Uo own p (.loop .ready none m b) (.loop .ready none m b) own)(hl:ca args=m)(h:Zx M false (b (.yd p::args)) (.yd p k::K) own ro Φ):Zx M true (.call (.yd p) args k) K own ro Φ
 |mth {t f:Nat}{name:String}[c:nj M t name f][cK f]{v args l b k K own ro Φ}(hk:M.kn.v f (v::args)=none)(hb:M.iT f=some b)(hl:wE (v::args) l)(h:Zx M false (b l) (.call k::K) own ro Φ):Zx M true (.call (.fn (.method name) [] []) (.iface t v::args) k) K own ro Φ
 |z {n:Bool}{x K own ro Φ}(h:bP (Vx M x K own ro Φ)):Zx M n x K own ro Φ
section
variable{M:cP}{own ab:List Own}{ro:List aI}{Φ:gz}{K:List Kf}{k:AV->AC}{S:AH}{B0:AH}{W:List Nat}{Q:gG}
theorem FI.ok {c}{o:Nat}{v}(h:FI c o v):zE c o=some v:=by rw[oF];exact h.eq
theorem HG {P}{t p o:Nat}(e:jm P t=1):zD P t (.ptr p o) Np=some false:=by unfold zD;rw[e];rfl
theorem NM {P}{t:Nat}(e:jm P t=1):zD P t Np Np=some true:=by unfold zD;rw[e];rfl
theorem NN {P}{t:Nat}{f a b}(e:jm P t=4):zD P t (.fn f a b) Nf=some false:=by unfold zD;rw[e];rfl
theorem NO {P}{t:Nat}(e:jm P t=4):zD P t Nf Nf=some true:=by unfold zD;rw[e];rfl
theorem yK {t:Nat}{n b:Bool}{x y}(e:zD M.P t x y=some b)(h:wp M (k (B (if n then !b else b))) S Q):wp M (.op (.eq t n x y) k) S Q:=by
 refine ah (v:=B (if n then !b else b)) (S1:=S) ?_ h;show eU (Fy M.P t n x y) S=_;unfold Fy;rw[e];cases n<;>rfl
theorem Lk.at {p:Nat}{c}(h:Lk own ro p c)(H:Cx B0 W S own ro):∃d,S.cells? p=some d/\c.length<=d.length/\d.take c.length=c:=h.cells H.oh H.rh
theorem Lk.nth {p o:Nat}{c v}(h:Lk own ro p c)(h2:FI c o v)(H:Cx B0 W S own ro):∃d,S.cells? p=some d/\d[o]?=some v:=by
 obtain⟨d,h1,h3,h4⟩:=h.at H;refine⟨d,h1,?_⟩;have:=h2.eq;rw[<-h4,List.getElem?_take] at this;split at this;.exact this
 .cases this
theorem Lk.cut {p o n:Nat}{c l}(h:Lk own ro p c)(h2:Cut o n c l)(H:Cx B0 W S own ro):∃d,S.cells? p=some d/\o+n<=d.length/\(d.drop o).take n=l:=by obtain⟨d,h1,h3,h4⟩:=h.at H;obtain⟨q1,q2⟩:=h2.eq;refine⟨d,h1,am,?_⟩;rw[<-q1,<-h4,List.drop_take,List.take_take,Nat.min_eq_left am]
theorem R9 {id off:Nat}{c v}(h1:S.cells? id=some c)(h2:c[off]?=some v):cT M.P S (.load 1 false (.ptr id off))=some v:=by show(match S.cells? id with|some c=>gh false c off 1|none=>none)=_;rw[h1];exact mD h2
theorem R_ {id off n:Nat}{c}(h1:S.cells? id=some c)(h2:off+n<=c.length):cT M.P S (.load n true (.ptr id off))=some (.agg ((c.drop off).take n)):=by show(match S.cells? id with|some c=>gh true c off n|none=>none)=_;rw[h1];exact pN h2
theorem xG (H:Cx B0 W S own ro){p o n:Nat}{c c' vs v}(hv:v.cells=vs)(ho:odd v=false)(h2:Sr c o vs c')(h1:Up own p c c' ab)(hn:vs.length=n)(h:∀S1,Cx B0 W S1 ab ro->wp M (k uv) S1 Q):wp M (.op (.store n (.ptr p o) v) k) S Q:=by obtain⟨i,hi,rfl⟩:=h1.at;obtain⟨q1,q2⟩:=h2.eq;refine gX H i hi ho (by rw[hv];exact hn) am λS1 H1=>?_;rw[hv,q1] at H1;exact h S1 H1
theorem Ch {κ Qw}{a:Int}{s:Nat}(e:Nat.ble s κ.bits=true):evalOp M.P (.bin .shr (Z κ a) (Z Qw (Int.ofNat s))) S=some (Z κ (a/2^s),S):=by
 show eU (FQ (Z κ a) (Z Qw (Int.ofNat s))) S=_;have h0:Eh (Int.ofNat s) 0=false:=by rw[gj];simp
 have h1:min (Int.ofNat s).toNat κ.bits=s:=by have:=Nat.le_of_ble_eq_true e;simp;omega
 unfold FQ;simp only[h0];rw[h1,Int.fdiv_eq_ediv_of_nonneg _ (by exact Int.le_of_lt (Int.pow_pos am))];rfl
theorem Ci {κ}{a:Int}{s:Nat}(e:Nat.ble s 64=true):evalOp M.P (.bin .shl (U a) (Z κ (Int.ofNat s))) S=some (U (a*2^s%18446744073709551616),S):=by
 show eU (FP (U a) (Z κ (Int.ofNat s))) S=_;have h0:Eh (Int.ofNat s) 0=false:=by rw[gj];simp
 have h1:min (Int.ofNat s).toNat IntKind.u64.bits=s:=by have:=Nat.le_of_ble_eq_true e;show min s 64=s;omega
 unfold FP;simp only[h0];rw[h1,bx,IntKind.wrap_u64];rfl
theorem iW {a:Int}(h0:0<=a)(h1:a<18446744073709551616):(BitVec.ofInt IntKind.u64.bits a).toNat=a.toNat:=by obtain⟨n,rfl⟩:∃n:Nat,a=n:=⟨a.toNat,am⟩;show(BitVec.ofInt 64 (n:Int)).toNat=n;rw[BitVec.ofInt_natCast,BitVec.toNat_ofNat];exact Nat.mod_eq_of_lt am
theorem pS {a b:Int}(h1:0<=a)(h2:a<18446744073709551616)(h3:0<=b)(h4:b<18446744073709551616):evalOp M.P (.bin .and (U a) (U b)) S=some (U (yJ a b),S):=by show eU (FO (U a) (U b)) S=_;unfold FO;simp only[dB,asInt,mj,aV];have hor:a.toNat&&&b.toNat<18446744073709551616:=Nat.lt_of_le_of_lt Nat.and_le_left am;rw[BitVec.toNat_and,iW h1 h2,iW h3 h4,bx,IntKind.wrap_u64];show _=some (U ((a.toNat&&&b.toNat:Nat):Int),S);rw[Int.emod_eq_of_lt am am];rfl
theorem vE {a b:Int}(h1:0<=a)(h2:a<9223372036854775808)(h3:0<=b)(h4:b<9223372036854775808):evalOp M.P (.bin .and (I a) (I b)) S=some (I (yJ a b),S):=by show eU (FO (I a) (I b)) S=_;unfold FO;simp only[dB,asInt,mj,aV];have hor:a.toNat&&&b.toNat<=a.toNat:=Nat.and_le_left;have e1:(BitVec.ofInt IntKind.i64.bits a).toNat=a.toNat:=iW h1 am;have e2:(BitVec.ofInt IntKind.i64.bits b).toNat=b.toNat:=iW h3 am;rw[BitVec.toNat_and,e1,e2,wrap64 am am];rfl
theorem Sa {a b:Int}(h1:0<=a)(h2:a<18446744073709551616)(h3:0<=b)(h4:b<18446744073709551616):evalOp M.P (.bin .or (U a) (U b)) S=some (U (nq a b),S):=by
 show eU (Wj (U a) (U b)) S=_;unfold Wj;simp only[dB,asInt,mj,aV];have hor:a.toNat|||b.toNat<2^64:=Nat.or_lt_two_pow am am
 rw[BitVec.toNat_or,iW h1 h2,iW h3 h4,bx,IntKind.wrap_u64];show _=some (U ((a.toNat|||b.toNat:Nat):Int),S);rw[Int.emod_eq_of_lt am am];rfl
theorem Kv {a:Int}(h1:0<=a)(h2:a<18446744073709551616):evalOp M.P (.bin .andNot (U a) (U 9223372036854775808)) S=some (U (a%9223372036854775808),S):=by
 show eU (qx (U a) (U 9223372036854775808)) S=_;unfold qx;simp only[dB,asInt,mj,aV];obtain⟨n,rfl⟩:∃n:Nat,a=n:=⟨a.toNat,am⟩;have e:(BitVec.ofInt IntKind.u64.bits (n:Int)&&&~~~BitVec.ofInt IntKind.u64.bits 9223372036854775808).toNat=n%9223372036854775808:=by rw[BitVec.toNat_and,iW am am];have e2:(~~~BitVec.ofInt IntKind.u64.bits 9223372036854775808).toNat=2^63-1:=ce;rw[e2,Int.toNat_natCast,Nat.and_two_pow_sub_one_eq_mod]
 rw[e,bx,IntKind.wrap_u64];have e3:(((n%9223372036854775808:Nat):Int))%18446744073709551616=(n:Int)%9223372036854775808:=am;rw[e3];rfl
theorem EU {a:Int}(h1:0<=a)(h2:a<18446744073709551616):evalOp M.P (.bin .andNot (U a) (U 65535)) S=some (U (a-a%65536),S):=by
 show eU (qx (U a) (U 65535)) S=_;unfold qx;simp only[dB,asInt,mj,aV];obtain⟨n,rfl⟩:∃n:Nat,a=n:=⟨a.toNat,am⟩;have hn:n<2^64:=am;have e:(BitVec.ofInt IntKind.u64.bits (n:Int)&&&~~~BitVec.ofInt IntKind.u64.bits 65535).toNat=n-n%65536:=by
  rw[BitVec.toNat_and,iW am am];have e2:(~~~BitVec.ofInt IntKind.u64.bits 65535).toNat=(2^48-1)*2^16:=ce;rw[e2,Int.toNat_natCast];have e3:n-n%65536=(n/2^16)*2^16:=am;rw[e3];apply Nat.eq_of_testBit_eq;intro i;rw[Nat.testBit_and,Nat.testBit_mul_two_pow,Nat.testBit_mul_two_pow,Nat.testBit_div_two_pow,Nat.testBit_two_pow_sub_one];by_cases hi:16<=i
  .rw[show i-16+16=i by omega];by_cases h3:i<64
   .have:i-16<48:=am;simp[hi,this]
   .have:n.testBit i=false:=Nat.testBit_lt_two_pow (Nat.lt_of_lt_of_le hn (Nat.pow_le_pow_right am am));simp[this]
  .simp[hi]
 rw[e,bx,IntKind.wrap_u64];have e3:(((n-n%65536:Nat):Int))%18446744073709551616=(n:Int)-(n:Int)%65536:=am;rw[e3];rfl
theorem vF {κ Qw}{a b:Int}(h:fL κ a=b):evalOp M.P (.conv κ (Z Qw a)) S=some (Z κ b,S):=by rw[<-h];rfl
theorem HH:∀l:List AV,(l.map λa=>[a]).flatten=l
 |[]=>rfl
 |a::l=>by rw[List.map_cons,List.flatten_cons,HH l];rfl
theorem Lo.mem {p:Nat}{c}(h:Lo own p c):Own.obj p (.row c)∈own:=by
 induction h with
 |hd=>exact List.Mem.head _
 |tl _ ih=>exact List.mem_cons_of_mem _ ih
 |ap _ ih=>exact List.mem_append_right _ ih
theorem xH (H:Cx B0 W S own ro){id o n cap:Nat}{c l}(h1:Lo own id c)(h2:Cut o n c l):elems S 1 (.sl id o n cap)=some (l.length,l):=by
 have g:=ef (H.oh _ h1.mem);obtain⟨q1,q2⟩:=h2.eq;have hl:l.length=n:=by rw[<-q1,List.length_take,List.length_drop];omega
 show(match S.cells? id with|some c=>if Nat.ble (o+n*1) (ca c) then some (n,kC (n*1) (kB o c)) else none|none=>none)=_;have hb:Nat.ble (o+n*1) (ca c)=true:=by rw[bK];exact dC am
 simp only[g,hb,if_true];rw[dK,eo,Nat.mul_one,q1,hl]
theorem oK {a:Int}(h:0<=a)(n:Nat):yJ a (2^n-1)=a%2^n:=by
 obtain⟨m,rfl⟩:∃m:Nat,a=m:=⟨a.toNat,am⟩;unfold yJ;have e:((2:Int)^n-1).toNat=2^n-1:=by have:((2:Int)^n)=((2^n:Nat):Int):=ac;rw[this];have:=Nat.one_le_two_pow (n:=n);omega
 rw[e,Int.toNat_natCast,Nat.and_two_pow_sub_one_eq_mod];simp
theorem umask {a c d:Int}(h:0<=a)(n:Nat)(hc:c=2^n-1/\d=2^n):yJ a c=a%d:=by rw[hc.1,hc.2];exact oK h n
theorem rb:∀{L:List (List AV)} {es:Nat} (h:∀x∈L,x.length=es) (a:Nat),(L.drop a).flatten=L.flatten.drop (a*es)
 |[],_,_,a=>ac
 |_::_,_,_,0=>ac
 |x::L,es,h,a+1=>by have hx:=h x (List.Mem.head _);have ih:=rb (L:=L) (es:=es) (λy hy=>h y (List.mem_cons_of_mem _ hy)) a;have e:List.drop ((a+1)*es) x=[]:=List.drop_eq_nil_of_le (by rw[hx,Nat.succ_mul];omega);rw[List.drop_succ_cons,ih,List.flatten_cons,List.drop_append,hx,e,List.nil_append];congr 1;rw[Nat.succ_mul];omega
theorem w8 {L:List (List AV)}{es:Nat}(h:∀x∈L,x.length=es){a:Nat}(ha:a<=L.length):(L.take a).flatten=L.flatten.take (a*es):=by
 have e:L.flatten=(L.take a).flatten++(L.drop a).flatten:=by rw[<-List.flatten_append,List.take_append_drop]
 have hl:=bB (L:=L.take a) (es:=es) λx hx=>h x (List.mem_of_mem_take hx);rw[List.length_take,Nat.min_eq_left ha] at hl;rw[e,<-hl,List.take_left]
theorem rj {a n:Nat}(h:a<=n):below a (Nat.succ n)=some a:=by unfold below;rw[dC am]
theorem eI {S v}{es:Nat}{L}(h:iV S v es L):odd v=false/\v.cells=[v]/\AV.beq v v=true:=by
 rcases h with⟨rfl,_⟩|⟨id,off,c,h0,_⟩;.exact⟨rfl,rfl,rfl⟩
 .rcases h0 with⟨_,_,_,rfl⟩|⟨_,_,_,rfl⟩<;>exact⟨rfl,rfl,by simp[AV.beq]⟩
theorem HI {M:cP}{S:AH}{v:AV}{es a:Nat}{L:List (List AV)}(h:Ju S v es L)(ha:a<=L.length):∃v',evalOp M.P (.i_ es v (some (I (Int.ofNat a))) none none) S=some (v',S)/\Ju S v' es (L.drop a)/\∀id∈eR v',id∈eR v:=by
 rcases h with⟨rfl,rfl⟩|⟨id,off,c,g0,g1,g2,g3⟩
 .obtain rfl:a=0:=by simpa using ha
  exact⟨Ns,rfl,.inl ⟨rfl,rfl⟩,λid bT=>bT⟩
 .have hn:(L.drop a).length=L.length-a:=List.length_drop ..;have zw:(c.drop (off+a*es)).take ((L.length-a)*es)=(L.drop a).flatten:=by rw[rb g3 a,<-g2,List.drop_take,List.drop_drop,Nat.sub_mul]
  have hg:∀x∈L.drop a,x.length=es:=λx hx=>g3 x (List.mem_of_mem_drop hx);rcases g0 with⟨cap,q1,q2,rfl⟩|⟨cm,q1,q2,rfl⟩
  .have hb:k8 (some (I (Int.ofNat a))) none none L.length cap=some (a,L.length,cap):=by have h1:gq (none:Option AV) cap cap=some cap:=rfl;have h2:gq (none:Option AV) L.length cap=some L.length:=rfl;have h3:gq (some (I (Int.ofNat a))) 0 L.length=some a:=rj ha;unfold k8;rw[h1];simp only[h2,h3];rfl
   refine⟨.sl id (if Nat.beq cap a then off else Nat.add off (Nat.mul a es)) (Nat.sub L.length a) (Nat.sub cap a),?_,.inr ⟨id,(if Nat.beq cap a then off else Nat.add off (Nat.mul a es)),c,.inl ⟨cap-a,by rw[hn];omega,?_,by rw[hn];rfl⟩,g1,?_,hg⟩,λj hj=>hj⟩
   .show eU (dV _ _ _ _ _) S=_;unfold dV;simp only[hb];rfl
   .split;.next e=>rw[Nat.eq_of_beq_eq_true e,Nat.sub_self,Nat.zero_mul];omega
    .have:a<=cap:=am;have:=Nat.mul_le_mul_right es this;rw[Nat.sub_mul];show off+a*es+_<=_;omega
   .rw[hn];split
    .next e=>have e1:=Nat.eq_of_beq_eq_true e;have e2:L.length-a=0:=am;rw[e2,Nat.zero_mul,List.take_zero,List.drop_eq_nil_of_le am];rfl
    .exact zw
  .have hb:k8 (some (I (Int.ofNat a))) none none L.length cm=some (a,L.length,cm):=by have h1:gq (none:Option AV) cm cm=some cm:=rfl;have h2:gq (none:Option AV) L.length cm=some L.length:=rfl;have h3:gq (some (I (Int.ofNat a))) 0 L.length=some a:=rj ha;unfold k8;rw[h1];simp only[h2,h3];rfl
   refine⟨.op id (Nat.add off (Nat.mul a es)) (Nat.sub L.length a) (Nat.sub cm a) es,?_,.inr ⟨id,Nat.add off (Nat.mul a es),c,.inr ⟨cm-a,by rw[hn];omega,?_,by rw[hn];rfl⟩,g1,by rw[hn];exact zw,hg⟩,λj hj=>hj⟩
   .show eU (dV _ _ _ _ _) S=_;unfold dV;simp only[hb,Nat.beq_refl];rfl
   .have:a<=cm:=am;have:=Nat.mul_le_mul_right es this;rw[Nat.sub_mul];show off+a*es+_<=_;omega
theorem HJ {M:cP}{S:AH}{v:AV}{es a:Nat}{L:List (List AV)}(h:Ju S v es L)(ha:a<=L.length):∃v',evalOp M.P (.i_ es v none (some (I (Int.ofNat a))) (some (I (Int.ofNat a)))) S=some (v',S)/\Ju S v' es (L.take a)/\∀id∈eR v',id∈eR v:=by
 rcases h with⟨rfl,rfl⟩|⟨id,off,c,g0,g1,g2,g3⟩
 .obtain rfl:a=0:=by simpa using ha
  exact⟨Ns,rfl,.inl ⟨rfl,rfl⟩,λid bT=>bT⟩
 .have hn:(L.take a).length=a:=by rw[List.length_take,Nat.min_eq_left ha]
  have zw:(c.drop off).take (a*es)=(L.take a).flatten:=by rw[w8 g3 ha,<-g2,List.take_take,Nat.min_eq_left (Nat.mul_le_mul_right es ha)]
  have hg:∀x∈L.take a,x.length=es:=λx hx=>g3 x (List.mem_of_mem_take hx);have hB:∀cap,L.length<=cap->k8 none (some (I (Int.ofNat a))) (some (I (Int.ofNat a))) L.length cap=some (0,a,a):=λcap q1=>by have h1:gq (some (I (Int.ofNat a))) cap cap=some a:=rj am;have h2:gq (some (I (Int.ofNat a))) L.length a=some a:=rj (Nat.le_refl _);have h3:gq (none:Option AV) 0 a=some 0:=rfl;unfold k8;rw[h1];simp only[h2,h3];rfl
  have he:(if Nat.beq a 0=true then off else Nat.add off (Nat.mul 0 es))=off:=by
   split;.rfl
   .show off+0*es=off;omega
  rcases g0 with⟨cap,q1,q2,rfl⟩|⟨cm,q1,q2,rfl⟩
  .refine⟨.sl id off a a,?_,.inr ⟨id,off,c,.inl ⟨a,am,?_,by rw[hn]⟩,g1,by rw[hn];exact zw,hg⟩,λj hj=>hj⟩
   .show eU (dV _ _ _ _ _) S=_;unfold dV;simp only[hB cap q1];rw[he];rfl
   .have:=Nat.mul_le_mul_right es (show a<=cap by omega);omega
  .by_cases hc:cm=0
   .subst hc;obtain rfl:a=0:=am;refine⟨.op id off 0 0 es,?_,.inr ⟨id,off,c,.inr ⟨0,ac,am,ac⟩,g1,by rw[hn];exact zw,hg⟩,λj hj=>hj⟩;show eU (dV _ _ _ _ _) S=_;unfold dV;simp only[hB 0 q1,Nat.beq_refl];rfl
   .refine⟨.sl id off a a,?_,.inr ⟨id,off,c,.inl ⟨a,am,?_,by rw[hn]⟩,g1,by rw[hn];exact zw,hg⟩,λj hj=>hj⟩
    .show eU (dV _ _ _ _ _) S=_;unfold dV;have Vb:Nat.beq cm 0=false:=by cases cm with|zero=>exact absurd rfl hc|succ n=>rfl
     simp only[hB cm q1,Nat.beq_refl,Vb];rw[he];rfl
    .have:=Nat.mul_le_mul_right es (show a<=cm by omega);omega
theorem pT {S v}{es:Nat}{L}(h:Ju S v es L):iV S v es L:=by
 rcases h with h|⟨id,off,c,h0,h1,h2⟩;.exact .inl h
 .exact .inr ⟨id,off,c,h0,ef h1,h2⟩
theorem AA {c:List AV}:(c.map λa=>[a]).flatten=c:=by induction c with|nil=>rfl|cons a c ih=>rw[List.map_cons,List.flatten_cons,ih];rfl
theorem Zx.ok {n:Bool}{x:AC}(h:Zx M n x K own ro Φ):Vx M x K own ro Φ:=by
 induction h with
 |z h=>exact h.out
 |rc1 h ih=>exact λB W S H=>wp_ret ⟨rfl,ih B W S H⟩
 |rc0 h ih=>exact λB W S H=>wp_ret ⟨rfl,ih B W S H⟩
 |rc2 h ih=>exact λB W S H=>wp_ret ⟨rfl,ih B W S H⟩
 |rbn h ih=>exact λB W S H=>wp_ret (ih B W S H)
 |rbe h ih=>
  intro B W S H;refine wp_ret ?_;show(match Nat.beq _ _ with|true=>_|false=>_);rw[Nat.beq_refl];exact ih B W S H
 |rbx e h ih=>
  intro B W S H;obtain⟨t,vs,S',⟨n0,h1⟩,h2⟩:=ih B W S H;have:=h1 n0 (Nat.le_refl _);cases this;refine wp_ret ?_;show(match Nat.beq _ _ with|true=>_|false=>_);rw[e];exact h2
 |rby h ih=>
  intro B W S H;obtain⟨t,vs,S',⟨n0,h1⟩,h2⟩:=ih B W S H;cases h1 n0 (Nat.le_refl _);exact wp_ret h2
 |rbr h ih=>
  intro B W S H;obtain⟨t,vs,S',⟨n0,h1⟩,h2⟩:=ih B W S H;cases h1 n0 (Nat.le_refl _);exact wp_ret h2
 |rbg h ih=>
  intro B W S H;obtain⟨t,vs,S',⟨n0,h1⟩,h2⟩:=ih B W S H;cases h1 n0 (Nat.le_refl _);exact wp_ret h2
 |rfn h ih=>exact λB W S H=>wp_ret ⟨.inl rfl,ih B W S H⟩
 |rfr h ih=>exact λB W S H=>wp_ret ⟨.inr rfl,ih B W S H⟩
 |Ku h ih=>
  intro B W S H;exact wp_ret (.inl ⟨rfl,nQ (ih B W S H)⟩)
 |rle h ih=>
  intro B W S H;obtain⟨t,vs,S',⟨n0,h1⟩,h2⟩:=ih B W S H;cases h1 n0 (Nat.le_refl _);exact wp_ret (.inr ⟨ac,h2⟩)
 |rlr h ih=>
  intro B W S H;obtain⟨t,vs,S',⟨n0,h1⟩,h2⟩:=ih B W S H;cases h1 n0 (Nat.le_refl _);exact wp_ret (.inr ⟨ac,h2⟩)
 |@rrn p t kk outs vs _ _ _ _ _ h1 h ih=>
  intro B W S H;obtain⟨n,st,m,b,g1,g2,rfl⟩:=h1.at;have gm:=List.mem_of_getElem? g1;refine wp_ret ⟨rfl,st,t,m,b,H.oh _ gm,g2,?_⟩;have K2:=ih B W _ (H.other g1 (S1:=S.set p (.loop .exhausted t m b)) rfl λj hj=>by rw[AH.dc,if_neg hj]);cases t with
  |none=>exact K2
  |some t=>
   obtain⟨t,vs,S',⟨n0,q1⟩,q2⟩:=K2;cases q1 n0 (Nat.le_refl _);exact q2
 |ryn h1 h ih=>
  intro B W S H;obtain⟨n,g1,rfl⟩:=h1.at;exact wp_ret ⟨none,_,_,H.oh _ (List.mem_of_getElem? g1),ih B W _ (H.Dy g1 _)⟩
 |rye h1 h ih=>
  intro B W S H;obtain⟨n,g1,rfl⟩:=h1.at;exact wp_ret ⟨none,_,_,H.oh _ (List.mem_of_getElem? g1),ih B W _ (H.Dy g1 _)⟩
 |ryr h1 h ih=>
  intro B W S H;obtain⟨n,g1,rfl⟩:=h1.at;exact wp_ret ⟨none,_,_,H.oh _ (List.mem_of_getElem? g1),ih B W _ (H.Dy g1 _)⟩
 |@Ef nn f fa fc body kk outs _ _ _ _ h ih=>
  intro B W S H;refine Nu (by intro i e;cases e) ?_;obtain⟨t,vs,S',⟨n0,q1⟩,q2⟩:=ih S.next B W _ (H.jR (bn.new S _) (bU _ _) (by
   intro j hj;simp only[Own.ids,List.mem_singleton] at hj;subst hj;exact⟨Nat.le_refl _,ac⟩))
  have hc:∀n,n0<=n->∃v,cn M.P M.iT M.kn n (.fn f fa fc) [.yd S.next] (S.new (.loop .ready none nn body))=some (v,S')/\t=.normal/\vs=[v]:=by
   intro n hn;have:=q1 n hn;rw[nK] at this;unfold qB at this;split at this
   .next v S1 he=>cases this;exact⟨v,he,rfl,rfl⟩
   .cases this
  obtain⟨v0,Vl,rfl,rfl⟩:=hc n0 (Nat.le_refl _);obtain⟨_,st,dI,m,b,g1,g2,g3⟩:=q2;refine⟨v0,S',⟨n0,λn hn=>?_⟩,st,dI,m,b,g1,g2,g3⟩;obtain⟨v1,hv1,_,e⟩:=hc n hn;cases e;exact hv1
 |start h1 h ih=>
  intro B W S H;obtain⟨n,g1,rfl⟩:=h1.at;exact GY (H.oh _ (List.mem_of_getElem? g1)) (ih B W _ (H.Dy g1 _))
 |ydc h1 hl h ih=>
  intro B W S H;obtain⟨n,g1,_⟩:=h1.at;refine cw (Nv (H.oh _ (List.mem_of_getElem? g1)) (by rw[<-bK];exact hl) ?_);exact ih B W S H
 |@nc f args P Q c _ _ _ _ _ hp h ih=>
  intro B W S H;exact cw (az (c.ok hp.out _ _ B W S H) λr S1 ⟨p,l,q1,q2,q3⟩=>by
   subst q2;exact ih p l q1 B W S1 q3)
 |@ns f args P L own c _ _ ro _ hp h ih=>
  intro B W S H;refine cw (az (c.ok hp.out ro [] B W S (by rw[List.append_nil];exact H)) λr S1 H1=>?_);rw[List.append_nil] at H1;obtain⟨o1,o2,o3⟩:=eI (pT (H1.oh _ (List.Mem.head _)));exact ih r o1 o2 o3 B W S1 H1
 |@mvc t f name c0 v r args P c _ _ _ _ _ hp h ih=>
  intro B W S H;exact cw (jQ (c0.ok v) (az (c.ok hp.out S) λu S1 ⟨q1,q2⟩=>by
   subst q1;exact ih B W S1 (H.grow q2)))
 |@msc t f name c0 v r args P own ab c _ _ ro _ hp h ih=>
  intro B W S H;exact cw (jQ (c0.ok v) (az (c.ok hp.out ro [] B W S (by rw[List.append_nil];exact H)) λu S1 ⟨q1,H1⟩=>by
   subst q1;rw[List.append_nil] at H1;exact ih B W S1 H1))
 |@mth t f name c _ v args _ _ _ _ _ _ _ hk hb hl h ih=>
  intro B W S H;exact cw (jQ (c.ok v) (br (by simpa using hk) hb (by
   have e:([]++((v::args)++[]):List AV)=v::args:=ac;rw[e,hl.eq];exact ih B W S H)))
 |leaf ha h=>exact λB W S H=>wp_ret ⟨_,_,by rw[ha.eq];exact h.out,H⟩
 |bind h ih=>exact λB W S H=>wp_bind (ih B W S H)
 |fin h ih=>exact λB W S H=>Ca (ih B W S H)
 |loop h ih=>exact λB W S H=>wp_loop (nQ (ih B W S H))
 |Xs h ih=>exact λB W S H=>dO (ih B W S H)
 |Xt h ih=>exact λB W S H=>dP (ih B W S H)
 |Xv h1 h2 i1 i2=>exact λB W S H=>Hg (λe=>i1 e B W S H) (λe=>i2 e B W S H)
 |@Xu p _ _ _ _ _ _ _ h1 h2 i1 i2=>
  intro B W S H;by_cases hp:p;.rw[decide_eq_true hp];exact dO (i1 hp B W S H)
  .rw[decide_eq_false hp];exact dP (i2 hp B W S H)
 |NH h ih=>exact λB W S H=>cN (ih B W S H)
 |Xw h ih=>exact λB W S H=>eZ rfl (ih B W S H)
 |Xx h ih=>exact λB W S H=>eZ rfl (ih B W S H)
 |Xy h ih=>exact λB W S H=>fQ (ih B W S H)
 |@Xz p _ _ _ _ _ _ _ _ h1 h2 i1 i2=>
  by_cases hp:p;.rw[decide_eq_true hp];exact i1 hp
  .rw[decide_eq_false hp];exact i2 hp
 |@XA b _ _ _ _ _ _ _ h1 h2 i1 i2=>
  cases b with
  |true=>exact i1 rfl
  |false=>exact i2 rfl
 |XB h ih=>exact λB W S H=>dM (ih B W S H)
 |XC h ih=>exact λB W S H=>dm rfl (ih B W S H)
 |XD h ih=>exact λB W S H=>dm rfl (ih B W S H)
 |XE h ih=>exact λB W S H=>dN (ih B W S H)
 |@XF b _ _ _ _ _ _ _ _ h1 h2 i1 i2=>
  cases b with
  |true=>exact i1 rfl
  |false=>exact i2 rfl
 |XG h ih=>
  intro B W S H;obtain⟨t,vs,S',⟨n0,q1⟩,q2⟩:=ih B W S H;refine⟨t,vs,S',⟨n0,λn hn=>?_⟩,q2⟩;rw[<-q1 n hn];rename_i g _ _ _ _ _ _ _;cases g<;>rfl
 |XH h ih=>exact λB W S H=>nP rfl (ih B W S H)
 |XI h ih=>exact λB W S H=>nP rfl (ih B W S H)
 |XJ h ih=>exact λB W S H=>nP (by cases‹Bool›<;>rfl) (ih B W S H)
 |XK h1 h2 hb h ih=>
  intro B W S H;obtain⟨d,q1,q2⟩:=h1.nth h2 H;exact yD (R9 q1 q2) hb.out (ih B W S H)
 |XL h1 h2 hb h ih=>
  intro B W S H;obtain⟨d,q1,q2,q3⟩:=h1.cut h2 H;exact yD (R_ q1 q2) (by rw[q3];exact hb.out) (ih B W S H)
 |mvT h ih=>exact λB W S H=>ah rfl (ih B W S H)
 |mvF h ih=>exact λB W S H=>ah rfl (ih B W S H)
 |@mvD p d _ _ _ _ _ h1 h2 i1 i2=>
  intro B W S H;by_cases hp:p;.exact ah rfl (by rw[decide_eq_true hp];exact i1 hp B W S H)
  .exact ah rfl (by rw[decide_eq_false hp];exact i2 hp B W S H)
 |@mvB c _ _ _ _ _ h1 h2 i1 i2=>
  intro B W S H;cases c with
  |true=>exact ah rfl (i1 rfl B W S H)
  |false=>exact ah rfl (i2 rfl B W S H)
 |mv ha h ih=>exact λB W S H=>ah rfl (by rw[ha.eq];exact ih B W S H)
 |@not b _ _ _ _ _ h ih=>
  intro B W S H;obtain⟨t,vs,S',⟨n0,h1⟩,h2⟩:=ih B W S H;refine ah (v:=cG.B (!b)) (S1:=S) rfl ⟨t,vs,S',⟨n0,λn hn=>?_⟩,h2⟩;have:=h1 n hn;rw[iw] at this;exact this
 |pkT h ih=>exact λB W S H=>ah rfl (ih B W S H)
 |pkF h ih=>exact λB W S H=>ah rfl (ih B W S H)
 |@pkD p _ _ _ _ _ _ _ _ h1 h2 i1 i2=>
  intro B W S H;by_cases hp:p;.rw[decide_eq_true hp];exact ah rfl (i1 hp B W S H)
  .rw[decide_eq_false hp];exact ah rfl (i2 hp B W S H)
 |@pkB c _ _ _ _ _ _ _ h1 h2 i1 i2=>
  intro B W S H;cases c with
  |true=>exact ah rfl (i1 rfl B W S H)
  |false=>exact ah rfl (i2 rfl B W S H)
 |ex h1 h ih=>exact λB W S H=>ah (by show eU (zE _ _) S=_;rw[h1.ok];rfl) (ih B W S H)
 |R6 h1 h ih=>exact λB W S H=>ah (by show eU (gh true _ _ _) S=_;rw[pN h1.eq.2,h1.eq.1];rfl) (ih B W S H)
 |R7 h1 h ih=>exact λB W S H=>ah (by show eU (zE _ _) S=_;rw[h1.ok];rfl) (ih B W S H)
 |bld h1 ha h ih=>exact λB W S H=>ah (by show eU (kZ _ _) S=_;unfold kZ;rw[h1,ha.eq];rfl) (ih B W S H)
 |fad h ih=>exact λB W S H=>dx (ih B W S H)
 |nck e h ih=>exact λB W S H=>ah (by show eU (oE _) S=_;unfold oE;rw[e];rfl) (ih B W S H)
 |lss h ih=>
  intro B W S H;obtain⟨t,vs,S',⟨n0,h1⟩,h2⟩:=ih B W S H;exact ah G3 ⟨t,vs,S',⟨n0,λn hn=>by have:=h1 n hn;rw[iw] at this;exact this⟩,h2⟩
 |leq h ih=>
  intro B W S H;obtain⟨t,vs,S',⟨n0,h1⟩,h2⟩:=ih B W S H;exact ah G4 ⟨t,vs,S',⟨n0,λn hn=>by have:=h1 n hn;rw[iw] at this;exact this⟩,h2⟩
 |gtr h ih=>
  intro B W S H;obtain⟨t,vs,S',⟨n0,h1⟩,h2⟩:=ih B W S H;exact ah G5 ⟨t,vs,S',⟨n0,λn hn=>by have:=h1 n hn;rw[iw] at this;exact this⟩,h2⟩
 |geq h ih=>
  intro B W S H;obtain⟨t,vs,S',⟨n0,h1⟩,h2⟩:=ih B W S H;exact ah G6 ⟨t,vs,S',⟨n0,λn hn=>by have:=h1 n hn;rw[iw] at this;exact this⟩,h2⟩
 |eql h ih=>
  intro B W S H;obtain⟨t,vs,S',⟨n0,h1⟩,h2⟩:=ih B W S H;exact ah Du ⟨t,vs,S',⟨n0,λn hn=>by have:=h1 n hn;rw[iw] at this;exact this⟩,h2⟩
 |neq h ih=>
  intro B W S H;obtain⟨t,vs,S',⟨n0,h1⟩,h2⟩:=ih B W S H;exact ah G7 ⟨t,vs,S',⟨n0,λn hn=>by have:=h1 n hn;rw[iw] at this;exact this⟩,h2⟩
 |eqs h ih=>
  intro B W S H;obtain⟨t,vs,S',⟨n0,h1⟩,h2⟩:=ih B W S H;exact ah rfl ⟨t,vs,S',⟨n0,λn hn=>by have:=h1 n hn;rw[iw] at this;exact this⟩,h2⟩
 |Ee e ha h ih=>
  have he:=ha.eq;subst he;exact λB W S H=>ah (by show eU (xi _ _ _ _ _) S=_;rw[e];rfl) (ih B W S H)
 |add e h ih=>exact λB W S H=>dw e.out.1 e.out.2 (ih B W S H)
 |sub e h ih=>exact λB W S H=>l8 e.out.1 e.out.2 (ih B W S H)
 |mul e h ih=>exact λB W S H=>G8 (wrap64 e.out.1 e.out.2) (ih B W S H)
 |XM h ih=>exact λB W S H=>r_ (by rw[bx,IntKind.wrap_u64]) (ih B W S H)
 |XN h ih=>exact λB W S H=>vu (by rw[bx,IntKind.wrap_u64]) (ih B W S H)
 |shr e h ih=>exact λB W S H=>ah (Ch e) (ih B W S H)
 |shl e h ih=>exact λB W S H=>ah (Ci e) (ih B W S H)
 |HE e h ih=>exact λB W S H=>ah ((vE e.out.1 e.out.2 am am).trans (by rw[umask (d:=65536) e.out.1 16 ce])) (ih B W S H)
 |HF e h ih=>exact λB W S H=>ah ((pS e.out.1 e.out.2 am am).trans (by rw[umask (d:=65536) e.out.1 16 ce])) (ih B W S H)
 |NI e h ih=>exact λB W S H=>ah ((vE e.out.1 e.out.2 am am).trans (by rw[umask (d:=256) e.out.1 8 ce])) (ih B W S H)
 |NJ e h ih=>exact λB W S H=>ah ((pS e.out.1 e.out.2 am am).trans (by rw[umask (d:=256) e.out.1 8 ce])) (ih B W S H)
 |w6 e h ih=>exact λB W S H=>ah ((vE e.out.1 e.out.2 am am).trans (by rw[umask (d:=4294967296) e.out.1 32 ce])) (ih B W S H)
 |w7 e h ih=>exact λB W S H=>ah ((pS e.out.1 e.out.2 am am).trans (by rw[umask (d:=4294967296) e.out.1 32 ce])) (ih B W S H)
 |pQ e h ih=>exact λB W S H=>ah ((vE e.out.1 e.out.2 am am).trans (by rw[umask (d:=281474976710656) e.out.1 48 ce])) (ih B W S H)
 |pR e h ih=>exact λB W S H=>ah ((pS e.out.1 e.out.2 am am).trans (by rw[umask (d:=281474976710656) e.out.1 48 ce])) (ih B W S H)
 |and e h ih=>exact λB W S H=>ah (pS e.out.1.1 e.out.1.2 e.out.2.1 e.out.2.2) (ih B W S H)
 |XO e h ih=>exact λB W S H=>ah (vE e.out.1.1 e.out.1.2 e.out.2.1 e.out.2.2) (ih B W S H)
 |or e h ih=>exact λB W S H=>ah (Sa e.out.1.1 e.out.1.2 e.out.2.1 e.out.2.2) (ih B W S H)
 |XP e h ih=>exact λB W S H=>ah (Kv e.out.1 e.out.2) (ih B W S H)
 |NK e h ih=>exact λB W S H=>ah (EU e.out.1 e.out.2) (ih B W S H)
 |XQ h ih=>exact λB W S H=>r_ (by rw[bx,IntKind.wrap_u32]) (ih B W S H)
 |XR h ih=>exact λB W S H=>vu (by rw[bx,IntKind.wrap_u32]) (ih B W S H)
 |rem e h ih=>exact λB W S H=>G9 (Int.ne_of_gt e.out.2) (by rw[Int.tmod_eq_emod_of_nonneg e.out.1];exact ih B W S H)
 |@quo a b _ _ _ _ _ e h ih=>
  exact λB W S H=>Nz (c:=a/b) (Int.ne_of_gt e.out.2.1) (by
   have h1:a/b<=a:=Int.ediv_le_self b e.out.1;have h0:0<=a/b:=Int.ediv_nonneg e.out.1 (Int.le_of_lt e.out.2.1);have h3:=e.out.2.2;rw[Int.tdiv_eq_ediv_of_nonneg e.out.1,bx,IntKind.wrap_u64];omega) (ih B W S H)
 |@min2 κ a b _ _ _ _ _ h ih=>
  exact λB W S H=>ah (v:=Z κ (min a b)) (by
   show eU (some (AV.sc (.int κ (if Eh b a then b else a)))) S=_;rw[gj,Int.min_def];by_cases hb:b<a;.rw[decide_eq_true hb,if_pos rfl,if_neg am];rfl
   .rw[decide_eq_false hb,if_neg ac,if_pos am];rfl) (ih B W S H)
 |pad e h ih=>exact λB W S H=>ah (by show eU (nw _ _ _ _) S=_;rw[e];rfl) (ih B W S H)
 |NL e h ih=>exact λB W S H=>ah (by show eU (gi _ _ _) S=_;rw[e];rfl) (ih B W S H)
 |asl e h ih=>exact λB W S H=>ah (by show eU (kD _ _ _ _ _ _) S=_;rw[e];rfl) (ih B W S H)
 |lnS h ih=>exact λB W S H=>ah rfl (ih B W S H)
 |lnO h ih=>exact λB W S H=>ah rfl (ih B W S H)
 |lnN h ih=>exact λB W S H=>ah rfl (ih B W S H)
 |lnW h1 h ih=>
  intro B W S H;refine ah (S1:=S) ?_ (ih B W S H);rcases H.oh _ h1.mem with⟨rfl,rfl⟩|⟨id,off,c,g1,_⟩;.rfl
  .rcases g1 with⟨cap,_,_,rfl⟩|⟨cH,_,_,rfl⟩<;>rfl
 |@XS v x ii _ P c _ _ _ _ hp h ih=>
  intro B W S H;obtain⟨L,hm,j,rfl,g⟩:=c.ok hp.out;have hj:=(List.getElem?_eq_some_iff.1 g).1;rcases H.oh _ hm with⟨rfl,rfl⟩|⟨id,off,c,g1,g2,g3,g4⟩;.simp at hj
  .refine ah (q_ g1 hj) (ah (ju (ef g2) ?_) (ih B W S H));have:=jY g4 g;rw[<-g3,List.drop_take,List.take_take] at this;have h5:(([x]:List AV))[0]?=some x:=rfl;rw[<-this,List.getElem?_take,List.getElem?_drop,List.getElem?_drop] at h5;split at h5;.simpa using h5
   .cases h5
 |@ldS v x j L _ _ _ _ _ h1 h2 h ih=>
  intro B W S H;have g:=h2.eq;have hj:=(List.getElem?_eq_some_iff.1 g).1;rcases H.oh _ h1.mem with⟨rfl,rfl⟩|⟨id,off,c,g1,g2,g3,g4⟩;.simp at hj
  .refine ah (q_ g1 hj) (ah (ju (ef g2) ?_) (ih B W S H));have:=jY g4 g;rw[<-g3,List.drop_take,List.take_take] at this;have h5:(([x]:List AV))[0]?=some x:=rfl;rw[<-this,List.getElem?_take,List.getElem?_drop,List.getElem?_drop] at h5;split at h5;.simpa using h5
   .cases h5
 |@apN bytes id o n cap c l _ _ _ _ _ h1 h2 e h ih=>
  intro B W S H;have hx:=xH (cap:=cap) H h1 h2;obtain⟨v1,S1,q1,q2,q3,q4,q5⟩:=nW (M:=M) (bytes:=bytes) (L:=[]) (N:=l.map λa=>[a]) (.inl ⟨rfl,rfl⟩) (by rw[hx,HH,List.length_map]) ac (by rw[List.length_map,List.length_nil,Nat.zero_add];exact e.out.1) (by rw[List.length_map,List.length_nil,Nat.zero_add];exact e.out.2) (λid bT=>by simp[eR] at bT);refine ah q1 (ih v1 B W S1 (H.jR ⟨q3,λid bT=>q4 id bT (by simp[eR])⟩ (by rw[List.nil_append] at q2;exact q2) λid bT=>?_));obtain⟨r1,r2⟩:=q5 id bT;exact⟨r2.resolve_left (by simp[eR]),r1⟩
 |@ap1 v bytes id o n cap c l L L' ab _ _ _ _ _ h0 h1 h2 hl e h3 h ih=>
  intro B W S H;have hx:=xH (cap:=cap) H h1 h2;obtain⟨i,hi,_⟩:=(h3 v).at;have hm:=List.mem_of_getElem? hi;obtain⟨v1,S1,q1,q2,q3,q4,q5⟩:=nW (M:=M) (bytes:=bytes) (L:=L) (N:=l.map λa=>[a]) (H.oh _ hm) (by rw[hx,HH,List.length_map]) ac (by rw[List.length_map];exact e.out.1) (by rw[List.length_map];exact e.out.2) (λid bT=>(H.oi _ hm id bT).1);obtain⟨i,hi,hs⟩:=(h3 v1).at;have K2:=H.step hi q3 q4 (x':=.sl v1 1 L') (by rw[<-hl];exact q2) q5;rw[<-hs] at K2;exact ah q1 (ih v1 B W S1 K2)
 |@mks es bytes n z c _ _ _ _ _ e e2 hc h ih=>
  intro B W S H;have he:=hc.eq;subst he;refine ah (v:=.sl S.next 0 n n) (S1:=S.new (.row (cD z n))) ?_ (ih S.next B W _ (H.jR (bn.new S _) (bU _ _) ?_))
  .show jI es bytes z (I (Int.ofNat n)) (I (Int.ofNat n)) S=_;unfold jI;have hn:nat? (Int.ofNat n)=some n:=rfl;simp only[asInt,mj,hn];rw[Bool.and_eq_true] at e;have h3:=Nat.le_of_ble_eq_true e2;have e4:(Nat.ble n n&&Nat.ble (Nat.mul bytes n) 140737488355328&&Nat.ble n 9223372036854775807&&Nat.beq (ca z) es)=true:=by rw[dC (Nat.le_refl n),dC (by omega:n<=9223372036854775807),e.2];have:Nat.ble (Nat.mul bytes n) 140737488355328=true:=e.1;rw[this];rfl
   rw[e4];rfl
  .intro j hj;simp only[Own.ids,List.mem_singleton] at hj;subst hj;simp
 |@XX _ n z c c' ps _ _ _ _ _ e ha e2 h ih=>
  have he:=ha.eq;subst he;intro B W S H;refine ah (v:=.sl S.next 0 n n) (S1:=S.new (.row c)) ?_ (ih (.sl S.next 0 n n) rfl rfl (by simp[AV.beq]) B W (S.new (.row c)) (H.jR (S1:=S.new (.row c)) (bn.new S _) (x:=.sl (.sl S.next 0 n n) 1 (c.map λa=>[a])) ?_ ?_))
  .show jn _ _ _ _ S=_;unfold jn;rw[e];have e3:(Nat.beq (ca c) (Nat.mul n 1)&&Nat.beq (ca z) 1)=true:=by rw[show Nat.mul n 1=n from Nat.mul_one n];exact e2
   simp only[e3];rfl
  .have hn:c.length=n:=by have:=(Bool.and_eq_true_iff.1 e2).1;rw[bK] at this;exact Nat.eq_of_beq_eq_true this
   exact .inr ⟨S.next,0,c,.inl ⟨n,by rw[List.length_map];omega,am,by rw[List.length_map,hn]⟩,bU _ _,by rw[List.length_map,AA,Nat.mul_one,List.drop_zero,List.take_length],ac⟩
  .intro j hj;have:j=S.next:=by simpa[Own.ids,eR] using hj
   subst this;simp
 |@apW v w bytes L N L' ab _ _ _ _ _ h0 h1 hl e h3 h ih=>
  intro B W S H;have hx:=pP (pT (H.oh _ h1.mem));have hN:∀y∈N,y.length=1:=by
   rcases H.oh _ h1.mem with⟨_,rfl⟩|⟨_,_,_,_,_,_,g⟩;.simp
   .exact g
  obtain⟨i,hi,_⟩:=(h3 v).at;have hm:=List.mem_of_getElem? hi;obtain⟨v1,S1,q1,q2,q3,q4,q5⟩:=nW (M:=M) (bytes:=bytes) (L:=L) (N:=N) (H.oh _ hm) hx hN e.out.1 e.out.2 (λid bT=>(H.oi _ hm id bT).1);obtain⟨i,hi,hs⟩:=(h3 v1).at;have K2:=H.step hi q3 q4 (x':=.sl v1 1 L') (by rw[<-hl];exact q2) q5;rw[<-hs] at K2;obtain⟨o1,o2,o3⟩:=eI (pT q2);exact ah q1 (ih v1 o1 o2 o3 B W S1 K2)
 |@XT w bytes N _ _ _ _ _ h1 e h ih=>
  intro B W S H;have hx:=pP (pT (H.oh _ h1.mem));have hN:∀y∈N,y.length=1:=by
   rcases H.oh _ h1.mem with⟨_,rfl⟩|⟨_,_,_,_,_,_,g⟩;.simp
   .exact g
  obtain⟨v1,S1,q1,q2,q3,q4,q5⟩:=nW (M:=M) (bytes:=bytes) (L:=[]) (N:=N) (.inl ⟨rfl,rfl⟩) hx hN (by rw[List.length_nil,Nat.zero_add];exact e.out.1) (by rw[List.length_nil,Nat.zero_add];exact e.out.2) (λid bT=>by simp[eR] at bT);obtain⟨o1,o2,o3⟩:=eI (pT q2);refine ah q1 (ih v1 o1 o2 o3 B W S1 (H.jR ⟨q3,λid bT=>q4 id bT (by simp[eR])⟩ (by rw[List.nil_append] at q2;exact q2) λid bT=>?_));obtain⟨r1,r2⟩:=q5 id bT;exact⟨r2.resolve_left (by simp[eR]),r1⟩
 |@XU v es a L L' ab _ _ _ _ _ h0 ha hl h3 h ih=>
  intro B W S H;subst hl;obtain⟨i,hi,_⟩:=(h3 v).at;have hm:=List.mem_of_getElem? hi;obtain⟨v1,q1,q2,q3⟩:=HI (M:=M) (H.oh _ hm) (Nat.le_of_ble_eq_true ha);obtain⟨i,hi,hs⟩:=(h3 v1).at;have K2:=H.step hi (Nat.le_refl _) (λ_ _ _=>rfl) (x':=.sl v1 es (L.drop a)) q2 (λid bT=>⟨(H.oi _ hm id (q3 id bT)).1,.inl (q3 id bT)⟩);rw[<-hs] at K2;obtain⟨o1,o2,o3⟩:=eI (pT q2);exact ah q1 (ih v1 o1 o2 o3 B W S K2)
 |@R8 v es a L L' ab _ _ _ _ _ h0 ha hl h3 h ih=>
  intro B W S H;subst hl;obtain⟨i,hi,_⟩:=(h3 v).at;have hm:=List.mem_of_getElem? hi;obtain⟨v1,q1,q2,q3⟩:=HJ (M:=M) (H.oh _ hm) (Nat.le_of_ble_eq_true ha);obtain⟨i,hi,hs⟩:=(h3 v1).at;have K2:=H.step hi (Nat.le_refl _) (λ_ _ _=>rfl) (x':=.sl v1 es (L.take a)) q2 (λid bT=>⟨(H.oi _ hm id (q3 id bT)).1,.inl (q3 id bT)⟩);rw[<-hs] at K2;obtain⟨o1,o2,o3⟩:=eI (pT q2);exact ah q1 (ih v1 o1 o2 o3 B W S K2)
 |@XV ty u c v _ _ _ _ _ h ih=>
  exact λB W S H=>ah (by show eU (iS _ _ _ _ _ _) S=_;rw[c.ok v];rfl) (ih B W S H)
 |@XW ty u c v _ _ _ _ _ h ih=>
  exact λB W S H=>ah (by show eU (iS _ _ _ _ _ _) S=_;rw[c.ok v];rfl) (ih B W S H)
 |bsl e ha e2 h ih=>
  have he:=ha.eq;subst he;intro B W S H;refine ah (v:=.sl S.next 0 _ _) (S1:=S.new (.row _)) ?_ (ih S.next B W _ (H.jR (bn.new S _) (bU _ _) ?_))
  .show jn _ _ _ _ S=_;unfold jn;rw[e];simp only[e2];rfl
  .intro j hj;simp only[Own.ids,List.mem_singleton] at hj;subst hj;simp
 |cvI e h ih=>exact λB W S H=>ah (vF (wrap64 e.out.1 e.out.2)) (ih B W S H)
 |cvU h ih=>exact λB W S H=>ah (vF (by rw[bx,IntKind.wrap_u64])) (ih B W S H)
 |cvV h ih=>exact λB W S H=>ah (vF (by rw[bx,IntKind.wrap_u32])) (ih B W S H)
 |@XY _ _ _ n _ _ _ _ _ e h ih=>
  exact λB W S H=>yK (HG e.out) (by cases n<;>exact ih B W S H)
 |@XZ _ n _ _ _ _ _ e h ih=>exact λB W S H=>yK (NM e.out) (by cases n<;>exact ih B W S H)
 |@X0 _ n _ _ _ _ _ _ _ _ e h ih=>exact λB W S H=>yK (NN e.out) (by cases n<;>exact ih B W S H)
 |@X1 _ n _ _ _ _ _ e h ih=>exact λB W S H=>yK (NO e.out) (by cases n<;>exact ih B W S H)
 |eqB e h ih=>
  intro B W S H;obtain⟨t,vs,S',⟨n0,h1⟩,h2⟩:=ih B W S H;exact ah (L6 e.out) ⟨t,vs,S',⟨n0,λn hn=>by have:=h1 n hn;rw[iw] at this;exact this⟩,h2⟩
 |ld h1 h2 h ih=>
  intro B W S H;obtain⟨d,q1,q2⟩:=h1.nth h2 H;exact ah (ju q1 q2) (ih B W S H)
 |ldn h1 h2 h ih=>
  intro B W S H;obtain⟨d,q1,q2,q3⟩:=h1.cut h2 H;exact ah (t_ q1 q2) (by rw[q3];exact ih B W S H)
 |sta ha h0 h2 h1 hn h ih=>
  have he:=ha.eq;subst he;exact λB W S H=>xG H (vs:=_) (rfl:(AV.agg _).cells=_) rfl h2 h1 (by rw[<-hn,bK];rfl) (λS1 H1=>ih B W S1 H1)
 |st ha ho hc h0 h2 h1 h ih=>
  have he:=ha.eq;subst he;exact λB W S H=>xG H hc ho h2 h1 rfl (λS1 H1=>ih B W S1 H1)
 |alloc ha h ih=>
  have he:=ha.eq;subst he;exact λB W S H=>jV H λp S1 H1=>ih p B W S1 H1
 |X2 ha h ih=>
  have he:=ha.eq;subst he;exact λB W S H=>iA H rfl λp S1 H1=>ih p B W S1 H1
 |X3 ha ho hc h ih=>
  have he:=ha.eq;subst he;exact λB W S H=>iA H ho λp S1 H1=>ih p B W S1 (by rw[hc] at H1;exact H1)
 |X4 ha h ih=>
  have he:=ha.eq;subst he;exact λB W S H=>fV H rfl λp S1 H1=>ih p B W S1 H1
 |box ha ho hc h ih=>
  have he:=ha.eq;subst he;exact λB W S H=>fV H ho λp S1 H1=>ih p B W S1 (by rw[hc] at H1;exact H1)
 |@vc f args P v c _ _ _ _ _ hp h ih=>exact λB W S H=>e_ H (c.ok hp.out S) λS1 H1=>ih B W S1 H1
 |@sc f args P v own ab c _ _ ro _ hp h ih=>
  intro B W S H;refine cw (az (c.ok hp.out ro [] B W S (by rw[List.append_nil];exact H)) λr S1 q=>?_);obtain⟨rfl,H1⟩:=q;rw[List.append_nil] at H1;exact ih B W S1 H1
 |inl hk hb hl h ih=>exact λB W S H=>cw (br hk hb (by rw[hl.eq];exact ih B W S H))
 |call hf ha h ih=>have he:=ha.eq;subst he;have he:=hf.eq;subst he;exact ih
def Hs (own tgt:List Own):Prop:=∃g,own.Perm (tgt++g)
theorem Hs.rfl' {l}:Hs l l:=⟨[],ac⟩
theorem Hs.of {l g tgt}(h:l.Perm (tgt++g)):Hs l tgt:=⟨g,h⟩
theorem Hs.drop {l tgt o}(h:Hs l tgt):Hs (o::l) tgt:=by obtain⟨g,h⟩:=h;exact⟨o::g,(List.Perm.cons o h).trans List.perm_middle.symm⟩
theorem Hs.cons {l tgt o}(h:Hs l tgt):Hs (o::l) (o::tgt):=by obtain⟨g,h⟩:=h;exact⟨g,List.Perm.cons o h⟩
theorem Hs.perm {l l' tgt}(h:Hs l tgt)(hp:l'.Perm l):Hs l' tgt:=by obtain⟨g,h⟩:=h;exact⟨g,hp.trans h⟩
inductive Rw:List Own->Own->List Own->Prop
 |hd {o r}:Rw (o::r) o r
 |tl {o x r r'}(h:Rw r o r'):Rw (x::r) o (x::r')
 |ap {o l r r'}(h:Rw r o r'):Rw (l++r) o (l++r')
inductive Rl:List Own->List Own->List Own->Prop
 |hd {l r}:Rl (l++r) l r
 |tl {x l r r'}(h:Rl r l r'):Rl (x::r) l (x::r')
 |ap {l l' r r'}(h:Rl r l r'):Rl (l'++r) l (l'++r')
theorem Rw.perm {a b o}(h:Rw a o b):a.Perm (o::b):=by
 induction h with
 |hd=>exact .refl _
 |tl h ih=>exact(ih.cons _).trans (.swap _ _ _)
 |ap h ih=>exact(ih.append_left _).trans List.perm_middle
theorem Rl.perm {a l b}(h:Rl a l b):a.Perm (l++b):=by
 induction h with
 |hd=>exact .refl _
 |tl h ih=>exact(ih.cons _).trans List.perm_middle.symm
 |@ap l l' r r' h ih=>refine(ih.append_left l').trans ?_;rw[<-List.append_assoc,<-List.append_assoc];exact List.Perm.append_right _ List.perm_append_comm
inductive Hq:List Own->List Own->Prop
 |rfl {l}:Hq l l
 |find {a b t o}(h:Rw a o b)(h2:Hq b t):Hq a (o::t)
 |as2 {a l l2 t}(h:Hq a (l++(l2++t))):Hq a ((l++l2)++t)
 |Sb {a b l t}(h:Rl a l b)(h2:Hq b t):Hq a (l++t)
 |skip {a t o}(h:Hq a t):Hq (o::a) t
 |Sc {a l t}(h:Hq a t):Hq (l++a) t
 |nil {a}:Hq a []
theorem Hq.hs {a t}(h:Hq a t):Hs a t:=by
 induction h with
 |rfl=>exact .rfl'
 |find h _ ih=>
  obtain⟨g,ih⟩:=ih;exact⟨g,h.perm.trans (ih.cons _)⟩
 |Sb h _ ih=>
  obtain⟨g,ih⟩:=ih;exact⟨g,h.perm.trans (by rw[List.append_assoc];exact ih.append_left _)⟩
 |as2 _ ih=>rw[List.append_assoc];exact ih
 |skip _ ih=>exact ih.drop
 |@Sc a l t _ ih=>
  obtain⟨g,ih⟩:=ih;refine⟨l++g,(ih.append_left l).trans ?_⟩;rw[<-List.append_assoc,<-List.append_assoc];exact List.Perm.append_right _ List.perm_append_comm
 |nil=>exact⟨_,.refl _⟩
theorem Hs.cx {l tgt}(h:Hs l tgt)(H:Cx B0 W S l ro):Cx B0 W S tgt ro:=by obtain⟨g,h⟩:=h;exact(H.ic h).yF (List.sublist_append_left _ _)
def kx (X5:List aI)(Ψ:AV->List Own->Prop):gz:=λt vs own ro=>t=.ret/\ro=X5/\∃tgt,Ψ (oneOf vs) tgt/\Hs own tgt
theorem Vx.fn {f:Nat}{fa args fc b Ψ}(hk:M.kn.v f (fa++(args++fc))=none)(hb:M.iT f=some b)(h:Zx M false (b (fa++(args++fc))) [] own ro (kx ro Ψ))(H:Cx B0 W S own ro):aN M (.fn (.func f) fa fc) args S λr S'=>∃ab,Ψ r ab/\Cx B0 W S' ab ro:=
 br hk hb (wp_mono (h.ok B0 W S H) λt vs S' ⟨ab,RG,⟨ht,hr,tgt,h1,h2⟩,h3⟩=>⟨ht,tgt,h1,by subst hr;exact h2.cx h3⟩)
theorem Vx.fm {f:Nat}{fa args fc b Ψ o1}(H:Cx B0 W S o1 ro)(e:o1=own)(h:Zx M false (b (fa++(args++fc))) [] own ro (kx ro Ψ))(hk:M.kn.v f (fa++(args++fc))=none:=by exact rfl)(hb:M.iT f=some b:=by exact rfl):aN M (.fn (.func f) fa fc) args S λr S'=>∃ab,Ψ r ab/\Cx B0 W S' ab ro:=by subst e;exact Vx.fn hk hb h H
theorem Zx.spec {f:AV}{args:List AV}{Ψ:AV->List Own->Prop}(hc:∀B W S,Cx B W S own ro->aN M f args S λr S'=>∃ab,Ψ r ab/\Cx B W S' ab ro)(h:∀r ab,Ψ r ab->Zx M false (k r) K ab ro Φ):Zx M false (.call f args k) K own ro Φ:=
 .z (.of λB W S H=>cw (az (hc B W S H) λr S' ⟨ab,h1,h2⟩=>(h r ab h1).ok B W S' h2))
theorem Vx.spec {f:AV}{args:List AV}{Ψ:AV->List Own->Prop}(hc:∀B W S,Cx B W S own ro->aN M f args S λr S'=>∃ab,Ψ r ab/\Cx B W S' ab ro)(h:∀r ab,Ψ r ab->Zx M false (k r) K ab ro Φ):Vx M (.call f args k) K own ro Φ:=
 λB W S H=>cw (az (hc B W S H) λr S' ⟨ab,h1,h2⟩=>(h r ab h1).ok B W S' h2)
theorem Zx.perm {x}(hp:own.Perm ab)(h:Zx M false x K ab ro Φ):Zx M false x K own ro Φ:=.z (.of λB W S H=>h.ok B W S (H.ic hp))
theorem Vx.Ku {vs body outs}(h:Vx M (body vs) (.loop body outs::K) own ro Φ):Vx M (.ret .normal vs) (.loop body outs::K) own ro Φ:=λB W S H=>wp_ret (.inl ⟨rfl,nQ (h B W S H)⟩)
theorem Vx.loop {vs body outs}(h:Vx M (body vs) (.loop body outs::K) own ro Φ):Vx M (.loop vs body outs) K own ro Φ:=λB W S H=>wp_loop (nQ (h B W S H))
theorem Vx.bQ {x}(hs:Hs ab own)(h:Vx M x K own ro Φ):Vx M x K ab ro Φ:=λB W S H=>h B W S (hs.cx H)
theorem Zx.bQ {x}(hs:Hs ab own)(h:Zx M false x K own ro Φ):Zx M false x K ab ro Φ:=.z (.of (h.ok.bQ hs))
theorem Vx.Se {body outs}(N:Nat)(P:Nat->Prop)(h0:P 0)
  (hs:∀i:Nat,i<N->P i->(P (i+1)->Vx M (.ret .normal [I ((i:Int)+1)]) (.loop body outs::K) own ro Φ)->Zx M false (body [I (i:Int)]) (.loop body outs::K) own ro Φ)
  (he:P N->Zx M false (body [I (N:Int)]) (.loop body outs::K) own ro Φ):Vx M (.loop [I 0] body outs) K own ro Φ:=by
 have key:∀k i:Nat,i+k=N->P i->Vx M (body [I (i:Int)]) (.loop body outs::K) own ro Φ:=by
  intro k;induction k with
  |zero=>
   intro i hi hp;obtain rfl:i=N:=am;exact(he hp).ok
  |succ k ih=>
   intro i hi hp;exact(hs i am hp λSf=>Vx.Ku (by
    have:=ih (i+1) am Sf
    rwa[show((i+1:Nat):Int)=(i:Int)+1 by omega] at this)).ok
 exact Vx.loop (key N 0 am h0)
theorem VC.of {f:Nat}{fa args fc b}{P:Prop}{v}(hk:M.kn.v f (fa++(args++fc))=none)(hb:M.iT f=some b)(h:P->Zx M false (b (fa++(args++fc))) [] [] [] λt vs _ _=>t=.ret/\oneOf vs=v):VC M (.fn (.func f) fa fc) args P v where
 ok:=λhp S=>br hk hb (wp_mono ((h hp).ok S [] S (Cx.enter ac)) λt vs S' ⟨_,_,⟨ht,h1⟩,h3⟩=>⟨ht,h1,h3.du⟩)
theorem NS.of {f:Nat}{fa args fc b}{P:Prop}{L}(hk:M.kn.v f (fa++(args++fc))=none)(hb:M.iT f=some b)(h:P->∀ro R,Zx M false (b (fa++(args++fc))) [] (own++R) ro (kx ro λr l=>l=.sl r 1 L::(own++R))):NS M (.fn (.func f) fa fc) args own P L where
 ok:=λhp ro R B W S H=>az (Vx.fn hk hb (h hp ro R) H) λr S' ⟨l,h1,h3⟩=>by subst h1;exact h3
theorem NC.of {f:Nat}{fa args fc b}{P:Prop}{Q}(hk:M.kn.v f (fa++(args++fc))=none)(hb:M.iT f=some b)(h:P->∀ro R,Zx M false (b (fa++(args++fc))) [] R ro (kx ro λr l=>∃p l',Q p l'/\r=.ptr p 0/\l=l'++R)):NC M (.fn (.func f) fa fc) args P Q where
 ok:=λhp ro R B W S H=>az (Vx.fn hk hb (h hp ro R) H) λr S' ⟨l,⟨p,l',h1,h2,h4⟩,h3⟩=>⟨p,l',h1,h2,by subst h4;exact h3⟩
theorem SC.of {f:Nat}{fa args fc b}{P:Prop}{v}(hk:M.kn.v f (fa++(args++fc))=none)(hb:M.iT f=some b)(h:P->∀ro R,Zx M false (b (fa++(args++fc))) [] (own++R) ro (kx ro λr l=>r=v/\l=ab++R)):SC M (.fn (.func f) fa fc) args own P v ab where
 ok:=λhp ro R B W S H=>az (Vx.fn hk hb (h hp ro R) H) λr S' ⟨l,⟨h1,h2⟩,h3⟩=>⟨h1,by subst h2;exact h3⟩
end
def aW (l:List Int):List (List AV):=l.map λn=>[U n]
theorem di (l:List Int):(aW l).length=l.length:=List.length_map ..
theorem iC {l}{i:Nat}{n:Int}(h:l[i]?=some n):(aW l)[i]?=some [U n]:=by unfold aW;rw[List.getElem?_map,h];rfl
theorem EV (l:List Int)(i:Nat)(n:Int):(aW l).set i [U n]=aW (l.set i n):=by unfold aW;rw[List.map_set]
structure Me where
 ws:List Int
 kind:Int
 bh:Int
 jc:Int
 new:Int
 held:Bool
 n:Int
namespace Me
def last (x:Me):List AV:=[I x.kind,I x.bh,U x.jc,U x.new,B x.held]
def sj (x:Me)(bl:Nat):List AV:=.ptr bl 0::I x.ws.length::(x.last++[I x.n])
def HK (x:Me)(v:AV):List AV:=v::(x.last++[I x.n])
def has (x:Me)(a:Int):Prop:=0<=a/\a<x.ws.length
instance z12 (x:Me)(a:Int):Decidable (x.has a):=inferInstanceAs (Decidable (_/\_))
def word (x:Me)(a:Int):Int:=if x.has a then x.ws[a.toNat]?.getD 0 else 0
def acc (x:Me)(kind a w:Int)(held:Bool):Me:=if x.has a then⟨x.ws.set a.toNat w,kind,a,x.word a,w,held,x.n+1⟩ else⟨x.ws,kind,a,0,0,false,x.n+1⟩
def ld (x:Me)(a:Int):Me:=x.acc 1 a (x.word a) false
def st (x:Me)(a w:Int):Me:=x.acc 2 a w true
def gY (x:Me)(a o n:Int):Me:=x.acc 3 a (if x.word a=o then n else x.word a) (decide (x.word a=o))
def add (x:Me)(a n:Int):Me:=x.acc 4 a ((x.word a+n)%18446744073709551616) true
def eq (x:Me)(a o:Int):Prop:=x.has a/\x.word a=o
instance z13 (x:Me)(a o:Int):Decidable (x.eq a o):=inferInstanceAs (Decidable (_/\_))
abbrev aC (w:Int):Prop:=0<=w/\w<18446744073709551616
def gd (x:Me):Prop:=(1<=x.ws.length/\x.ws.length<=4096/\0<=x.n/\x.n<=4611686018427387904)/\∀w∈x.ws,aC w
theorem uc {x:Me}{a:Nat}{w:Int}(h:x.ws[a]?=some w):x.word (a:Int)=w:=by have:=(List.getElem?_eq_some_iff.1 h).1;unfold word;rw[if_pos (show x.has a from⟨am,am⟩),Int.toNat_natCast,h];rfl
theorem aj {x:Me}(h:x.gd)(a:Int):aC (x.word a):=by
 unfold word;split
 .next hh=>
  have hn:a.toNat<x.ws.length:=by have:=hh.2;have:=hh.1;omega
  rw[List.getElem?_eq_getElem hn];exact h.2 _ (List.getElem_mem hn)
 .unfold aC;omega
theorem AB {x:Me}{a o n:Int}:(x.gY a o n).held=decide (x.eq a o):=by
 unfold gY acc eq;by_cases h:x.has a
 .rw[if_pos h];show decide _=decide _;rw[Bool.eq_iff_iff];simp[h]
 .rw[if_neg h];simp[h]
theorem yL {x:Me}{k a w:Int}{h:Bool}:(x.acc k a w h).ws.length=x.ws.length:=by
 unfold acc;split<;>simp
theorem HL {x:Me}{k a w:Int}{h:Bool}:(x.acc k a w h).n=x.n+1:=by
 unfold acc;split<;>rfl
theorem NP {x:Me}{k a w:Int}{h:Bool}(hx:x.gd)(hn:x.n<4611686018427387904)(hw:aC w):(x.acc k a w h).gd:=by
 obtain⟨⟨h1,h2,h3,h4⟩,h5⟩:=hx;refine⟨⟨by rw[yL];exact h1,by rw[yL];exact h2,by rw[HL];omega,by rw[HL];omega⟩,?_⟩;unfold acc;split
 .intro v hv;rcases List.mem_or_eq_of_mem_set hv with hv|rfl;.exact h5 v hv
  .exact hw
 .exact h5
end Me
def ae (m bl:Nat)(x:Me)(rest:List AV):List Own:=[.obj m (.row (x.sj bl)),.obj bl (.row (x.ws.map U++rest))]
def ai (w:Nat)(v:AV)(x:Me):List Own:=[.obj w (.row (x.HK v)),.sl v 1 (aW x.ws)]
section
variable{M:cP}{own ab:List Own}{ro:List aI}{Φ:gz}{K:List Kf}{k:AV->AC}{S:AH}{B0:AH}{W:List Nat}{Q:gG}
def fb {α:Type}(R:α->List Own->Prop)(ov:α->Bool)(st:α×Me)(mem:Me->List Own)(R0:List Own):AV->List Own->Prop:=λr ab=>∃l',(R st.1 l'/\r=B (ov st.1))/\ab=l'++(mem st.2++R0)
theorem aa {α:Type}{R:α->List Own->Prop}{ov:α->Bool}{st:α×Me}{mem:Me->List Own}{R0 l':List Own}{b:Bool}{a':α}{x':Me}(e:st=(a',x'))(hR:R a' l')(hb:ov a'=b)(hs:Hs own (l'++(mem x'++R0))):kx ro (fb R ov st mem R0) .ret [cG.B b] own ro:=by subst e;subst hb;exact⟨rfl,rfl,_,⟨l',⟨hR,rfl⟩,rfl⟩,hs⟩
theorem ud {A l mm R:List Own}:(A++(l++(mm++R))).Perm (l++(mm++(A++R))):=by
 have h1:(A++(l++(mm++R))).Perm ((l++mm)++(A++R)):=by rw[<-List.append_assoc l,<-List.append_assoc A,<-List.append_assoc (l++mm)];exact List.Perm.append_right R List.perm_append_comm
 rwa[List.append_assoc l] at h1
theorem Vx.f_ {α:Type}{Rl:α->List Own->Prop}{ov:α->Bool}{st:α×Me}{mem:Me->List Own}{A l R:List Own}{x:Me}{f:AV}{args:List AV}
  (hc:∀B W S,Cx B W S (l++(mem x++(A++R))) ro->aN M f args S λr S'=>∃ab,fb Rl ov st mem (A++R) r ab/\Cx B W S' ab ro)
  (h:∀a' x' l',st=(a',x')->Rl a' l'->Zx M false (k (cG.B (ov a'))) K (A++(l'++(mem x'++R))) ro Φ):Vx M (.call f args k) K (A++(l++(mem x++R))) ro Φ:=
 λB W S H=>cw (az (hc B W S (H.ic ud)) λr S' ⟨ab,⟨l',⟨h1,h2⟩,h3⟩,h4⟩=>by
  subst h2 h3;exact(h st.1 st.2 l' rfl h1).ok B W S' (h4.ic ud.symm))
end
def idx (size w:Int):Int:=if w%65536-1<size then w%65536-1 else-1
def AD (i w:Int):Int:=i+1+(w/65536+1)%281474976710656*65536
structure Sk where
 top:Int
 links:Int
 size:Int
inductive pU
 |a
 |b (w i:Int)
 |c (w i j:Int)
 |d (i:Int)
namespace pU
def over:pU->Bool|.d _=>true|_=>false
def step (s:Sk):pU->Me->pU×Me
 |.a,x=>(if idx s.size (x.word s.top)<0 then .d (-1) else .b (x.word s.top) (idx s.size (x.word s.top)),x.ld s.top)
 |.b w i,x=>(.c w i (idx s.size (x.word (s.links+i))),x.ld (s.links+i))
 |.c w i j,x=>(if x.eq s.top w then .d i else .a,x.gY s.top w (AD j w))
 |.d i,x=>(.d i,x)
end pU
inductive kO
 |a
 |b (w:Int)
 |c (w:Int)
 |d (e:Int)
namespace kO
def over:kO->Bool|.d _=>true|_=>false
def new (s:Sk)(i:Int):kO:=if i<0\/s.size<=i then .d 3 else .a
def step (s:Sk)(i:Int):kO->Me->kO×Me
 |.a,x=>(.b (x.word s.top),x.ld s.top)
 |.b w,x=>(.c w,x.st (s.links+i) (idx s.size w+1))
 |.c w,x=>(if x.eq s.top w then .d 0 else .a,x.gY s.top w (AD i w))
 |.d e,x=>(.d e,x)
end kO
inductive tB
 |a
 |b (w i:Int)
 |d (i:Int)
namespace tB
def over:tB->Bool|.d _=>true|_=>false
def step (s:Sk):tB->Me->tB×Me
 |.a,x=>(if idx s.size (x.word s.top)<0 then .d (-1) else .b (x.word s.top) (idx s.size (x.word s.top)),x.ld s.top)
 |.b w i,x=>(if x.eq s.top w then .d i else .a,x.gY s.top w (AD (-1) w))
 |.d i,x=>(.d i,x)
end tB
structure Ar where
 f:Sk
 an:Int
 aF:Int
 fJ:Int
inductive cV
 |p (s:pU)
 |g (i:Int)
 |w
 |d (r e:Int)
namespace cV
def over:cV->Bool|.d _ _=>true|_=>false
def kP:pU->cV
 |.d i=>if i<0 then .w else .g i
 |s=>.p s
def step (a:Ar):cV->Me->cV×Me
 |.p s,x=>(kP (s.step a.f x).1,(s.step a.f x).2)
 |.g i,x=>(.d (i+1+x.word (a.an+i)%4294967296*65536) 0,x.ld (a.an+i))
 |.w,x=>(.d 0 (if a.f.size<=x.word a.aF then 12 else 7),x.ld a.aF)
 |.d r e,x=>(.d r e,x)
end cV
inductive jZ
 |l
 |r (g:Int)
 |u (s:kO)
 |w
 |d (e:Int)
namespace jZ
def over:jZ->Bool|.d _=>true|_=>false
def new (a:Ar)(i:Int):jZ:=if i<0\/a.f.size<=i then .d 3 else .l
def step (a:Ar)(i:Int):jZ->Me->jZ×Me
 |.l,x=>(if a.fJ<=x.word (a.an+i)%4294967296 then .w else .r (x.word (a.an+i)),x.ld (a.an+i))
 |.r g,x=>(.u .a,x.st (a.an+i) ((g+1)%18446744073709551616))
 |.u s,x=>(if(s.step a.f i x).1.over then .d 0 else .u (s.step a.f i x).1,(s.step a.f i x).2)
 |.w,x=>(.d 0,x.add a.aF 1)
 |.d e,x=>(.d e,x)
end jZ
structure Ep where
 bh:Int
 pins:Int
 ad:Int
inductive nk
 |a
 |b (p:Int)
 |c (p:Int)
 |d (p e:Int)
namespace nk
def over:nk->Bool|.d _ _=>true|_=>false
def new (e:Ep)(c:Int):nk:=if c<0\/e.ad<=c then .d 0 3 else .a
def step (e:Ep)(c:Int):nk->Me->nk×Me
 |.a,x=>(.b (x.word e.bh%4294967296),x.ld e.bh)
 |.b p,x=>(.c p,x.st (e.pins+c) (p+1))
 |.c p,x=>(if x.word e.bh%4294967296=p then .d p 0 else .b (x.word e.bh%4294967296),x.ld e.bh)
 |.d p e,x=>(.d p e,x)
end nk
inductive cM
 |a
 |d (e:Int)
namespace cM
def over:cM->Bool|.d _=>true|_=>false
def new (e:Ep)(c:Int):cM:=if c<0\/e.ad<=c then .d 3 else .a
def step (e:Ep)(c:Int):cM->Me->cM×Me
 |.a,x=>(.d 0,x.st (e.pins+c) 0)
 |.d e,x=>(.d e,x)
end cM
inductive jg
 |a
 |b (w n:Int)
 |c (w:Int)
 |d (e:Int)
namespace jg
def over:jg->Bool|.d _=>true|_=>false
def new (e:Ep)(c:Int):jg:=if c<0\/e.ad<=c then .d 3 else .a
def skip (e:Ep)(c w n:Int):jg:=if e.ad<=(if n=c then n+1 else n) then .c w else .b w (if n=c then n+1 else n)
def step (e:Ep)(c p:Int):jg->Me->jg×Me
 |.a,x=>(if x.word e.bh%4294967296=p then skip e c (x.word e.bh) 0 else .d 14,x.ld e.bh)
 |.b w n,x=>(if x.word (e.pins+n)=0\/x.word (e.pins+n)=p+1 then skip e c w (n+1) else .d 14,x.ld (e.pins+n))
 |.c w,x=>(if x.eq e.bh w then .d 0 else .d 14,x.gY e.bh w (p+1))
 |.d e,x=>(.d e,x)
end jg
structure Lb where
 a:Ar
 e:Ep
 aL:Int
def Lb.wait (l:Lb)(k:Int):Sk:=⟨l.aL+k,l.a.f.links,l.a.f.size⟩
inductive iX
 |a
 |b (k:Int)(s:kO)
 |d (e:Int)
namespace iX
def over:iX->Bool|.d _=>true|_=>false
def new (l:Lb)(i:Int):iX:=if i<0\/l.a.f.size<=i then .d 3 else .a
def step (l:Lb)(i:Int):iX->Me->iX×Me
 |.a,x=>(.b (x.word l.e.bh%4294967296%3) .a,x.ld l.e.bh)
 |.b k s,x=>(if(s.step (l.wait k) i x).1.over then .d 0 else .b k (s.step (l.wait k) i x).1,(s.step (l.wait k) i x).2)
 |.d e,x=>(.d e,x)
end iX
inductive ff
 |v (s:jg)
 |t (s:tB)
 |l (i n:Int)
 |f (i j n:Int)(s:jZ)
 |d (n e:Int)
namespace ff
def over:ff->Bool|.d _ _=>true|_=>false
def new (l:Lb)(c p:Int):ff:=if c<0\/l.e.ad<=c\/p<0 then .d 0 3 else .v .a
def HM:jg->ff
 |.d e=>if e=0 then .t .a else .d 0 e
 |s=>.v s
def HN:tB->ff
 |.d i=>if i<0 then .d 0 0 else .l i 0
 |s=>.t s
def step (l:Lb)(c p:Int):ff->Me->ff×Me
 |.v s,x=>(HM (s.step l.e c p x).1,(s.step l.e c p x).2)
 |.t s,x=>(HN (s.step (l.wait ((p+2)%3)) x).1,(s.step (l.wait ((p+2)%3)) x).2)
 |.l i n,x=>(.f i (x.word (l.a.f.links+i)%65536-1) n .l,x.ld (l.a.f.links+i))
 |.f i j n s,x=>(if(s.step l.a i x).1.over then(if j<0\/l.a.f.size<=j\/l.a.f.size<=n+1 then .d (n+1) 0 else .l j (n+1)) else .f i j n (s.step l.a i x).1,(s.step l.a i x).2)
 |.d n e,x=>(.d n e,x)
end ff
structure Rn where
 head:Int
 tail:Int
 fg:Int
 size:Int
namespace Rn
def place (r:Rn)(t:Int):Int:=r.fg+t%r.size
def tC (r:Rn)(t:Int):Int:=t/r.size%4294967296
end Rn
def jh (w l:Int):Prop:=w/4294967296=l/\w/65536%2=1
def jv (w l:Int):Prop:=w/4294967296=l/\w/65536%2=0
instance z14 (w l:Int):Decidable (jh w l):=inferInstanceAs (Decidable (_/\_))
instance z15 (w l:Int):Decidable (jv w l):=inferInstanceAs (Decidable (_/\_))
inductive dZ
 |a
 |b (t:Int)
 |c (t w:Int)
 |l (t:Int)
 |h (t:Int)
 |d (e:Int)
namespace dZ
def over:dZ->Bool|.d _=>true|_=>false
def step (r:Rn)(v:Int):dZ->Me->dZ×Me
 |.a,x=>(.b (x.word r.tail),x.ld r.tail)
 |.b t,x=>(if jv (x.word (r.place t)) (r.tC t) then .c t (x.word (r.place t)) else if jh (x.word (r.place t)) ((r.tC t+4294967296-1)%4294967296) then .d 7 else .h t,x.ld (r.place t))
 |.c t w,x=>(if x.eq (r.place t) w then .l t else .h t,x.gY (r.place t) w (r.tC t*4294967296+65536+v))
 |.l t,x=>(.d 0,x.gY r.tail t ((t+1)%18446744073709551616))
 |.h t,x=>(.a,x.gY r.tail t ((t+1)%18446744073709551616))
 |.d e,x=>(.d e,x)
end dZ
inductive eS
 |a
 |b (h:Int)
 |d (h v e:Int)
namespace eS
def over:eS->Bool|.d _ _ _=>true|_=>false
def step (r:Rn):eS->Me->eS×Me
 |.a,x=>(.b (x.word r.head),x.ld r.head)
 |.b h,x=>(if jh (x.word (r.place h)) (r.tC h) then .d h (x.word (r.place h)%65536) 0 else .d h 0 15,x.ld (r.place h))
 |.d h v e,x=>(.d h v e,x)
end eS
inductive j7
 |a
 |b
 |d
namespace j7
def over:j7->Bool|.d=>true|_=>false
def step (r:Rn)(h:Int):j7->Me->j7×Me
 |.a,x=>(.b,x.st (r.place h) ((r.tC h+1)%4294967296*4294967296))
 |.b,x=>(.d,x.st r.head ((h+1)%18446744073709551616))
 |.d,x=>(.d,x)
end j7
structure Tw where
 nd:Int
 hd:Int
 ht:Int
 l:Lb
namespace Tw
def size (t:Tw):Int:=t.l.a.f.size
def pt (t:Tw)(i k:Int):Int:=t.nd+i*(4+t.ht)+k
def nx (t:Tw)(i l:Int):Int:=if i=-1 then t.hd+l else t.pt i (4+l)
def ix (t:Tw)(w:Int):Int:=idx t.size w
end Tw
inductive mI
 |s (k:Nat)
 |d (e:Int)
namespace mI
def over:mI->Bool|.d _=>true|_=>false
def step (t:Tw)(ref key ar high:Int):mI->Me->mI×Me
 |.s 0,x=>(.s 1,x.st (t.pt (t.ix ref) 0) key)
 |.s 1,x=>(.s 2,x.st (t.pt (t.ix ref) 1) ar)
 |.s 2,x=>(.s 3,x.st (t.pt (t.ix ref) 2) high)
 |.s _,x=>(.d 0,x.st (t.pt (t.ix ref) 3) 2)
 |.d e,x=>(.d e,x)
end mI
structure Sp where
 pred:Int
 known:Int
 cur:Int
def Sp.z:Sp:=⟨0,0,0⟩
abbrev gL:=List Sp
def gL.bh (T:gL)(l:Nat):Sp:=(T[l]?).getD Sp.z
inductive bO
 |a (l:Nat)(pred known:Int)(T:gL)
 |b (l:Nat)(pred known cur:Int)(T:gL)
 |c (l:Nat)(pred known cur w:Int)(T:gL)
 |e (l:Nat)(pred known cur w:Int)(T:gL)
 |d (T:gL)
namespace bO
def over:bO->Bool|.d _=>true|_=>false
def je (t:Tw)(T:gL):bO:=.a (t.ht-1).toNat (-1) 0 T
def new (t:Tw):bO:=je t (List.replicate t.ht.toNat Sp.z)
def done (l:Nat)(pred known cur:Int)(T:gL):bO:=match l with
 |0=>.d (T.set 0 ⟨pred,known,cur⟩)
 |l+1=>.a l pred known (T.set (l+1) ⟨pred,known,cur⟩)
def looks (t:Tw)(l:Nat)(pred known cur:Int)(T:gL):bO:=if t.ix cur<0 then done l pred known cur T else .b l pred known cur T
def cR:bO->Int
 |.a _ _ known _=>known
 |.b _ _ _ cur _=>cur
 |.c _ _ known _ _ _=>known
 |.e _ _ _ cur _ _=>cur
 |.d _=>0
def step (t:Tw)(key:Int):bO->Me->bO×Me
 |.a l pred known T,x=>(if 9223372036854775808<=x.word (t.nx pred l) then je t T else looks t l pred known (x.word (t.nx pred l)) T,x.ld (t.nx pred l))
 |.b l pred known cur T,x=>(if 9223372036854775808<=x.word (t.nx (t.ix cur) l) then .c l pred known cur (x.word (t.nx (t.ix cur) l)) T else .e l pred known cur (x.word (t.nx (t.ix cur) l)) T,x.ld (t.nx (t.ix cur) l))
 |.c l pred known cur w T,x=>(if x.eq (t.nx pred l) cur then looks t l pred known (w-9223372036854775808) T else je t T,x.gY (t.nx pred l) cur (w-9223372036854775808))
 |.e l pred known cur w T,x=>(if x.word (t.pt (t.ix cur) 0)<key then looks t l (t.ix cur) cur w T else done l pred known cur T,x.ld (t.pt (t.ix cur) 0))
 |.d T,x=>(.d T,x)
end bO
inductive c_
 |f (F:bO)
 |s (l:Nat)(T:gL)
 |e (T:gL)
 |l (l:Nat)(T:gL)
 |t (l:Nat)(w:Int)(T:gL)
 |k (l:Nat)(T:gL)
 |g (l:Nat)(F:bO)
 |o (l:Nat)(T:gL)
 |q
 |c (F:bO)
 |r
 |w (R:iX)
 |d (e:Int)
namespace c_
def over:c_->Bool|.d _=>true|_=>false
def cR (ref:Int):c_->Int
 |.f F=>F.cR
 |.e T=>(T.bh 0).known
 |.k v T=>(T.bh v).known
 |.g _ F=>F.cR
 |.c F=>F.cR
 |.w _=>0
 |.d _=>0
 |_=>ref
def up (high:Int)(v:Nat)(T:gL):c_:=if high<=v then .q else .l v T
def HO:bO->c_
 |.d T=>.s 0 T
 |F=>.f F
def HP (v:Nat):bO->c_
 |.d T=>.o v T
 |F=>.g v F
def step (t:Tw)(ref key high:Int):c_->Me->c_×Me
 |.f F,x=>(HO (F.step t key x).1,(F.step t key x).2)
 |.s v T,x=>(if high<=v+1 then .e T else .s (v+1) T,x.st (t.nx (t.ix ref) v) (T.bh v).cur)
 |.e T,x=>(if x.eq (t.nx (T.bh 0).pred 0) (T.bh 0).cur then up high 1 T else .f (.new t),x.gY (t.nx (T.bh 0).pred 0) (T.bh 0).cur ref)
 |.l v T,x=>(if 9223372036854775808<=x.word (t.nx (t.ix ref) v) then .q else if x.word (t.nx (t.ix ref) v)=(T.bh v).cur then .k v T else .t v (x.word (t.nx (t.ix ref) v)) T,x.ld (t.nx (t.ix ref) v))
 |.t v u T,x=>(if x.eq (t.nx (t.ix ref) v) u then .k v T else .q,x.gY (t.nx (t.ix ref) v) u (T.bh v).cur)
 |.k v T,x=>(if x.eq (t.nx (T.bh v).pred v) (T.bh v).cur then up high (v+1) T else .g v (.new t),x.gY (t.nx (T.bh v).pred v) (T.bh v).cur ref)
 |.g v F,x=>(HP v (F.step t key x).1,(F.step t key x).2)
 |.o v T,x=>(if 9223372036854775808<=x.word (t.nx (t.ix ref) 0) then .c (.new t) else .l v T,x.ld (t.nx (t.ix ref) 0))
 |.q,x=>(if 9223372036854775808<=x.word (t.nx (t.ix ref) 0) then .c (.new t) else .r,x.ld (t.nx (t.ix ref) 0))
 |.c F,x=>(if(F.step t key x).1.over then .r else .c (F.step t key x).1,(F.step t key x).2)
 |.r,x=>(if(x.add (t.pt (t.ix ref) 3) 18446744073709551615).new=0 then .w (.new t.l (t.ix ref)) else .d 0,x.add (t.pt (t.ix ref) 3) 18446744073709551615)
 |.w R,x=>(if(R.step t.l (t.ix ref) x).1.over then .d 0 else .w (R.step t.l (t.ix ref) x).1,(R.step t.l (t.ix ref) x).2)
 |.d er,x=>(.d er,x)
end c_
inductive cj
 |a
 |b (A i:Int)
 |c (A w:Int)
 |m (A i:Int)
 |n (A i:Int)(l:Nat)
 |o (A i:Int)(l:Nat)(w:Int)
 |k (A i:Int)
 |h (A i w:Int)
 |r (A i:Int)
 |j (A i key:Int)
 |f (A i key ar:Int)(F:bO)
 |g (A i key ar:Int)
 |w (i key ar:Int)(R:iX)
 |d (key ar e:Int)
namespace cj
def over:cj->Bool|.d _ _ _=>true|_=>false
def cR:cj->Int
 |.a=>0
 |.b A _=>A
 |.c _ _=>0
 |.m A _=>A
 |.n A _ _=>A
 |.o A _ _ _=>A
 |.k A _=>A
 |.h A _ _=>A
 |.r A _=>A
 |.j A _ _=>A
 |.f _ _ _ _ F=>F.cR
 |.g A _ _ _=>A
 |.w _ _ _ _=>0
 |.d _ _ _=>0
def below (A i:Int)(l:Nat):cj:=if l<=1 then .k A i else .n A i (l-1)
def step (t:Tw)(look:Bool):cj->Me->cj×Me
 |.a,x=>(if t.ix (x.word (t.nx (-1) 0))<0 then .d 0 0 15 else .b (x.word (t.nx (-1) 0)) (t.ix (x.word (t.nx (-1) 0))),x.ld (t.nx (-1) 0))
 |.b A i,x=>(if 9223372036854775808<=x.word (t.nx i 0) then .c A (x.word (t.nx i 0)) else if look then .r A i else .m A i,x.ld (t.nx i 0))
 |.c A u,x=>(.a,x.gY (t.nx (-1) 0) A (u-9223372036854775808))
 |.m A i,x=>(below A i (min (x.word (t.pt i 2)) t.ht).toNat,x.ld (t.pt i 2))
 |.n A i l,x=>(if 9223372036854775808<=x.word (t.nx i l) then below A i l else .o A i l (x.word (t.nx i l)),x.ld (t.nx i l))
 |.o A i l u,x=>(if x.eq (t.nx i l) u then below A i l else .n A i l,x.gY (t.nx i l) u (u+9223372036854775808))
 |.k A i,x=>(if 9223372036854775808<=x.word (t.nx i 0) then .c A (x.word (t.nx i 0)) else .h A i (x.word (t.nx i 0)),x.ld (t.nx i 0))
 |.h A i u,x=>(if x.eq (t.nx i 0) u then .r A i else .k A i,x.gY (t.nx i 0) u (u+9223372036854775808))
 |.r A i,x=>(.j A i (x.word (t.pt i 0)),x.ld (t.pt i 0))
 |.j A i key,x=>(if look then .d key (x.word (t.pt i 1)%65536) 0 else .f A i key (x.word (t.pt i 1)%65536) (.new t),x.ld (t.pt i 1))
 |.f A i key ar F,x=>(if(F.step t key x).1.over then .g A i key ar else .f A i key ar (F.step t key x).1,(F.step t key x).2)
 |.g A i key ar,x=>(if(x.add (t.pt i 3) 18446744073709551615).new=0 then .w i key ar (.new t.l i) else .d key ar 0,x.add (t.pt i 3) 18446744073709551615)
 |.w i key ar R,x=>(if(R.step t.l i x).1.over then .d key ar 0 else .w i key ar (R.step t.l i x).1,(R.step t.l i x).2)
 |.d key ar e,x=>(.d key ar e,x)
end cj
inductive aX
 |p (s:nk)(n:Nat)
 |a (s:cV)(n:Nat)(p:Int)
 |c (s:ff)(n:Nat)(p:Int)
 |l (s:cM)(n:Nat)
 |y (s:mI)(r:Int)
 |i (s:c_)(r:Int)
 |u (s:cM)(e:Int)
 |d (e:Int)
namespace aX
def over:aX->Bool|.d _=>true|_=>false
def cR (t:Tw)(key:Int):aX->Int
 |.y _ r=>r
 |.i s r=>s.cR r
 |_=>0
def Cj (n:Nat):nk->aX
 |.d q _=>.a (.p .a) n q
 |s=>.p s n
def iY (t:Tw)(c:Int)(n:Nat)(q:Int):cV->aX
 |.d r e=>if e=0 then .y (.s 0) r else if e=7/\n<3 then .c (.new t.l c q) (n+1) q else .u (.new t.l.e c) e
 |s=>.a s n q
def step (t:Tw)(c key ar high:Int):aX->Me->aX×Me
 |.p s n,x=>(Cj n (s.step t.l.e c x).1,(s.step t.l.e c x).2)
 |.a s n q,x=>(iY t c n q (s.step t.l.a x).1,(s.step t.l.a x).2)
 |.c s n q,x=>(if(s.step t.l c q x).1.over then .l (.new t.l.e c) n else .c (s.step t.l c q x).1 n q,(s.step t.l c q x).2)
 |.l s n,x=>(if(s.step t.l.e c x).1.over then .p (.new t.l.e c) n else .l (s.step t.l.e c x).1 n,(s.step t.l.e c x).2)
 |.y s r,x=>(if(s.step t r key ar high x).1.over then .i (.f (.new t)) r else .y (s.step t r key ar high x).1 r,(s.step t r key ar high x).2)
 |.i s r,x=>(if(s.step t r key high x).1.over then .u (.new t.l.e c) 0 else .i (s.step t r key high x).1 r,(s.step t r key high x).2)
 |.u s e,x=>(if(s.step t.l.e c x).1.over then .d e else .u (s.step t.l.e c x).1 e,(s.step t.l.e c x).2)
 |.d e,x=>(.d e,x)
end aX
inductive et
 |p (s:nk)
 |c (s:cj)
 |u (s:cM)(key ar e:Int)
 |d (key ar e:Int)
namespace et
def over:et->Bool|.d _ _ _=>true|_=>false
def cR:et->Int
 |.c s=>s.cR
 |_=>0
def kP (t:Tw)(c:Int):cj->et
 |.d key ar e=>.u (.new t.l.e c) key ar e
 |s=>.c s
def step (t:Tw)(c:Int)(look:Bool):et->Me->et×Me
 |.p s,x=>(if(s.step t.l.e c x).1.over then .c .a else .p (s.step t.l.e c x).1,(s.step t.l.e c x).2)
 |.c s,x=>(kP t c (s.step t look x).1,(s.step t look x).2)
 |.u s key ar e,x=>(if(s.step t.l.e c x).1.over then .d key ar e else .u (s.step t.l.e c x).1 key ar e,(s.step t.l.e c x).2)
 |.d key ar e,x=>(.d key ar e,x)
end et
def yM (w now apart:Int):Prop:=w≠0/\(now<w-1\/now-(w-1)<apart)
instance z16 (w now apart:Int):Decidable (yM w now apart):=inferInstanceAs (Decidable (_/\_))
inductive ig
 |a
 |b (w:Int)
 |d (e:Int)
namespace ig
def over:ig->Bool|.d _=>true|_=>false
def step (bh apart now:Int):ig->Me->ig×Me
 |.a,x=>(if yM (x.word bh) now apart then .d 13 else .b (x.word bh),x.ld bh)
 |.b w,x=>(if x.eq bh w then .d 0 else .a,x.gY bh w (now+1))
 |.d e,x=>(.d e,x)
end ig
structure Jb where
 bE:Int
 keys:Int
 f:Sk
def jw (s c g:Int):Int:=s+c*256+g*4294967296
inductive dR
 |p (s:pU)
 |l (i:Int)
 |s (i w:Int)
 |d (i e:Int)
namespace dR
def over:dR->Bool|.d _ _=>true|_=>false
def kP:pU->dR
 |.d i=>if i<0 then .d 0 7 else .l i
 |z=>.p z
def step (j:Jb):dR->Me->dR×Me
 |.p z,x=>(kP (z.step j.f x).1,(z.step j.f x).2)
 |.l i,x=>(.s i (x.word (j.bE+i)),x.ld (j.bE+i))
 |.s i w,x=>(if x.eq (j.bE+i) w then .d i 0 else .l i,x.gY (j.bE+i) w (jw 2 0 ((w/4294967296+1)%4294967296)))
 |.d i e,x=>(.d i e,x)
end dR
inductive cW
 |l
 |s (w:Int)
 |p (s:kO)
 |d (e:Int)
namespace cW
def over:cW->Bool|.d _=>true|_=>false
def new (j:Jb)(i:Int):cW:=if i<0\/j.f.size<=i then .d 3 else .l
def step (j:Jb)(i:Int):cW->Me->cW×Me
 |.l,x=>(if x.word (j.bE+i)%256=5\/x.word (j.bE+i)%256=2 then .s (x.word (j.bE+i)) else .d 11,x.ld (j.bE+i))
 |.s w,x=>(if x.eq (j.bE+i) w then .p .a else .l,x.gY (j.bE+i) w (jw 1 0 (w/4294967296)))
 |.p z,x=>(if(z.step j.f i x).1.over then .d 0 else .p (z.step j.f i x).1,(z.step j.f i x).2)
 |.d e,x=>(.d e,x)
end cW
inductive bg
 |l
 |s (w:Int)
 |d (e:Int)
namespace bg
def over:bg->Bool|.d _=>true|_=>false
def new (j:Jb)(i core:Int):bg:=if i<0\/j.f.size<=i then .d 3 else if core<0\/64<=core then .d 3 else .l
def step (j:Jb)(i fr to core:Int):bg->Me->bg×Me
 |.l,x=>(if x.word (j.bE+i)%256=fr/\(fr≠4\/x.word (j.bE+i)/256%256=core) then .s (x.word (j.bE+i)) else .d 11,x.ld (j.bE+i))
 |.s w,x=>(if x.eq (j.bE+i) w then .d 0 else .l,x.gY (j.bE+i) w (jw to (if to=4 then core else 0) (w/4294967296)))
 |.d e,x=>(.d e,x)
end bg
inductive bF
 |a
 |d (w e:Int)
namespace bF
def over:bF->Bool|.d _ _=>true|_=>false
def new (j:Jb)(i:Int):bF:=if i<0\/j.f.size<=i then .d 0 3 else .a
def step (j:Jb)(i w:Int):bF->Me->bF×Me
 |.a,x=>(.d w 0,x.st (j.keys+i) w)
 |.d w e,x=>(.d w e,x)
def stepOf (j:Jb)(i:Int):bF->Me->bF×Me
 |.a,x=>(.d (x.word (j.keys+i)) 0,x.ld (j.keys+i))
 |.d w e,x=>(.d w e,x)
end bF
structure Rs where
 runs:Int
 flags:Int
 ad:Int
def vG:List Int->Nat->Nat->Int->Nat
 |[],_,b,_=>b
 |w::l,k,b,v=>if v<w then vG l (k+1) k w else vG l (k+1) b v
def dy (l:List Int):Nat:=match l with
 |[]=>0
 |w::l=>vG l 1 0 w
inductive cS
 |k (s:et)
 |r (key:Int)(l:List Int)
 |f (w:Int)
 |d (e:Int)
namespace cS
def over:cS->Bool|.d _=>true|_=>false
def cR:cS->Int
 |.k s=>s.cR
 |_=>0
def kP:et->cS
 |.d key _ e=>if e=0 then .r key [] else if e=15 then .d 0 else .d e
 |s=>.k s
def step (t:Tw)(r:Rs)(c:Int):cS->Me->cS×Me
 |.k s,x=>(kP (s.step t c true x).1,(s.step t c true x).2)
 |.r key l,x=>(if(l.length:Int)+1=r.ad then(if(l++[x.word (r.runs+l.length)])[dy (l++[x.word (r.runs+l.length)])]?.getD 0<=key then .d 0 else .f (dy (l++[x.word (r.runs+l.length)]))) else .r key (l++[x.word (r.runs+l.length)]),x.ld (r.runs+l.length))
 |.f w,x=>(.d 0,x.st (r.flags+w) 1)
 |.d e,x=>(.d e,x)
end cS
structure Xc where
 t:Tw
 ct:Int
 many:Int
 j:Jb
 iZ:Int
 aq:Int
 room:Int
 r:Rs
 own:Int
 seq:Int
namespace Xc
def ring (x:Xc)(c:Int):Rn:=⟨x.iZ+c*(x.room+2),x.iZ+c*(x.room+2)+1,x.iZ+c*(x.room+2)+2,x.room⟩
def rd (x:Xc)(w:Int):Int:=if w<1\/x.j.f.size<w then-1 else w-1
end Xc
structure Od where
 k:Int
 c:Int
 tk:Int
 prio:Int
 every:Int
 now:Int
 high:Int
def mZ (prio seq:Int):Int:=seq*65536+prio*72057594037927936
def cb (w:Int):Prop:=254<w/72057594037927936
instance z17 (w:Int):Decidable (cb w):=inferInstanceAs (Decidable (_<_))
inductive aG
 |r1 (z:ig)
 |r2 (z:dR)
 |r3 (i:Int)
 |r4 (i w:Int)(z:bF)
 |r5 (i w:Int)(z:dZ)
 |r6 (i w e:Int)(z:cW)
 |t1 (z:eS)
 |t2 (i h:Int)(z:bF)
 |t3 (i h w:Int)(z:bg)
 |t4 (i h w:Int)(z:aX)
 |t5 (i w e:Int)(z:bg)
 |t6 (i h w:Int)(z:j7)
 |rk (i w:Int)(z:cS)
 |p1
 |p2 (z:et)
 |p3 (i w:Int)(z:bg)
 |p4 (i w:Int)
 |p5 (i w:Int)
 |s1
 |s2
 |s3
 |s4 (i:Int)(z:bF)
 |s5 (i w:Int)(z:bg)
 |s6 (i w:Int)
 |s7 (i w:Int)(z:bF)
 |s8 (i w:Int)(z:aX)
 |s9 (i w:Int)
 |b1 (i w e:Int)(z:bF)
 |b2 (i w e:Int)(z:bg)
 |b3 (i w e:Int)
 |b4 (i w e:Int)
 |c1
 |c2 (i:Int)(z:bF)
 |c3 (i w:Int)(z:bg)
 |c4 (i w:Int)
 |c5 (i w:Int)
 |c6 (i w:Int)(z:cW)
 |d (i w e:Int)(none:Bool)
namespace aG
def over:aG->Bool|.d _ _ _ _=>true|_=>false
def cR (x:Xc)(o:Od):aG->Int
 |.t4 _ _ w z=>z.cR x.t w
 |.s8 _ w z=>z.cR x.t ((w+1)%18446744073709551616)
 |.rk _ _ z=>z.cR
 |.p2 z=>z.cR
 |_=>0
def pick:aG:=.p2 (.p .a)
def balance (x:Xc)(i w:Int):aG:=.rk i w (.k (.p .a))
def sY (x:Xc)(o:Od):ig->aG
 |.d e=>if e=0 then .r2 (.p .a) else .d 0 0 e false
 |z'=>.r1 z'
def sZ (x:Xc)(o:Od):dR->aG
 |.d i e=>if e=0 then .r3 i else .d 0 0 e false
 |z'=>.r2 z'
def s0 (x:Xc)(o:Od)(i:Int)(w:Int):dZ->aG
 |.d e=>if e=0 then .d i w 0 false else .r6 i w e (.new x.j i)
 |z'=>.r5 i w z'
def nZ (x:Xc)(o:Od):eS->aG
 |.d h v e=>if e=0 then(if x.j.f.size<=v then .d 0 0 5 false else .t2 v h (.new x.j v)) else .d 0 0 15 false
 |z'=>.t1 z'
def rl (x:Xc)(o:Od)(i:Int)(h:Int):bF->aG
 |.d w _=>if cb w then .d 0 0 5 false else .t3 i h w (.new x.j i o.c)
 |z'=>.t2 i h z'
def s_ (x:Xc)(o:Od)(i:Int)(h:Int)(w:Int):aX->aG
 |.d e=>if e=0 then .t6 i h w .a else .t5 i w e (.new x.j i o.c)
 |z'=>.t4 i h w z'
def kQ (x:Xc)(o:Od):et->aG
 |.d key ar e=>if e=0 then(if ar<0\/x.j.f.size<=ar then .d 0 0 5 false else .p3 ar key (.new x.j ar o.c)) else if o.k=4 then .d 0 0 0 true else .d 0 0 15 false
 |z'=>.p2 z'
def n8 (x:Xc)(o:Od)(i:Int):bF->aG
 |.d w _=>if cb w then .d 0 0 5 false else if w%65536=65535 then .d 0 0 12 false else .s5 i w (.new x.j i o.c)
 |z'=>.s4 i z'
def ta (x:Xc)(o:Od)(i:Int)(w:Int):aX->aG
 |.d e=>if e=0 then .s9 i w else .b1 i w e (.new x.j i)
 |z'=>.s8 i w z'
def vH (x:Xc)(o:Od)(i:Int):bF->aG
 |.d w _=>.c3 i w (.new x.j i o.c)
 |z'=>.c2 i z'
def step (x:Xc)(o:Od):aG->Me->aG×Me
 |.r1 z,m=>(sY x o (z.step (x.ct+o.tk) o.every o.now m).1,(z.step (x.ct+o.tk) o.every o.now m).2)
 |.r2 z,m=>(sZ x o (z.step x.j m).1,(z.step x.j m).2)
 |.r3 i,m=>(if(m.add x.seq 1).new<1\/1099511627775<(m.add x.seq 1).new then .r6 i 0 12 (.new x.j i) else .r4 i (mZ o.prio (m.add x.seq 1).new) (.new x.j i),m.add x.seq 1)
 |.r4 i w z,m=>(if(z.step x.j i w m).1.over then .r5 i w .a else .r4 i w (z.step x.j i w m).1,(z.step x.j i w m).2)
 |.r5 i w z,m=>(s0 x o i w (z.step (x.ring (o.tk%x.aq)) i m).1,(z.step (x.ring (o.tk%x.aq)) i m).2)
 |.r6 i w e z,m=>(if(z.step x.j i m).1.over then .d i w e false else .r6 i w e (z.step x.j i m).1,(z.step x.j i m).2)
 |.t1 z,m=>(nZ x o (z.step (x.ring o.c) m).1,(z.step (x.ring o.c) m).2)
 |.t2 i h z,m=>(rl x o i h (z.stepOf x.j i m).1,(z.stepOf x.j i m).2)
 |.t3 i h w z,m=>(if(z.step x.j i 2 3 o.c m).1.over then .t4 i h w (.p .a 0) else .t3 i h w (z.step x.j i 2 3 o.c m).1,(z.step x.j i 2 3 o.c m).2)
 |.t4 i h w z,m=>(s_ x o i h w (z.step x.t o.c w i o.high m).1,(z.step x.t o.c w i o.high m).2)
 |.t5 i w e z,m=>(if(z.step x.j i 3 2 o.c m).1.over then .d i w e false else .t5 i w e (z.step x.j i 3 2 o.c m).1,(z.step x.j i 3 2 o.c m).2)
 |.t6 i h w z,m=>(if(z.step (x.ring o.c) h m).1.over then balance x i w else .t6 i h w (z.step (x.ring o.c) h m).1,(z.step (x.ring o.c) h m).2)
 |.rk i w z,m=>(if(z.step x.t x.r o.c m).1.over then .d i w 0 false else .rk i w (z.step x.t x.r o.c m).1,(z.step x.t x.r o.c m).2)
 |.p1,m=>(if 0<=x.rd (m.word (x.own+o.c)) then .d 0 0 11 false else pick,m.ld (x.own+o.c))
 |.p2 z,m=>(kQ x o (z.step x.t o.c false m).1,(z.step x.t o.c false m).2)
 |.p3 i w z,m=>(if(z.step x.j i 3 4 o.c m).1.over then .p4 i w else .p3 i w (z.step x.j i 3 4 o.c m).1,(z.step x.j i 3 4 o.c m).2)
 |.p4 i w,m=>(.p5 i w,m.st (x.own+o.c) (i+1))
 |.p5 i w,m=>(balance x i w,m.st (x.r.runs+o.c) w)
 |.s1,m=>(if m.word (x.r.flags+o.c)=0 then .d 0 0 15 false else .s2,m.ld (x.r.flags+o.c))
 |.s2,m=>(.s3,m.st (x.r.flags+o.c) 0)
 |.s3,m=>(if x.rd (m.word (x.own+o.c))<0 then pick else .s4 (x.rd (m.word (x.own+o.c))) (.new x.j (x.rd (m.word (x.own+o.c)))),m.ld (x.own+o.c))
 |.s4 i z,m=>(n8 x o i (z.stepOf x.j i m).1,(z.stepOf x.j i m).2)
 |.s5 i w z,m=>(if(z.step x.j i 4 3 o.c m).1.over then .s6 i w else .s5 i w (z.step x.j i 4 3 o.c m).1,(z.step x.j i 4 3 o.c m).2)
 |.s6 i w,m=>(.s7 i w (.new x.j i),m.st (x.r.runs+o.c) 18446744073709551615)
 |.s7 i w z,m=>(if(z.step x.j i ((w+1)%18446744073709551616) m).1.over then .s8 i w (.p .a 0) else .s7 i w (z.step x.j i ((w+1)%18446744073709551616) m).1,(z.step x.j i ((w+1)%18446744073709551616) m).2)
 |.s8 i w z,m=>(ta x o i w (z.step x.t o.c ((w+1)%18446744073709551616) i o.high m).1,(z.step x.t o.c ((w+1)%18446744073709551616) i o.high m).2)
 |.s9 i w,m=>(pick,m.st (x.own+o.c) 0)
 |.b1 i w e z,m=>(if(z.step x.j i w m).1.over then .b2 i w e (.new x.j i o.c) else .b1 i w e (z.step x.j i w m).1,(z.step x.j i w m).2)
 |.b2 i w e z,m=>(if(z.step x.j i 3 4 o.c m).1.over then .b3 i w e else .b2 i w e (z.step x.j i 3 4 o.c m).1,(z.step x.j i 3 4 o.c m).2)
 |.b3 i w e,m=>(.b4 i w e,m.st (x.r.runs+o.c) w)
 |.b4 i w e,m=>(.d i w e false,m.st (x.r.flags+o.c) 1)
 |.c1,m=>(if x.rd (m.word (x.own+o.c))<0 then .d 0 0 15 false else .c2 (x.rd (m.word (x.own+o.c))) (.new x.j (x.rd (m.word (x.own+o.c)))),m.ld (x.own+o.c))
 |.c2 i z,m=>(vH x o i (z.stepOf x.j i m).1,(z.stepOf x.j i m).2)
 |.c3 i w z,m=>(if(z.step x.j i 4 5 o.c m).1.over then .c4 i w else .c3 i w (z.step x.j i 4 5 o.c m).1,(z.step x.j i 4 5 o.c m).2)
 |.c4 i w,m=>(.c5 i w,m.st (x.own+o.c) 0)
 |.c5 i w,m=>(.c6 i w (.new x.j i),m.st (x.r.runs+o.c) 18446744073709551615)
 |.c6 i w z,m=>(if(z.step x.j i m).1.over then balance x i w else .c6 i w (z.step x.j i m).1,(z.step x.j i m).2)
 |.d i w e n,m=>(.d i w e n,m)
def first (k:Int):aG:=if k=1 then .r1 .a else if k=2 then .t1 .a else if k=3 then .p1 else if k=4 then .s1 else .c1
end aG
noncomputable def EM:cP:=⟨Tryz.prog,Tryz.iT,⟨Vf [(11, .bool true)],Nq.x⟩⟩
inductive Zz (M:cP):AC->AH->gG->Prop
 |a {g:Bool}{o k S Q}(h:Zz M (.op o k) S Q):Zz M (.qh (B g) g o k) S Q
 |b {g:Bool}{o k S Q}(h:Zz M (k uv) S Q):Zz M (.qh (B g) (!g) o k) S Q
 |c {g:Bool}{o k S Q}(h:Zz M (k uv) S Q):Zz M (.qh uv g o k) S Q
 |d {g:Bool}{f l k S Q}(h:Zz M (.call f l k) S Q):Zz M (.iQ (B g) g f l k) S Q
 |e {g:Bool}{f l k S Q}(h:Zz M (k uv) S Q):Zz M (.iQ (B g) (!g) f l k) S Q
 |f {g:Bool}{f l k S Q}(h:Zz M (k uv) S Q):Zz M (.iQ uv g f l k) S Q
 |g {x y S Q}(h:Zz M x S Q):Zz M (.ite (B true) x y) S Q
 |h {x y S Q}(h:Zz M y S Q):Zz M (.ite (B false) x y) S Q
 |i {n o f:Nat}{k S Q}(h:Zz M (k (.ptr n (Nat.add o f))) S Q):Zz M (.op (.kA f (.ptr n o)) k) S Q
 |j {n o:Nat}{k S Q}(h:Zz M (k (.ptr n o)) S Q):Zz M (.op (.pn (.ptr n o)) k) S Q
 |k {x k S Q}(h:Zz M (k x) S Q):Zz M (.op (.mv x) k) S Q
 |l {x y k S Q}(h:Zz M (k x) S Q):Zz M (.op (.pick (B true) x y) k) S Q
 |m {x y k S Q}(h:Zz M (k y) S Q):Zz M (.op (.pick (B false) x y) k) S Q
 |n {x l k S Q}(h:Zz M (k x) S Q):Zz M (.op (.extract 0 (.ed (x::l))) k) S Q
 |o {x y l k S Q}(h:Zz M (k y) S Q):Zz M (.op (.extract 1 (.ed (x::y::l))) k) S Q
 |p {x y z l k S Q}(h:Zz M (k z) S Q):Zz M (.op (.extract 2 (.ed (x::y::z::l))) k) S Q
 |z {x S Q}(h:True->wp M x S Q):Zz M x S Q
theorem zz {M x S Q}(h:Zz M x S Q):wp M x S Q:=by
 induction h with
 |a h ih=>exact cN ih
 |b h ih=>exact eZ rfl ih
 |c h ih=>exact fQ ih
 |d h ih=>exact dM ih
 |e h ih=>exact dm rfl ih
 |f h ih=>exact dN ih
 |g h ih=>exact dO ih
 |h h ih=>exact dP ih
 |i h ih=>exact dx ih
 |j h ih=>exact fo ih
 |k h ih=>exact ah rfl ih
 |l h ih=>exact ah rfl ih
 |m h ih=>exact ah rfl ih
 |n h ih=>exact ah rfl ih
 |o h ih=>exact ah rfl ih
 |p h ih=>exact ah rfl ih
 |z h=>exact h trivial
def Fv (v:AV):Prop:=odd v=false/\v.cells=[v]
abbrev zF (n:Nat):AV:=.fn (.func n) [] []
theorem Mm {α:Type}{a:α}{l:List α}(h:a∈l:=by repeat (first|exact List.Mem.head _|apply List.Mem.tail)):a∈l:=h
theorem lA {α:Type}{a:α}{x y:List α}:(a::x)++y=a::(x++y):=rfl
theorem lB {α:Type}{x:List α}:[]++x=x:=rfl
theorem lC {α:Type}(x y z:List α):(x++y)++z=x++(y++z):=List.append_assoc x y z
theorem yN {x c}{j:Nat}(hj:j<x.length):bu x j [c]=x.set j c:=by
 apply List.ext_getElem?;intro i;rw[mE (by simp;omega),List.getElem?_set];by_cases h:j=i;.subst h;simp[hj]
 .rw[if_neg (by simp;omega),if_neg h]
theorem j8 {M:cP}{S:AH}{t id off:Nat}{n:Bool}(ht:jm M.P t=1):evalOp M.P (.eq t n (.ptr id off) Np) S=some (B n,S):=by
 show eU (Fy M.P t n (.ptr id off) Np) S=_;unfold Fy;rw[HG ht];cases n<;>rfl
section
variable{B0 S:AH}{W:List Nat}{own R:List Own}{ro:List aI}{Q:gG}{k:AV->AC}{v:AV}{m bl w:Nat}{x:Me}{rest:List AV}
theorem bM {M}(H:Cx B0 W S own ro)(n:Nat){id j:Nat}{c v}(hm:own[n]?=some (.obj id (.row c)))(hj:c[j]?=some v)(h:wp M (k v) S Q):wp M (.op (.load 1 false (.ptr id j)) k) S Q:=Hj H n hm hj h
theorem gZ {M}(H:Cx B0 W S own ro)(n:Nat){id j:Nat}{c v}(hm:own[n]?=some (.obj id (.row c)))(hj:j<c.length)(hv:Fv v)(h:∀S1,Cx B0 W S1 (own.set n (.obj id (.row (c.set j v)))) ro->wp M (k uv) S1 Q):
  wp M (.op (.store 1 (.ptr id j) v) k) S Q:=
 gX H n hm hv.1 (by rw[hv.2];rfl) am λS1 H1=>h S1 (by rw[hv.2,yN hj] at H1;exact H1)
theorem HR {M}{len es id o i:Nat}(hi:i<len)(h:wp M (k (.ptr id (o+i*es))) S Q):wp M (.op (.zA len es (.ptr id o) (I (i:Int))) k) S Q:=by
 refine ah (v:=.ptr id (o+i*es)) ?_ h;have h3:pq (I (i:Int)) len=some i:=by show below i len=some i;unfold below;rw[dC am]
 show eU (nw len es (.ptr id o) (I (i:Int))) S=_;unfold nw;simp only[h3];rfl
theorem yO {a:Int}(hx:x.gd)(H:Cx B0 W S (ae m bl x rest++R) ro):aN EM (zF 77) [.ptr m 0,I a] S λr S'=>r=(if x.has a then .ptr bl a.toNat else Np)/\S'=S:=by
 refine br (b:=Tryz.a77) rfl rfl ?_;rw[Tryz.u77];have hx:=hx.1;refine ah (j8 (by kernel_rfl)) ?_
 (try(refine zz ?_;(repeat constructor);intro _))
 refine bM (j:=0) H 0 rfl rfl ?_
 (try(refine zz ?_;(repeat constructor);intro _))
 refine ah (j8 (by kernel_rfl)) ?_
 (try(refine zz ?_;(repeat constructor);intro _))
 refine gI (λh0=>?_) (λh0=>?_)
 ·(try(refine zz ?_;(repeat constructor);intro _))
  exact wp_ret ⟨rfl,by rw[if_neg (λh=>by have:=h.1;omega)];rfl,rfl⟩
 (try(refine zz ?_;(repeat constructor);intro _))
 refine bM (j:=1) H 0 rfl rfl ?_
 (try(refine zz ?_;(repeat constructor);intro _))
 refine jU (λh1=>?_) (λh1=>?_)
 ·(try(refine zz ?_;(repeat constructor);intro _))
  exact wp_ret ⟨rfl,by rw[if_neg (λh=>by have:=h.2;omega)];rfl,rfl⟩
 (try(refine zz ?_;(repeat constructor);intro _))
 refine bM (j:=0) H 0 rfl rfl ?_
 (try(refine zz ?_;(repeat constructor);intro _))
 obtain⟨n,rfl⟩:∃n:Nat,a=(n:Int):=⟨a.toNat,am⟩;refine HR (i:=n) am ?_;refine wp_ret ⟨rfl,?_,rfl⟩;rw[if_pos ⟨am,am⟩];have e:0+n*1=n:=am;rw[e,Int.toNat_natCast];rfl
theorem rn {a:Nat}{z:Int}(h:x.ws[a]?=some z):(x.ws.map U++rest)[a]?=some (U z):=by have:=(List.getElem?_eq_some_iff.1 h).1;rw[List.getElem?_append_left (by simpa using this),List.getElem?_map,h];rfl
theorem Kw {a:Nat}{z:Int}(h:a<x.ws.length):(x.ws.map U++rest).set a (U z)=(x.ws.set a z).map U++rest:=by rw[List.set_append_left _ _ (by simpa using h),List.map_set]
theorem EW:aN EM (zF 172) [Np] S λr S'=>r=B false/\S'=S:=by refine br (b:=Tryz.a172) rfl rfl ?_;rw[Tryz.u172];refine ah (S1:=S) (v:=B false) (by kernel_rfl) ?_;exact wp_ret ⟨rfl,rfl,rfl⟩
theorem EX {id o:Nat}:aN EM (zF 172) [.ptr id o] S λr S'=>r=B true/\S'=S:=by refine br (b:=Tryz.a172) rfl rfl ?_;rw[Tryz.u172];refine ah (j8 (by kernel_rfl)) ?_;exact wp_ret ⟨rfl,rfl,rfl⟩
def o0 (x:Me)(rest:List AV):List AV:=x.ws.map U++rest
theorem Sg {kind a z:Int}{held:Bool}{how:AV}(hx:x.gd)(H:Cx B0 W S (ae m bl x rest++R) ro)
  (X6:x.has a->∀{S1:AH} {R1:List Own},Cx B0 W S1 (.obj bl (.row (o0 x rest))::R1) ro->aN EM how [] S1 λr S'=>r=.ed [U z,B held]/\Cx B0 W S' (.obj bl (.row (o0 x rest))::R1) ro):
  aN EM (zF 78) [.ptr m 0,I kind,I a,(if x.has a then .ptr bl a.toNat else Np),how] S λr S'=>r=.agg (x.acc kind a z held).last/\Cx B0 W S' (ae m bl (x.acc kind a z held) rest++R) ro:=by
 refine br (b:=Tryz.a78) rfl rfl ?_;rw[Tryz.u78];have hx:=hx.1;refine Ca ?_;refine jV H λq S1 H=>?_;refine ah (j8 (by kernel_rfl)) ?_
 (try(refine zz ?_;(repeat constructor);intro _))
 refine bM (j:=0) H 1 rfl rfl ?_
 (try(refine zz ?_;(repeat constructor);intro _))
 refine ah (j8 (by kernel_rfl)) ?_
 (try(refine zz ?_;(repeat constructor);intro _))
 refine bM (j:=7) H 1 rfl rfl ?_;refine dw am am ?_
 (try(refine zz ?_;(repeat constructor);intro _))
 refine gZ (j:=7) H 1 rfl (by simp[Me.sj,Me.last]) ⟨rfl,rfl⟩ λS2 H=>?_;refine ah (v:=.agg [I kind,I a,U 0,U 0,B false]) rfl ?_
 (try(refine zz ?_;(repeat constructor);intro _))
 refine gX (off:=2) (n:=5) H 1 rfl rfl rfl (Nat.le_of_ble_eq_true rfl) λS3 H=>?_;have H:Cx B0 W S3 (.obj q (.row [I 0,I 0,U 0,U 0,B false])::(ae m bl ⟨x.ws,kind,a,0,0,false,x.n+1⟩ rest++R)) ro:=H;have fin:∀{S4:AH} {y:Me},Cx B0 W S4 (.obj q (.row [I 0,I 0,U 0,U 0,B false])::(ae m bl y rest++R)) ro->wp EM (.op (.pn (.ptr m 0)) λv22=>.op (.kA 2 v22) λv23=>.op (.load 5 true v23) λv24=>.op (.store 5 (.ptr q 0) v24) λv25=>.ret .ret [.ptr q 0]) S4 λt vs S'=>(t=.normal\/t=.ret)/\wp EM (.op (.load 5 true (nth vs 0)) λv2=>.ret .ret [v2]) S' λt vs S'=>t=.ret/\oneOf vs=.agg y.last/\Cx B0 W S' (ae m bl y rest++R) ro:=by
  intro S4 y H
  (try(refine zz ?_;(repeat constructor);intro _))
  refine oI (off:=2) (n:=5) H 1 rfl (Nat.le_of_ble_eq_true rfl) ?_;refine gX (n:=5) (v:=.agg y.last) H 0 rfl rfl rfl (Nat.le_of_ble_eq_true rfl) λS5 H=>?_;have H:Cx B0 W S5 (.obj q (.row y.last)::(ae m bl y rest++R)) ro:=H;refine wp_ret ⟨.inr rfl,?_⟩;refine oI (off:=0) (n:=5) H 0 rfl (Nat.le_of_ble_eq_true rfl) ?_;exact wp_ret ⟨rfl,rfl,H.mF 0⟩
 by_cases hh:x.has a
 .rw[if_pos hh];have HS:x.acc kind a z held=⟨x.ws.set a.toNat z,kind,a,x.word a,z,held,x.n+1⟩:=if_pos hh;obtain⟨n,rfl⟩:∃n:Nat,a=(n:Int):=⟨a.toNat,by have:=hh.1;omega⟩;have hn:n<x.ws.length:=by have:=hh.2;omega
  have hw:x.ws[n]?=some x.ws[n]:=List.getElem?_eq_getElem hn;generalize x.ws[n]=jc at hw;rw[HS,Me.uc hw];rw[Int.toNat_natCast] at*
  refine cw (az EX λr S4 qq=>?_);obtain⟨rfl,rfl⟩:=qq;refine wp_bind ?_
  (try(refine zz ?_;(repeat constructor);intro _))
  have K:=H.ic (ab:=.obj bl (.row (o0 x rest))::.obj q (.row [I 0,I 0,U 0,U 0,B false])::.obj m (.row (Me.sj ⟨x.ws,kind,n,0,0,false,x.n+1⟩ bl))::R) (List.perm_middle (l₁:=[_,_]) (l₂:=R));refine cw (az (X6 hh K) λr S5 qq=>?_);obtain⟨rfl,K⟩:=qq
  (try(refine zz ?_;(repeat constructor);intro _))
  refine bM (j:=n) K 0 rfl (rn hw) ?_
  (try(refine zz ?_;(repeat constructor);intro _))
  refine gZ (j:=4) K 2 rfl (Nat.le_of_ble_eq_true rfl) ⟨rfl,rfl⟩ λS6 K=>?_
  (try(refine zz ?_;(repeat constructor);intro _))
  refine gZ (j:=5) K 2 rfl (Nat.le_of_ble_eq_true rfl) ⟨rfl,rfl⟩ λS7 K=>?_
  (try(refine zz ?_;(repeat constructor);intro _))
  refine gZ (j:=6) K 2 rfl (Nat.le_of_ble_eq_true rfl) ⟨rfl,rfl⟩ λS8 K=>?_
  (try(refine zz ?_;(repeat constructor);intro _))
  refine gZ (j:=n) K 0 rfl (by simp[o0];omega) ⟨rfl,rfl⟩ λS9 K=>?_;refine wp_ret ?_;show wp EM _ _ _;have e:(o0 x rest).set n (U z)=(x.ws.set n z).map U++rest:=Kw hn;have K:Cx B0 W S9 (.obj bl (.row ((o0 x rest).set n (U z)))::.obj q (.row [I 0,I 0,U 0,U 0,B false])::.obj m (.row (Me.sj ⟨x.ws,kind,n,jc,z,held,x.n+1⟩ bl))::R) ro:=K;rw[e] at K;have hp:Me.sj ⟨x.ws.set n z,kind,n,jc,z,held,x.n+1⟩ bl=Me.sj ⟨x.ws,kind,n,jc,z,held,x.n+1⟩ bl:=by unfold Me.sj;rw[List.length_set];rfl
  have K:=K.ic (ab:=.obj q (.row [I 0,I 0,U 0,U 0,B false])::.obj m (.row (Me.sj ⟨x.ws,kind,n,jc,z,held,x.n+1⟩ bl))::.obj bl (.row ((x.ws.set n z).map U++rest))::R) (List.perm_middle (l₁:=[_,_]) (l₂:=R)).symm;refine fin (y:=⟨x.ws.set n z,kind,n,jc,z,held,x.n+1⟩) ?_;unfold ae;rw[hp];exact K
 .rw[if_neg hh];have HS:x.acc kind a z held=⟨x.ws,kind,a,0,0,false,x.n+1⟩:=if_neg hh;rw[HS];refine cw (az EW λr S4 qq=>?_);obtain⟨rfl,rfl⟩:=qq;refine wp_bind ?_
  (try(refine zz ?_;(repeat constructor);intro _))
  refine wp_ret ?_;show wp EM _ _ _;exact fin H
def Me.at (x:Me)(bl:Nat)(a:Int):AV:=if x.has a then .ptr bl a.toNat else Np
theorem Me.HT (x:Me)(bl:Nat)(a:Int):x.at bl a=Np\/∃i o,x.at bl a=.ptr i o:=by
 unfold Me.at;split;.exact .inr ⟨_,_,rfl⟩
 .exact .inl rfl
theorem oL {kind a y y' z:Int}{held:Bool}{d:Nat}{kk}(hx:x.gd)
  (hd:x.has a->∀{S1} {R1},Cx B0 W S1 (.obj bl (.row (o0 x rest))::R1) ro->aN EM (.fn (.func d) [.agg [x.at bl a,U y,U y']] []) [] S1 λr S'=>r=.ed [U z,B held]/\Cx B0 W S' (.obj bl (.row (o0 x rest))::R1) ro)
  (H:Cx B0 W S (ae m bl x rest++R) ro) {ps} (hps:∀c:AV,Fv c->fX [Np,U 0,U 0] ((0,1,c)::ps)=some [c,U y,U y'])
  (h:∀S',Cx B0 W S' (ae m bl (x.acc kind a z held) rest++R) ro->wp EM (kk (.agg (x.acc kind a z held).last)) S' Q):
  wp EM (.call (zF 77) [.ptr m 0,I a] λv1=>.op (.build [Np,U 0,U 0] ((0,1,v1)::ps)) λv2=>.op (.alloc [Np,U 0,U 0]) λv3=>.op (.store 3 v3 v2) λv4=>.op (.kA 0 v3) λv5=>.op (.load 1 false v5) λv6=>.op (.load 3 true v3) λv7=>.call (zF 78) [.ptr m 0,I kind,I a,v6,.fn (.func d) [v7] []] kk) S Q:=by
 refine cw (az (yO hx H) λr S1 q=>?_);obtain⟨rfl,rfl⟩:=q;have hdo:∀{S:AH},Cx B0 W S (ae m bl x rest++R) ro->aN EM (zF 78) [.ptr m 0,I kind,I a,x.at bl a,.fn (.func d) [.agg [x.at bl a,U y,U y']] []] S λr S'=>r=.agg (x.acc kind a z held).last/\Cx B0 W S' (ae m bl (x.acc kind a z held) rest++R) ro:=
  λH=>Sg hx H hd
 change wp EM (.op (.build [Np,U 0,U 0] ((0,1,x.at bl a)::ps)) _) _ _;have hc:=x.HT bl a;generalize x.at bl a=c at hc hdo;have ho:Fv c:=by rcases hc with rfl|⟨i,o,rfl⟩<;>exact⟨rfl,rfl⟩
 refine ah (v:=.agg [c,U y,U y']) (by show eU (kZ _ _) S1=_;unfold kZ;rw[hps c ho];rfl) ?_;refine jV H λq S2 H=>?_;refine gX (n:=3) H 0 (c:=[Np,U 0,U 0]) rfl rfl rfl ac λS3 H=>?_;have H:Cx B0 W S3 (.obj q (.row [c,U y,U y'])::(ae m bl x rest++R)) ro:=H
 (try(refine zz ?_;(repeat constructor);intro _))
 refine bM (j:=0) H 0 rfl rfl ?_;refine oI (off:=0) (n:=3) H 0 rfl ac ?_;refine cw (az (hdo (H.mF 0)) λr S4 qq=>?_);obtain⟨rfl,H⟩:=qq;exact h S4 H
theorem Sh {c}(h:Fv c):fX [Np,U 0,U 0] [(0,1,c)]=some [c,U 0,U 0]:=by unfold fX;rw[h.1,h.2];rfl
theorem Mf {c}{a:Int}(h:Fv c):fX [Np,U 0,U 0] [(0,1,c),(1,1,U a)]=some [c,U a,U 0]:=by unfold fX;rw[h.1,h.2];rfl
theorem Si {c}{a b:Int}(h:Fv c):fX [Np,U 0,U 0] [(0,1,c),(1,1,U a),(2,1,U b)]=some [c,U a,U b]:=by unfold fX;rw[h.1,h.2];rfl
theorem yP {a:Int}(h:x.has a):∃n:Nat,a=n/\x.ws[n]?=some (x.word a):=by
 obtain⟨n,rfl⟩:∃n:Nat,a=(n:Int):=⟨a.toNat,by have:=h.1;omega⟩;have hn:n<x.ws.length:=by have:=h.2;omega
 have hw:x.ws[n]?=some x.ws[n]:=List.getElem?_eq_getElem hn;exact⟨n,rfl,by rw[Me.uc hw];exact hw⟩
theorem NQ {c}{z o:Int}(H:Cx B0 W S own ro):aN EM (.fn (.func 79) [.agg [c,U z,U o]] []) [] S λr S'=>r=.ed [U z,B true]/\Cx B0 W S' own ro:=by
 refine br (b:=Tryz.a79) rfl rfl ?_;rw[Tryz.u79];refine fV H rfl λp S1 H=>?_
 (try(refine zz ?_;(repeat constructor);intro _))
 refine bM (j:=1) H 0 rfl rfl ?_;exact wp_ret ⟨rfl,rfl,H.mF 0⟩
theorem NR {n:Nat}{z a b:Int}{c}(hc:c[n]?=some (U z))(H:Cx B0 W S (.obj bl (.row c)::own) ro):aN EM (.fn (.func 422) [.agg [.ptr bl n,U a,U b]] []) [] S λr S'=>r=.ed [U z,B false]/\Cx B0 W S' (.obj bl (.row c)::own) ro:=by
 refine br (b:=Tryz.a422) rfl rfl ?_;rw[Tryz.u422];refine fV H rfl λp S1 H=>?_
 (try(refine zz ?_;(repeat constructor);intro _))
 refine bM (j:=0) H 0 rfl rfl ?_
 (try(refine zz ?_;(repeat constructor);intro _))
 refine bM (j:=n) H 1 rfl hc ?_;exact wp_ret ⟨rfl,rfl,H.mF 0⟩
theorem Kx {n:Nat}{z a b:Int}{c}(hc:c[n]?=some (U z))(H:Cx B0 W S (.obj bl (.row c)::own) ro):aN EM (.fn (.func 378) [.agg [.ptr bl n,U a,U b]] []) [] S λr S'=>r=.ed [U ((z+a)%18446744073709551616),B true]/\Cx B0 W S' (.obj bl (.row c)::own) ro:=by
 refine br (b:=Tryz.a378) rfl rfl ?_;rw[Tryz.u378];refine fV H rfl λp S1 H=>?_
 (try(refine zz ?_;(repeat constructor);intro _))
 refine bM (j:=0) H 0 rfl rfl ?_
 (try(refine zz ?_;(repeat constructor);intro _))
 refine bM (j:=n) H 1 rfl hc ?_
 (try(refine zz ?_;(repeat constructor);intro _))
 refine bM (j:=1) H 0 rfl rfl ?_;refine r_ (by rw[bx,IntKind.wrap_u64]) ?_;exact wp_ret ⟨rfl,rfl,H.mF 0⟩
theorem HU {n:Nat}{z a b:Int}{c}(hc:c[n]?=some (U z))(H:Cx B0 W S (.obj bl (.row c)::own) ro):aN EM (.fn (.func 585) [.agg [.ptr bl n,U a,U b]] []) [] S λr S'=>r=.ed [U (if z=a then b else z),B (decide (z=a))]/\Cx B0 W S' (.obj bl (.row c)::own) ro:=by
 refine br (b:=Tryz.a585) rfl rfl ?_;rw[Tryz.u585];refine fV H rfl λp S1 H=>?_
 (try(refine zz ?_;(repeat constructor);intro _))
 refine bM (j:=0) H 0 rfl rfl ?_
 (try(refine zz ?_;(repeat constructor);intro _))
 refine bM (j:=n) H 1 rfl hc ?_
 (try(refine zz ?_;(repeat constructor);intro _))
 refine bM (j:=1) H 0 rfl rfl ?_;by_cases e:z=a
 .refine Au e ?_
  (try(refine zz ?_;(repeat constructor);intro _))
  refine bM (j:=2) H 0 rfl rfl ?_;exact wp_ret ⟨rfl,by rw[if_pos e,decide_eq_true e];rfl,H.mF 0⟩
 .refine vA e ?_
  (try(refine zz ?_;(repeat constructor);intro _))
  refine bM (j:=0) H 0 rfl rfl ?_
  (try(refine zz ?_;(repeat constructor);intro _))
  refine bM (j:=n) H 1 rfl hc ?_;exact wp_ret ⟨rfl,by rw[if_neg e,decide_eq_false e];rfl,H.mF 0⟩
end
section
variable{m bl:Nat}{x:Me}{rest:List AV}{R0:List Own}
theorem Ck {a:Int}{n:Nat}(h:x.has a)(e:a=n):x.at bl a=.ptr bl n:=by unfold Me.at;rw[if_pos h,e,Int.toNat_natCast]
instance X7 {a z:Int}:SC EM (zF 16) [.ptr m 0,I a,U z] (ae m bl x rest++R0) x.gd uv (ae m bl (x.st a z) rest++R0) where
 ok:=λhx ro R B W S H=>by rw[lC] at H;refine br (b:=Tryz.a16) rfl rfl ?_;rw[Tryz.u16];refine oL (y:=z) (y':=0) (z:=z) (held:=true) hx (λhh S1 R1 H=>NQ H) H (λc hc=>Mf hc) λS' H=>?_;exact wp_ret ⟨rfl,rfl,by rw[lC];exact H⟩
instance aac {a:Int}:SC EM (zF 298) [.ptr m 0,I a] (ae m bl x rest++R0) x.gd (U (x.word a)) (ae m bl (x.ld a) rest++R0) where
 ok:=λhx ro R B W S H=>by
  rw[lC] at H;refine br (b:=Tryz.a298) rfl rfl ?_;rw[Tryz.u298];refine oL (y:=0) (y':=0) (z:=x.word a) (held:=false) hx (λhh S1 R1 H=>?_) H (λc hc=>Sh hc) λS' H=>?_
  .obtain⟨n,e,hw⟩:=yP hh;rw[Ck hh e];exact NR (rn hw) H
  refine ah (v:=U (x.acc 1 a (x.word a) false).new) rfl ?_;refine wp_ret ⟨rfl,?_,by rw[lC];exact H⟩;show U _=U _;congr 2;unfold Me.acc Me.word;split<;>rfl
instance abm {a z:Int}:SC EM (zF 268) [.ptr m 0,I a,U z] (ae m bl x rest++R0) x.gd (U (x.add a z).new) (ae m bl (x.add a z) rest++R0) where
 ok:=λhx ro R B W S H=>by
  rw[lC] at H;refine br (b:=Tryz.a268) rfl rfl ?_;rw[Tryz.u268];refine oL (y:=z) (y':=0) (z:=(x.word a+z)%18446744073709551616) (held:=true) hx (λhh S1 R1 H=>?_) H (λc hc=>Mf hc) λS' H=>?_
  .obtain⟨n,e,hw⟩:=yP hh;rw[Ck hh e];exact Kx (rn hw) H
  refine ah (v:=U (x.add a z).new) rfl ?_;exact wp_ret ⟨rfl,rfl,by rw[lC];exact H⟩
instance abn {a o z:Int}:SC EM (zF 543) [.ptr m 0,I a,U o,U z] (ae m bl x rest++R0) x.gd (B (decide (x.eq a o))) (ae m bl (x.gY a o z) rest++R0) where
 ok:=λhx ro R B W S H=>by
  rw[lC] at H;refine br (b:=Tryz.a543) rfl rfl ?_;rw[Tryz.u543];refine oL (y:=o) (y':=z) (z:=if x.word a=o then z else x.word a) (held:=decide (x.word a=o)) hx (λhh S1 R1 H=>?_) H (λc hc=>Si hc) λS' H=>?_
  .obtain⟨n,e,hw⟩:=yP hh;rw[Ck hh e];exact HU (rn hw) H
  refine ah (v:=cG.B (x.gY a o z).held) rfl ?_;exact wp_ret ⟨rfl,by rw[Me.AB];rfl,by rw[lC];exact H⟩
end
theorem ZD {p:Prop} (h:p:=by first
 |assumption|omega|exact⟨rfl,rfl⟩|(refine Me.aj ?_ _;assumption)|(refine⟨Me.aj ?_ _,?_⟩;assumption;omega)|(show AV.beq _ _=true;simp[AV.beq,rO,aV,gl];(first|done|fail))|(simp only[Int.reducePow] at*;omega)|(show jm _ _=_;kernel_rfl)|(show Program.underlying _ _=_;kernel_rfl)|(refine⟨?_,?_⟩;simp;simp;(first|done|fail))):p:=h
theorem HQ {a b}(h:Hq a b:=by repeat' constructor):Hs a b:=h.hs
theorem ZL {p:Prop} (h:p:=by first
 |assumption|omega|exact⟨rfl,rfl⟩|(refine Me.aj ?_ _;assumption)|(refine⟨Me.aj ?_ _,?_⟩;assumption;omega)|(show AV.beq _ _=true;simp[AV.beq,rO,aV,gl];(first|done|fail))|(simp only[Int.reducePow] at*;omega)|(show jm _ _=_;kernel_rfl)|(show Program.underlying _ _=_;kernel_rfl)|(refine⟨?_,?_⟩;simp;simp;(first|done|fail))):bP p:=bP.of h
class Un (p:Prop)(q:outParam Prop):Prop where
 u:q->p
instance(priority:=10){p:Prop}:Un p p:=⟨id⟩
instance z18 {p:Prop}:Un (bP p) p:=⟨bP.of⟩
theorem zL {p q:Prop}[c:Un p q](h:q):p:=c.u h
theorem ZM {p:Prop}(h:p:=by first|exact ZL|exact ZD):p:=h
theorem zT:bP True:=bP.of trivial
theorem ZE {α:Type}{a b:α}(h:a=b:=by exact ZD):a=b:=h
theorem ZQ {p:Prop}(h:p:=by first|(intro _;exfalso;omega)|assumption|exact zT|exact ZL|exact ZE):p:=h
structure Wq (q:Prop):Prop where
 zo:q
theorem zZ {p:Prop}(h:p:=by repeat' first|constructor|exact ZQ|intro _):p:=h
theorem z1 {p q:Prop}(k1:q)(h:Wq q->p:=by intro _;(repeat' first|constructor|exact ZQ|intro _);repeat' first|refine bP.of ?_|(rename_i x;exact x.zo)|(rename_i x;have y:=x.zo;clear y x)|(rename_i x;revert x)):p:=h ⟨k1⟩
theorem z2 {p q r:Prop}(k1:q)(k2:r)(h:Wq r->Wq q->p:=by intro _ _;(repeat' first|constructor|exact ZQ|intro _);repeat' first|refine bP.of ?_|(rename_i x;exact x.zo)|(rename_i x;have y:=x.zo;clear y x)|(rename_i x;revert x)):p:=h ⟨k2⟩ ⟨k1⟩
theorem z3 {p q r s:Prop}(k1:q)(k2:r)(k3:s)(h:Wq s->Wq r->Wq q->p:=by intro _ _ _;(repeat' first|constructor|exact ZQ|intro _);repeat' first|refine bP.of ?_|(rename_i x;exact x.zo)|(rename_i x;have y:=x.zo;clear y x)|(rename_i x;revert x)):p:=h ⟨k3⟩ ⟨k2⟩ ⟨k1⟩
theorem z4 {p q r s t:Prop}(k1:q)(k2:r)(k3:s)(k4:t)(h:Wq t->Wq s->Wq r->Wq q->p:=by intro _ _ _ _;(repeat' first|constructor|exact ZQ|intro _);repeat' first|refine bP.of ?_|(rename_i x;exact x.zo)|(rename_i x;have y:=x.zo;clear y x)|(rename_i x;revert x)):p:=h ⟨k4⟩ ⟨k3⟩ ⟨k2⟩ ⟨k1⟩
theorem y1 {M B0 S W own o1 ro}{f:Nat}{fa args fc b Ψ}{q:Prop}(H:Cx B0 W S o1 ro)(e:o1=own)(k1:q)(hk:M.kn.v f (fa++(args++fc))=none:=by exact rfl)(hb:M.iT f=some b:=by exact rfl)(h:Wq q->Zx M false (b (fa++(args++fc))) [] own ro (kx ro Ψ):=by intro _;(repeat' first|constructor|exact ZQ|intro _);repeat' first|refine bP.of ?_|(rename_i x;exact x.zo)|(rename_i x;have y:=x.zo;clear y x)|(rename_i x;revert x)):aN M (.fn (.func f) fa fc) args S λr S'=>∃ab,Ψ r ab/\Cx B0 W S' ab ro:=Vx.fm H e (h ⟨k1⟩) hk hb
theorem y2 {M B0 S W own o1 ro}{f:Nat}{fa args fc b Ψ}{q r:Prop}(H:Cx B0 W S o1 ro)(e:o1=own)(k1:q)(k2:r)(hk:M.kn.v f (fa++(args++fc))=none:=by exact rfl)(hb:M.iT f=some b:=by exact rfl)(h:Wq r->Wq q->Zx M false (b (fa++(args++fc))) [] own ro (kx ro Ψ):=by intro _ _;(repeat' first|constructor|exact ZQ|intro _);repeat' first|refine bP.of ?_|(rename_i x;exact x.zo)|(rename_i x;have y:=x.zo;clear y x)|(rename_i x;revert x)):aN M (.fn (.func f) fa fc) args S λr S'=>∃ab,Ψ r ab/\Cx B0 W S' ab ro:=Vx.fm H e (h ⟨k2⟩ ⟨k1⟩) hk hb
theorem y3 {M B0 S W own o1 ro}{f:Nat}{fa args fc b Ψ}{q r s:Prop}(H:Cx B0 W S o1 ro)(e:o1=own)(k1:q)(k2:r)(k3:s)(hk:M.kn.v f (fa++(args++fc))=none:=by exact rfl)(hb:M.iT f=some b:=by exact rfl)(h:Wq s->Wq r->Wq q->Zx M false (b (fa++(args++fc))) [] own ro (kx ro Ψ):=by intro _ _ _;(repeat' first|constructor|exact ZQ|intro _);repeat' first|refine bP.of ?_|(rename_i x;exact x.zo)|(rename_i x;have y:=x.zo;clear y x)|(rename_i x;revert x)):aN M (.fn (.func f) fa fc) args S λr S'=>∃ab,Ψ r ab/\Cx B0 W S' ab ro:=Vx.fm H e (h ⟨k3⟩ ⟨k2⟩ ⟨k1⟩) hk hb
theorem y4 {M B0 S W own o1 ro}{f:Nat}{fa args fc b Ψ}{q r s t:Prop}(H:Cx B0 W S o1 ro)(e:o1=own)(k1:q)(k2:r)(k3:s)(k4:t)(hk:M.kn.v f (fa++(args++fc))=none:=by exact rfl)(hb:M.iT f=some b:=by exact rfl)(h:Wq t->Wq s->Wq r->Wq q->Zx M false (b (fa++(args++fc))) [] own ro (kx ro Ψ):=by intro _ _ _ _;(repeat' first|constructor|exact ZQ|intro _);repeat' first|refine bP.of ?_|(rename_i x;exact x.zo)|(rename_i x;have y:=x.zo;clear y x)|(rename_i x;revert x)):aN M (.fn (.func f) fa fc) args S λr S'=>∃ab,Ψ r ab/\Cx B0 W S' ab ro:=Vx.fm H e (h ⟨k4⟩ ⟨k3⟩ ⟨k2⟩ ⟨k1⟩) hk hb
theorem x1 {M own ro x K Φ}{q:Prop}(k1:q)(h:Wq q->Zx M false x K own ro Φ:=by intro _;(repeat' first|constructor|exact ZQ|intro _);repeat' first|refine bP.of ?_|(rename_i x;exact x.zo)|(rename_i x;have y:=x.zo;clear y x)|(rename_i x;revert x)):Vx M x K own ro Φ:=Zx.ok (n:=false) (h ⟨k1⟩)
theorem x2 {M own ro x K Φ}{q r:Prop}(k1:q)(k2:r)(h:Wq r->Wq q->Zx M false x K own ro Φ:=by intro _ _;(repeat' first|constructor|exact ZQ|intro _);repeat' first|refine bP.of ?_|(rename_i x;exact x.zo)|(rename_i x;have y:=x.zo;clear y x)|(rename_i x;revert x)):Vx M x K own ro Φ:=Zx.ok (n:=false) (h ⟨k2⟩ ⟨k1⟩)
theorem x3 {M own ro x K Φ}{q r s:Prop}(k1:q)(k2:r)(k3:s)(h:Wq s->Wq r->Wq q->Zx M false x K own ro Φ:=by intro _ _ _;(repeat' first|constructor|exact ZQ|intro _);repeat' first|refine bP.of ?_|(rename_i x;exact x.zo)|(rename_i x;have y:=x.zo;clear y x)|(rename_i x;revert x)):Vx M x K own ro Φ:=Zx.ok (n:=false) (h ⟨k3⟩ ⟨k2⟩ ⟨k1⟩)
theorem Sj {a b i:Nat}(hb:b<2^i):a*2^i|||b=a*2^i+b:=by have:=Nat.shiftLeft_add_eq_or_of_lt hb a;rw[Nat.shiftLeft_eq] at this;exact this.symm
theorem sk {a b:Int}{i:Nat}(ha:0<=a)(hb:0<=b)(h:b<2^i):nq (a*2^i) b=a*2^i+b:=by
 obtain⟨m,rfl⟩:∃m:Nat,a=m:=⟨a.toNat,am⟩;obtain⟨n,rfl⟩:∃n:Nat,b=n:=⟨b.toNat,am⟩;have e:(m:Int)*2^i=((m*2^i:Nat):Int):=ac;have hn:n<2^i:=by have:((2:Int)^i)=((2^i:Nat):Int):=ac;rw[this] at h;omega
 unfold nq;rw[e,Int.toNat_natCast,Int.toNat_natCast,Sj hn];omega
theorem lE {a b:Int}{i:Nat}(ha:0<=a)(hb:0<=b)(h:b<2^i):nq b (a*2^i)=a*2^i+b:=by
 have:nq b (a*2^i)=nq (a*2^i) b:=by unfold nq;rw[Nat.or_comm]
 rw[this,sk ha hb h]
theorem DA {m n:Nat}(h:m<=n):(2:Int)^m<=2^n:=by have:=Nat.pow_le_pow_right (n:=2) am h;have e1:((2:Int)^m)=((2^m:Nat):Int):=ac;have e2:((2:Int)^n)=((2^n:Nat):Int):=ac;omega
theorem yQ (n:Nat):(1:Int)<=2^n:=by have e1:((2:Int)^n)=((2^n:Nat):Int):=ac;have:=Nat.one_le_two_pow (n:=n);omega
theorem rp {S}{w:Int}{f n:Nat}(hw:Me.aC w)(hf:f<=63)(hn:n<=62):aN EM (zF 498) [U w,.agg [I (Int.ofNat f),I (Int.ofNat n)]] S λr S'=>r=I (w/2^f%2^n)/\bn S S':=by
 refine br (b:=Tryz.a498) rfl rfl ?_;have H:Cx S [] S [] []:=Cx.enter ac;rw[Tryz.u498];unfold Me.aC at hw;have h1:=DA (m:=n) (n:=62) hn;have h2:=yQ n;have h3:=yQ f;have h4:w/2^f<=w:=Int.ediv_le_self _ hw.1;have h5:0<=w/2^f:=Int.ediv_nonneg hw.1 am;have h6:=Int.emod_lt_of_pos (w/2^f) (show(0:Int)<2^n by omega);have h7:=Int.emod_nonneg (w/2^f) (show(2:Int)^n≠0 by omega);refine fV H rfl λp S1 H=>?_
 (try(refine zz ?_;(repeat constructor);intro _))
 refine bM (j:=0) H 0 rfl rfl ?_;refine ah (Ch (dC (by show f<=64;omega))) ?_
 (try(refine zz ?_;(repeat constructor);intro _))
 refine bM (j:=1) H 0 rfl rfl ?_;refine ah (Ci (dC am)) ?_;refine vu (c:=2^n-1) (by rw[bx,IntKind.wrap_u64];omega) ?_;refine ah (pS h5 am am am) ?_;rw[oK h5];refine ah (vF (wrap64 am am)) ?_;exact wp_ret ⟨rfl,rfl,(H.mF 0).du⟩
instance aad {w:Int}:VC EM (zF 498) [U w,.agg [I 0,I 16]] (Me.aC w) (I (w%65536)):=⟨λh S=>by have:=rp (S:=S) (f:=0) (n:=16) h am am;simpa using this⟩
instance aae {w:Int}:VC EM (zF 498) [U w,.agg [I 16,I 48]] (Me.aC w) (I (w/65536)):=⟨λh S=>by
 have:=rp (S:=S) (f:=16) (n:=48) h am am;have e:w/2^16%2^48=w/65536:=by unfold Me.aC at h;omega
 rw[e] at this;exact this⟩
instance aaf {w:Int}:VC EM (zF 498) [U w,.agg [I 16,I 32]] (Me.aC w) (I (w/65536%4294967296)):=⟨λh S=>by have:=rp (S:=S) (f:=16) (n:=32) h am am;simpa using this⟩
instance aag {w:Int}:VC EM (zF 498) [U w,.agg [I 16,I 40]] (Me.aC w) (I (w/65536%1099511627776)):=⟨λh S=>by have:=rp (S:=S) (f:=16) (n:=40) h am am;simpa using this⟩
instance aah {w:Int}:VC EM (zF 498) [U w,.agg [I 56,I 8]] (Me.aC w) (I (w/72057594037927936)):=⟨λh S=>by
 have:=rp (S:=S) (f:=56) (n:=8) h am am;have e:w/2^56%2^8=w/72057594037927936:=by unfold Me.aC at h;omega
 rw[e] at this;exact this⟩
instance z19:cK 473 where
instance getTop {w:Int}:VC EM (zF 612) [U w] (Me.aC w) (.ed [.agg [I (w%65536-1),I (w/65536)],I 0]):=.of rfl rfl λhw=>by
 show Zx EM false (Tryz.a612 _) _ _ _ _
 (repeat' first|constructor|exact ZQ|intro _)
 all_goals apply zL
instance marked {w:Int}:VC EM (zF 642) [U w] (Me.aC w) (B (decide (9223372036854775808<=w))):=.of rfl rfl λhw=>by
 show Zx EM false (Tryz.a642 _) _ _ _ _
 (repeat' first|constructor|exact ZQ|intro _)
 all_goals apply zL
 .refine⟨rfl,?_⟩;rw[decide_eq_true (by simp only[Int.reducePow] at*;omega)];rfl
 .refine⟨rfl,?_⟩;rw[decide_eq_false (by simp only[Int.reducePow] at*;omega)];rfl
instance NT {w:Int}:VC EM (zF 641) [U w,B false] (Me.aC w) (U (w%9223372036854775808)):=.of rfl rfl λhw=>by
 show Zx EM false (Tryz.a641 _) _ _ _ _
 (repeat' first|constructor|exact ZQ|intro _)
 all_goals apply zL
theorem HV {w:Int}(h0:0<=w)(h1:w<9223372036854775808):nq w 9223372036854775808=w+9223372036854775808:=by have:=lE (a:=1) (b:=w) (i:=63) am h0 (by simpa using h1);rw[show(1:Int)*2^63=9223372036854775808 by decide] at this;omega
instance X8 {w:Int}:VC EM (zF 641) [U w,B true] (0<=w/\w<9223372036854775808) (U (w+9223372036854775808)):=.of rfl rfl λhw=>by
 show Zx EM false (Tryz.a641 _) _ _ _ _
 (repeat' first|constructor|exact ZQ|intro _)
 all_goals apply zL
 exact⟨rfl,by show U (nq w 9223372036854775808)=_;rw[HV hw.1 hw.2]⟩
instance z20 {n:Nat}[Mn n [379,381,485,640,380]]:cK n where
theorem xI {a:Int}(h:0<=a):nq 0 a=a:=by unfold nq;simp;omega
theorem yR {i g:Int}(h0:0<=i)(h1:i<=65535)(g0:0<=g)(g1:g<281474976710656):nq (nq 0 (i%18446744073709551616*2^0%18446744073709551616)) (g%18446744073709551616*2^16%18446744073709551616)=i+g*65536:=by simp only[Int.reducePow];rw[xI am];have e1:i%18446744073709551616*1%18446744073709551616=i:=am;have e2:g%18446744073709551616*65536%18446744073709551616=g*2^16:=am;rw[e1,e2,lE g0 h0 am];omega
instance X9 {i g:Int}:VC EM (zF 367) [.agg [I i,I g]] ((-1<=i/\i<=65534)/\0<=g/\g<281474976710656) (.ed [U (i+1+g*65536),I 0]):=.of rfl rfl λ⟨h1,h2⟩=>by
 show Zx EM false (Tryz.a367 _) _ _ _ _;haveI:aY:=⟨⟩
 (repeat' first|constructor|exact ZQ|intro _)
 all_goals apply zL
 .rw[xI am];omega
 .rw[yR am am h2.1 h2.2];exact⟨rfl,rfl⟩
def aK (i g:Int):Int:=i+1+g*65536
def dz (i g:Int):Prop:=(0<=i/\i<=65534)/\0<=g/\g<4294967296
instance X_ {i g:Int}:VC EM (zF 628) [.agg [I i,I g,B false]] (dz i g) (.ed [U (aK i g),I 0]):=.of rfl rfl λ⟨h1,h2⟩=>by
 show Zx EM false (Tryz.a628 _) _ _ _ _;haveI:aY:=⟨⟩
 (repeat' first|constructor|exact ZQ|intro _)
 all_goals apply zL
 .rw[xI am];omega
 .rw[yR am am h2.1 am];unfold Me.aC;omega
 .rw[yR am am h2.1 am];refine⟨rfl,?_⟩;unfold aK;show AV.ed [U ((i+1+g*65536)%9223372036854775808),I 0]=_;rw[Int.emod_eq_of_lt am am]
theorem sm {i g:Int}(h:dz i g):aK i g%65536-1=i:=by unfold dz at h;unfold aK;omega
theorem HW {i g:Int}(h:dz i g):aK i g/65536%4294967296=g:=by unfold dz at h;unfold aK;omega
theorem yS {i g:Int}(h:dz i g):0<=aK i g/\aK i g<9223372036854775808:=by unfold dz at h;unfold aK;omega
theorem mJ {i g:Int}(h:dz i g):Me.aC (aK i g):=by have:=yS h;unfold Me.aC;omega
instance getRef {i g:Int}:VC EM (zF 635) [U (aK i g)] (dz i g) (.ed [.agg [I i,I g,B false],I 0]):=.of rfl rfl λh=>by
 show Zx EM false (Tryz.a635 _) _ _ _ _;have hw:=mJ h;have hm:=yS h
 (repeat' first|constructor|exact ZQ|intro _)
 all_goals apply zL
 rw[sm h,HW h,decide_eq_false am];refine Zx.ok (n:=false) ?_
 (repeat' first|constructor|exact ZQ|intro _)
 all_goals apply zL
def Sk.ok (s:Sk):Prop:=(0<=s.top/\s.top<100000)/\(0<=s.links/\s.links<100000)/\1<=s.size/\s.size<=4096
theorem gp {n w:Int}(h:0<=n):-1<=idx n w/\idx n w<n:=by unfold idx;split<;>omega
instance aai {a b c w:Int}:VC EM (zF 586) [.agg [I a,I b,I c],U w] (Me.aC w/\0<=c) (I (idx c w)):=.of rfl rfl λ⟨hw,hc⟩=>by
 show Zx EM false (Tryz.a586 _) _ _ _ _;refine z2 ?_ ?_<;>intros
 .exact⟨rfl,by unfold idx;rw[if_neg am];rfl⟩
 .exact⟨rfl,by unfold idx;rw[if_pos am];rfl⟩
instance aaj {i:Int}:VC EM (zF 247) [I i] (-1<=i/\i<=65534) (U (i+1)):=.of rfl rfl λhi=>by show Zx EM false (Tryz.a247 _) _ _ _ _;refine z1 ?_;exact⟨rfl,by show U (i+1+0*65536)=_;rw[Int.zero_mul,Int.add_zero]⟩
instance z21 {n:Nat}[Mn n [545,613,546,547,588,548,476,544,587,478,371,551,590,614,483,647,653,656,638]]:cK n where
def Sk.row (s:Sk)(w i j:Int)(dn:Bool)(er:Int)(f:Nat):List AV:=[I s.top,I s.links,I s.size,U w,I i,I j,B true,B dn,I er,.fn (.func f) [] []]
inductive w9 (s:Sk)(q:Nat):pU->List Own->Prop
 |a {w i j:Int}:w9 s q .a [.obj q (.row (s.row w i j false 0 476))]
 |b {w i j:Int}(hw:Me.aC w)(hi:0<=i/\i<s.size):w9 s q (.b w i) [.obj q (.row (s.row w i j false 0 544))]
 |c {w i j:Int}(hw:Me.aC w)(hi:0<=i/\i<s.size)(hj:-1<=j/\j<s.size):w9 s q (.c w i j) [.obj q (.row (s.row w i j false 0 587))]
 |d {w i j:Int}{f:Nat}(hi:0<=i/\i<s.size):w9 s q (.d i) [.obj q (.row (s.row w i j true 0 f))]
 |n {w i j:Int}{f:Nat}(hi:i=-1):w9 s q (.d (-1)) [.obj q (.row (s.row w i j true 15 f))]
inductive kR (s:Sk)(v:Int)(q:Nat):kO->List Own->Prop
 |a {w j:Int}(hv:0<=v/\v<s.size):kR s v q .a [.obj q (.row (s.row w v j false 0 551))]
 |b {w:Int}(hv:0<=v/\v<s.size)(hw:Me.aC w):kR s v q (.b w) [.obj q (.row (s.row w v (idx s.size w) false 0 590))]
 |c {w:Int}(hv:0<=v/\v<s.size)(hw:Me.aC w):kR s v q (.c w) [.obj q (.row (s.row w v (idx s.size w) false 0 614))]
 |d {w j e:Int}{f:Nat}:kR s v q (.d e) [.obj q (.row (s.row w v j true e f))]
inductive yT (s:Sk)(q:Nat):tB->List Own->Prop
 |a {w i j:Int}:yT s q .a [.obj q (.row (s.row w i j false 0 647))]
 |b {w i j:Int}(hw:Me.aC w)(hi:0<=i/\i<s.size):yT s q (.b w i) [.obj q (.row (s.row w i j false 0 653))]
 |d {w i j:Int}{f:Nat}(hi:0<=i/\i<s.size):yT s q (.d i) [.obj q (.row (s.row w i j true 0 f))]
 |n {w i j:Int}{f:Nat}(hi:i=-1):yT s q (.d (-1)) [.obj q (.row (s.row w i j true 15 f))]
section
variable{B0 S:AH}{W:List Nat}{own R l:List Own}{ro:List aI}{m bl q:Nat}{x:Me}{rest:List AV}{s:Sk}
theorem bL {o1 own:List Own}(e:o1=own:=by conv=>lhs;try simp only[lA,lB,lC]):o1=own:=e
theorem DB {σ:pU}(hs:s.ok)(hx:x.gd)(h:w9 s q σ l)(H:Cx B0 W S (l++(ae m bl x rest++R)) ro):
  aN EM (zF 477) [.ptr q 0,.ptr m 0] S λr S'=>∃ab,fb (w9 s q) pU.over (σ.step s x) (ae m bl · rest) R r ab/\Cx B0 W S' ab ro:=by
 have bt:=hs;unfold Sk.ok at bt;have hi:=gp (n:=s.size) (w:=x.word s.top) am;cases h with
 |a=>
  refine y2 H bL ?_ ?_<;>intros
  .next h=>exact aa (Prod.ext (if_pos h) rfl) (.n am) rfl .rfl'
  .next h=>exact aa (Prod.ext (if_neg h) rfl) (.b (Me.aj hx _) ⟨am,hi.2⟩) rfl .rfl'
 |b hw hi=>
  refine y1 H bL ?_;exact aa rfl (.c hw hi (gp am)) rfl .rfl'
 |c hw hi hj=>
  refine y2 H bL ?_ ?_<;>intros
  .next h=>exact aa (Prod.ext (if_pos h) rfl) (.d hi) rfl (.drop .rfl')
  .next h=>exact aa (Prod.ext (if_neg h) rfl) .a rfl (.drop .rfl')
 |d hi=>
  refine y1 H bL ?_;exact aa rfl (.d hi) rfl .rfl'
 |n hi=>refine y1 H bL ?_;exact aa rfl (.n hi) rfl .rfl'
theorem vI {v:Int}{σ:kO}(hs:s.ok)(hx:x.gd)(h:kR s v q σ l)(H:Cx B0 W S (l++(ae m bl x rest++R)) ro):
  aN EM (zF 615) [.ptr q 0,.ptr m 0] S λr S'=>∃ab,fb (kR s v q) kO.over (σ.step s v x) (ae m bl · rest) R r ab/\Cx B0 W S' ab ro:=by
 have bt:=hs;unfold Sk.ok at bt;cases h with
 |a hv=>
  refine y1 H bL ?_;exact aa rfl (.b hv (Me.aj hx _)) rfl .rfl'
 |@b w hv hw=>
  have hi:=gp (n:=s.size) (w:=w) am;refine y1 H bL ?_;exact aa rfl (.c hv hw) rfl .rfl'
 |c hv hw=>
  refine y2 H bL ?_ ?_<;>intros
  .next h=>exact aa (Prod.ext (if_pos h) rfl) .d rfl (.drop .rfl')
  .next h=>exact aa (Prod.ext (if_neg h) rfl) (.a hv) rfl (.drop .rfl')
 |d=>refine y1 H bL ?_;exact aa rfl .d rfl .rfl'
theorem Ky {σ:tB}(hs:s.ok)(hx:x.gd)(h:yT s q σ l)(H:Cx B0 W S (l++(ae m bl x rest++R)) ro):
  aN EM (zF 655) [.ptr q 0,.ptr m 0] S λr S'=>∃ab,fb (yT s q) tB.over (σ.step s x) (ae m bl · rest) R r ab/\Cx B0 W S' ab ro:=by
 have bt:=hs;unfold Sk.ok at bt;have hi:=gp (n:=s.size) (w:=x.word s.top) am;cases h with
 |a=>
  refine y2 H bL ?_ ?_<;>intros
  .next h=>exact aa (Prod.ext (if_pos h) rfl) (.n am) rfl .rfl'
  .next h=>exact aa (Prod.ext (if_neg h) rfl) (.b (Me.aj hx _) ⟨am,hi.2⟩) rfl .rfl'
 |b hw hi=>
  refine y2 H bL ?_ ?_<;>intros
  .next h=>exact aa (Prod.ext (if_pos h) rfl) (.d hi) rfl (.drop .rfl')
  .next h=>exact aa (Prod.ext (if_neg h) rfl) .a rfl (.drop .rfl')
 |d hi=>
  refine y1 H bL ?_;exact aa rfl (.d hi) rfl .rfl'
 |n hi=>refine y1 H bL ?_;exact aa rfl (.n hi) rfl .rfl'
end
def Ar.ok (a:Ar):Prop:=a.f.ok/\(0<=a.an/\a.an<100000)/\(0<=a.aF/\a.aF<100000)/\1<=a.fJ/\a.fJ<=4294967295
def Ar.cs (a:Ar):List AV:=[I a.f.top,I a.f.links,I a.f.size,I a.an,I a.aF,I a.fJ]
instance z22 {n:Nat}[Mn n [629,601,618,619,564,602,659,662,665,666,667]]:cK n where
def Ar.lF (a:Ar)(qp:Nat)(nx:AV)(i r e:Int):List AV:=.ptr qp 0::(a.cs++[B true,nx,I i,U r,I e])
inductive n9 (a:Ar)(q:Nat):cV->List Own->Prop
 |p {i:Int}{qp:Nat}{σ l}(h:w9 a.f qp σ l)(ho:σ.over=false):n9 a q (.p σ) ([.obj q (.row (a.lF qp (zF 601) i 0 0))]++l)
 |g {i:Int}{qp:Nat}(hi:0<=i/\i<a.f.size):n9 a q (.g i) [.obj q (.row (a.lF qp (zF 618) i 0 0))]
 |w {i:Int}{qp:Nat}:n9 a q .w [.obj q (.row (a.lF qp (zF 619) i 0 0))]
 |d {i r e:Int}{qp:Nat}(hr:e=0->∃i' g,(dz i' g/\i'<a.f.size)/\r=aK i' g):n9 a q (.d r e) [.obj q (.row (a.lF qp Nf i r e))]
inductive rq (a:Ar)(v:Int)(q:Nat):jZ->List Own->Prop
 |l {g:Int}{qp:Nat}{l}(hv:0<=v/\v<a.f.size)(h:kR a.f v qp .a l):rq a v q .l ([.obj q (.row (a.lF qp (zF 662) v g 0))]++l)
 |r {g:Int}{qp:Nat}{l}(hv:0<=v/\v<a.f.size)(hg:Me.aC g)(h:kR a.f v qp .a l):rq a v q (.r g) ([.obj q (.row (a.lF qp (zF 665) v g 0))]++l)
 |u {g:Int}{qp:Nat}{σ l}(hv:0<=v/\v<a.f.size)(h:kR a.f v qp σ l)(ho:σ.over=false):rq a v q (.u σ) ([.obj q (.row (a.lF qp (zF 667) v g 0))]++l)
 |w {g:Int}{qp:Nat}:rq a v q .w [.obj q (.row (a.lF qp (zF 666) v g 0))]
 |d {g e:Int}{qp:Nat}:rq a v q (.d e) [.obj q (.row (a.lF qp Nf v g e))]
section
variable{B0 S:AH}{W:List Nat}{own R l:List Own}{ro:List aI}{m bl q:Nat}{x:Me}{rest:List AV}{a:Ar}
theorem xJ {σ}(hs:a.ok)(hx:x.gd)(h:n9 a q σ l)(H:Cx B0 W S (l++(ae m bl x rest++R)) ro):
  aN EM (zF 745) [.ptr q 0,.ptr m 0] S λr S'=>∃ab,fb (n9 a q) cV.over (σ.step a x) (ae m bl · rest) R r ab/\Cx B0 W S' ab ro:=by
 have bt:=hs;unfold Ar.ok Sk.ok at bt;have h0:=hs.1;have hg:=λi=>Me.aj hx i;cases h with
 |@p i qp σ l h ho=>
  refine y1 H bL ?_;refine Vx.f_ (A:=[_]) (λB W S H=>DB h0 hx h H) λa' x' l' e hl=>?_;have e2:(cV.p σ).step a x=(cV.kP a',x'):=by show(cV.kP _,_)=_;rw[e]
  cases ho:a'.over
  .refine z1 ?_;have e3:(cV.p σ).step a x=(.p a',x'):=e2.trans (Prod.ext (by cases hl<;>first|rfl|cases ho) rfl);exact aa e3 (.p hl ho) rfl .rfl'
  .cases hl with
   |a=>cases ho
   |b=>cases ho
   |c=>cases ho
   |d hi=>
    refine z1 ?_;exact aa (e2.trans (Prod.ext (if_neg am) rfl)) (.g hi) rfl (.cons (.drop .rfl'))
   |n hi=>
    subst hi;refine z1 ?_;exact aa e2 .w rfl (.cons (.drop .rfl'))
 |@g i qp hi=>
  have hg:=hg (a.an+i);refine y2 H bL ?_ ?_;.unfold dz;omega
  .exact aa rfl (.d λ_=>⟨i,x.word (a.an+i)%4294967296,⟨by unfold dz;omega,hi.2⟩,rfl⟩) rfl .rfl'
 |w=>
  refine y2 H bL ?_ ?_<;>intros
  .next h=>exact aa (Prod.ext (congrArg (cV.d 0) (if_pos am)) rfl) (.d λh=>absurd h ce) rfl .rfl'
  .next h=>exact aa (Prod.ext (congrArg (cV.d 0) (if_neg am)) rfl) (.d λh=>absurd h ce) rfl .rfl'
 |d hr=>refine y1 H bL ?_;exact aa rfl (.d hr) rfl .rfl'
theorem HX {v:Int}{σ}(hs:a.ok)(hx:x.gd)(h:rq a v q σ l)(H:Cx B0 W S (l++(ae m bl x rest++R)) ro):
  aN EM (zF 663) [.ptr q 0,.ptr m 0] S λr S'=>∃ab,fb (rq a v q) jZ.over (σ.step a v x) (ae m bl · rest) R r ab/\Cx B0 W S' ab ro:=by
 have bt:=hs;unfold Ar.ok Sk.ok at bt;have h0:=hs.1;cases h with
 |@l g qp l hv h=>
  have hg:=Me.aj hx (a.an+v);refine y2 H bL ?_ ?_<;>intros
  .next e=>exact aa (Prod.ext (if_pos am) rfl) .w rfl (.cons (.perm (.of (g:=l) (List.perm_append_comm)) (.refl _)))
  .next e=>exact aa (Prod.ext (if_neg am) rfl) (.r hv hg h) rfl .rfl'
 |@r g qp l hv hg h=>
  refine y1 H bL ?_;exact aa rfl (.u hv h rfl) rfl .rfl'
 |@u g qp σ l hv h ho=>
  refine y1 H bL ?_;refine Vx.f_ (A:=[_]) (λB W S H=>vI h0 hx h H) λa' x' l' e hl=>?_;have e2:(jZ.u σ).step a v x=(if a'.over then .d 0 else .u a',x'):=by show(_,_)=_;rw[e]
  cases ho:a'.over
  .refine z1 ?_;have e3:(jZ.u σ).step a v x=(.u a',x'):=e2.trans (Prod.ext (if_neg (by rw[ho];simp)) rfl);exact aa e3 (.u hv hl ho) rfl .rfl'
  .refine z1 ?_;exact aa (e2.trans (Prod.ext (if_pos ho) rfl)) .d rfl (.cons (.perm (.of (g:=l') (List.perm_append_comm)) (.refl _)))
 |w=>
  refine y1 H bL ?_;exact aa rfl .d rfl .rfl'
 |d=>refine y1 H bL ?_;exact aa rfl .d rfl .rfl'
end
def Ep.ok (e:Ep):Prop:=(0<=e.bh/\e.bh<100000)/\(0<=e.pins/\e.pins<100000)/\1<=e.ad/\e.ad<=64
def Ep.cs (e:Ep):List AV:=[I e.bh,I e.pins,I e.ad]
instance z23 {n:Nat}[Mn n [595,596,654,600,560,562,597,598,599,575,610,637,644,645,646,649,366,472]]:cK n where
def Mg (h:List AV)(ln er:Int):List AV:=h++[I ln,B true,I er]
def Ep.rowP (e:Ep)(q:Nat)(c ln n:Int):List AV:=Mg [.fn (.func 597) [.ptr q 0] [],.fn (.func 598) [.ptr q 0] [],.fn (.func 599) [.ptr q 0] []] ln 0++(e.cs++[I (e.pins+c),Z .u32 n])
inductive w_ (e:Ep)(c:Int)(q:Nat):nk->List Own->Prop
 |a {n:Int}(hc:0<=c/\c<e.ad):w_ e c q .a [.obj q (.row (e.rowP q c 0 n))]
 |b {p:Int}(hc:0<=c/\c<e.ad)(hp:0<=p/\p<4294967296):w_ e c q (.b p) [.obj q (.row (e.rowP q c 1 p))]
 |c {p:Int}(hc:0<=c/\c<e.ad)(hp:0<=p/\p<4294967296):w_ e c q (.c p) [.obj q (.row (e.rowP q c 2 p))]
 |d {p:Int}(hp:0<=p/\p<4294967296):w_ e c q (.d p 0) [.obj q (.row (e.rowP q c (-1) p))]
inductive mK (e:Ep)(c:Int)(q:Nat):cM->List Own->Prop
 |a (hc:0<=c/\c<e.ad):mK e c q .a [.obj q (.row (Mg [.fn (.func 610) [.ptr q 0] [],Nf,Nf] 0 0++[I (e.pins+c)]))]
 |d {er:Int}:mK e c q (.d er) [.obj q (.row (Mg [.fn (.func 610) [.ptr q 0] [],Nf,Nf] (-1) er++[I (e.pins+c)]))]
def Ep.lF (e:Ep)(q:Nat)(c p ln er w k:Int):List AV:=Mg [.fn (.func 644) [.ptr q 0] [],.fn (.func 645) [.ptr q 0] [],.fn (.func 646) [.ptr q 0] []] ln er++(e.cs++[I c,I p,U w,I k])
inductive yU (e:Ep)(c p:Int)(q:Nat):jg->List Own->Prop
 |a {w k:Int}(hc:0<=c/\c<e.ad):yU e c p q .a [.obj q (.row (e.lF q c p 0 0 w k))]
 |b {w n:Int}(hc:0<=c/\c<e.ad)(hw:Me.aC w)(hp:w%4294967296=p)(hn:0<=n/\n<e.ad):yU e c p q (.b w n) [.obj q (.row (e.lF q c p 1 0 w n))]
 |c {w k:Int}(hc:0<=c/\c<e.ad)(hw:Me.aC w)(hp:w%4294967296=p):yU e c p q (.c w) [.obj q (.row (e.lF q c p 2 0 w k))]
 |d {er w k:Int}:yU e c p q (.d er) [.obj q (.row (e.lF q c p (-1) er w k))]
section
variable{B0 S:AH}{W:List Nat}{own R l:List Own}{ro:List aI}{m bl q:Nat}{x:Me}{rest:List AV}{e:Ep}{c p:Int}
theorem oM {σ}(hs:e.ok)(hx:x.gd)(h:w_ e c q σ l)(H:Cx B0 W S (l++(ae m bl x rest++R)) ro):
  aN EM (zF 743) [.ptr q 0,.ptr m 0] S λr S'=>∃ab,fb (w_ e c q) nk.over (σ.step e c x) (ae m bl · rest) R r ab/\Cx B0 W S' ab ro:=by
 have bt:=hs;unfold Ep.ok at bt;have hb:=Me.aj hx e.bh;cases h with
 |a hc=>
  refine y1 H bL ?_;exact aa rfl (.b hc am) rfl .rfl'
 |@b p hc hp=>
  refine y1 H bL ?_;refine aa rfl (.c hc hp) rfl ?_;rw[show p%18446744073709551616=p by omega,show(p+1)%18446744073709551616=p+1 by omega];exact .rfl'
 |@c p hc hp=>
  refine y2 H bL ?_ ?_<;>intros
  .next h=>exact aa (Prod.ext (if_pos h) rfl) (.d hp) rfl .rfl'
  .next h=>exact aa (Prod.ext (if_neg h) rfl) (.b hc am) rfl .rfl'
 |d hp=>refine y1 H bL ?_;exact aa rfl (.d hp) rfl .rfl'
theorem gM {σ}(hs:e.ok)(hx:x.gd)(h:mK e c q σ l)(H:Cx B0 W S (l++(ae m bl x rest++R)) ro):
  aN EM (zF 755) [.ptr q 0,.ptr m 0] S λr S'=>∃ab,fb (mK e c q) cM.over (σ.step e c x) (ae m bl · rest) R r ab/\Cx B0 W S' ab ro:=by
 have bt:=hs;unfold Ep.ok at bt;cases h with
 |a hc=>
  refine y1 H bL ?_;exact aa rfl .d rfl .rfl'
 |d=>refine y1 H bL ?_;exact aa rfl .d rfl .rfl'
theorem DC {f:Int}{w k ln:Int}(hs:e.ok)(hc:0<=c/\c<e.ad)(hf:0<=f)(H:Cx B0 W S (.obj q (.row (e.lF q c p ln 0 w k))::R) ro):
  aN EM (zF 652) [.ptr q 0,I f] S λr S'=>∃ab,(∃xK k',r=uv/\ab=.obj q (.row (e.lF q c p xK 0 w k'))::R/\((xK=2/\jg.skip e c w f=.c w)\/(xK=1/\jg.skip e c w f=.b w k'/\0<=k'/\k'<e.ad)))/\Cx B0 W S' ab ro:=by
 have bt:=hs;unfold Ep.ok at bt;refine y1 H bL ?_;intros;refine Vx.Se e.ad.toNat (λi=>∀j:Int,f<=j->j<i->j=c) (λj h1 h2=>am) ?_ ?_
 .intro i hi hp hn;refine z3 ?_ ?_ ?_<;>intros
  .next h1 h2 h3=>
   refine⟨rfl,rfl,_,⟨1,i,rfl,rfl,.inr ⟨rfl,?_,am,am⟩⟩,.drop (.drop (.drop .rfl'))⟩;have h4:(if f=c then f+1 else f)=i:=by
    by_cases h5:f=(i:Int);.rw[if_neg am];exact h5
    .have h6:=hp f (Int.le_refl _) am;rw[if_pos h6];by_cases h7:f+1=(i:Int);.exact h7
     .have:=hp (f+1) am am;omega
   unfold jg.skip;rw[h4,if_neg am]
  .next h1 h2 h3=>
   exact hn λj h4 h5=>by
    by_cases h6:j=(i:Int);.omega
    .exact hp j h4 am
  .next h1 h2=>exact hn λj h4 h5=>hp j h4 am
 .intro hp;refine z1 ?_;intros;refine⟨rfl,rfl,_,⟨2,k,rfl,rfl,.inl ⟨rfl,?_⟩⟩,.drop (.drop (.drop .rfl'))⟩;unfold jg.skip;rw[if_pos];by_cases h5:f=c
  .rw[if_pos h5];by_cases h7:f+1<e.ad;.have:=hp (f+1) am am;omega
   .omega
  .rw[if_neg h5];by_cases h7:f<e.ad;.have:=hp f am am;omega
   .omega
theorem Kz {σ}(hs:e.ok)(hx:x.gd)(h:yU e c p q σ l)(H:Cx B0 W S (l++(ae m bl x rest++R)) ro):
  aN EM (zF 648) [.ptr q 0,.ptr m 0] S λr S'=>∃ab,fb (yU e c p q) jg.over (σ.step e c p x) (ae m bl · rest) R r ab/\Cx B0 W S' ab ro:=by
 have bt:=hs;unfold Ep.ok at bt;have hb:=Me.aj hx e.bh;cases h with
 |a hc=>
  refine y2 H bL ?_ ?_<;>intros
  .next h=>exact aa (Prod.ext (if_neg h) rfl) .d rfl .rfl'
  .next h=>
   have h:x.word e.bh%4294967296=p:=am;refine Vx.spec (λB W S H=>DC (f:=0) hs hc am H) λr ab q=>?_;obtain⟨xK,k',rfl,rfl,q|q⟩:=q
   .obtain⟨rfl,q⟩:=q;refine z1 ?_;exact aa (Prod.ext ((if_pos h).trans q) rfl) (.c hc hb h) rfl .rfl'
   .obtain⟨rfl,q,q1,q2⟩:=q;refine z1 ?_;exact aa (Prod.ext ((if_pos h).trans q) rfl) (.b hc hb h ⟨q1,q2⟩) rfl .rfl'
 |@b w n hc hw hp hn=>
  have wQ:=Me.aj hx (e.pins+n);have go:∀{K Φ},(∀xK k',(xK=2/\jg.skip e c w (n+1)=.c w)\/(xK=1/\jg.skip e c w (n+1)=.b w k'/\0<=k'/\k'<e.ad)->Zx EM false (.ret .ret []) K (.obj q (.row (e.lF q c p xK 0 w k'))::(ae m bl (x.ld (e.pins+n)) rest++R)) ro Φ)->
    Vx EM (.call (zF 652) [.ptr q 0,I (n+1)] λv25=>.ret .ret []) K (.obj q (.row (e.lF q c p 1 0 w n))::(ae m bl (x.ld (e.pins+n)) rest++R)) ro Φ:=by
   intro K Φ h;refine Vx.spec (λB W S H=>DC (f:=n+1) hs hc am H) λr ab q=>?_;obtain⟨xK,k',rfl,rfl,q⟩:=q;exact h xK k' q
  have fin:∀{xK k'},(x.word (e.pins+n)=0\/x.word (e.pins+n)=p+1)->(xK=2/\jg.skip e c w (n+1)=.c w)\/(xK=1/\jg.skip e c w (n+1)=.b w k'/\0<=k'/\k'<e.ad)->
    kx ro (fb (yU e c p q) jg.over (jg.step e c p (.b w n) x) (ae m bl · rest) R) .ret [B (decide (xK=-1))] (.obj q (.row (e.lF q c p xK 0 w k'))::(ae m bl (x.ld (e.pins+n)) rest++R)) ro:=by
   intro xK k' h q;rcases q with⟨rfl,q⟩|⟨rfl,q,q1⟩;.exact aa (Prod.ext ((if_pos h).trans q) rfl) (.c hc hw hp) rfl .rfl'
   .exact aa (Prod.ext ((if_pos h).trans q) rfl) (.b hc hw hp q1) rfl .rfl'
  refine y3 H bL ?_ ?_ ?_<;>intros
  .next h1 h2=>exact aa (Prod.ext (if_neg am) rfl) .d rfl .rfl'
  .next h1 h2=>
   refine go λxK k' q=>?_;have hl:xK≠-1:=am;refine z1 ?_;intros;have:=fin am q
   rwa[decide_eq_false hl] at this
  .next h1=>
   refine go λxK k' q=>?_;have hl:xK≠-1:=am;refine z1 ?_;intros;have:=fin am q
   rwa[decide_eq_false hl] at this
 |@c w k hc hw hp=>
  have h1:(w%4294967296%18446744073709551616+1)%18446744073709551616=p+1:=am;refine y2 H bL ?_ ?_<;>intros
  .next h=>rw[h1];exact aa (Prod.ext (if_pos h) rfl) .d rfl .rfl'
  .next h=>
   rw[h1];exact aa (Prod.ext (if_neg h) rfl) .d rfl .rfl'
 |d=>refine y1 H bL ?_;exact aa rfl .d rfl .rfl'
end
def Lb.ok (l:Lb):Prop:=l.a.ok/\l.e.ok/\0<=l.aL/\l.aL<50000
def Lb.cs (l:Lb):List AV:=l.a.cs++(l.e.cs++[I l.aL])
theorem Lb.oN {l:Lb}(h:l.ok){k:Int}(h0:0<=k)(h1:k<3):(l.wait k).ok:=by unfold Lb.ok Ar.ok Sk.ok at h;unfold Sk.ok Lb.wait;dsimp only;omega
instance z24 {n:Nat}[Mn n [245,740,734,739,741,627,639,650,657,660]]:cK n where
def Lb.NU (l:Lb)(nx:AV)(er v:Int)(pp:AV):List AV:=nx::B true::I er::(l.cs++[I v,pp])
inductive AE (l:Lb)(v:Int)(q:Nat):iX->List Own->Prop
 |a (hv:0<=v/\v<l.a.f.size):AE l v q .a [.obj q (.row (l.NU (.fn (.func 739) [.ptr q 0] []) 0 v Np))]
 |b {k:Int}{qp:Nat}{σ lp}(hk:0<=k/\k<3)(h:kR (l.wait k) v qp σ lp)(ho:σ.over=false):AE l v q (.b k σ) ([.obj q (.row (l.NU (.fn (.func 741) [.ptr q 0] []) 0 v (.ptr qp 0)))]++lp)
 |d {er:Int}{qp:Nat}:AE l v q (.d er) [.obj q (.row (l.NU Nf er v (.ptr qp 0)))]
def Lb.dX (l:Lb)(nx:AV)(er:Int)(on all:AV)(i:Int)(one:AV)(j n:Int):List AV:=nx::B true::I er::(l.cs++[on,all,I i,one,I j,I n])
inductive yV (l:Lb)(c p:Int)(q:Nat):ff->List Own->Prop
 |v {i:Int}{qa qb:Nat}{σ la lb}(hp:0<=p/\p<4294967296)(h:yU l.e c p qa σ la)(ho:σ.over=false)(h2:yT (l.wait ((p+2)%3)) qb .a lb):yV l c p q (.v σ) ([.obj q (.row (l.dX (.fn (.func 639) [.ptr q 0] []) 0 (.ptr qa 0) (.ptr qb 0) i Np 0 0))]++(lb++la))
 |t {i:Int}{qa qb:Nat}{σ lb}(hp:0<=p/\p<4294967296)(h:yT (l.wait ((p+2)%3)) qb σ lb)(ho:σ.over=false):yV l c p q (.t σ) ([.obj q (.row (l.dX (.fn (.func 650) [.ptr q 0] []) 0 (.ptr qa 0) (.ptr qb 0) i Np 0 0))]++lb)
 |l {i j n:Int}{qa qb:Nat}{one}(hi:0<=i/\i<l.a.f.size)(hn:0<=n/\n<l.a.f.size):yV l c p q (.l i n) [.obj q (.row (l.dX (.fn (.func 657) [.ptr q 0] []) 0 (.ptr qa 0) (.ptr qb 0) i one j n))]
 |f {i j n:Int}{qa qb qf:Nat}{σ lf}(hi:0<=i/\i<l.a.f.size)(hn:0<=n/\n<l.a.f.size)(hj:-1<=j/\j<=65534)(h:rq l.a i qf σ lf)(ho:σ.over=false):yV l c p q (.f i j n σ) ([.obj q (.row (l.dX (.fn (.func 660) [.ptr q 0] []) 0 (.ptr qa 0) (.ptr qb 0) i (.ptr qf 0) j n))]++lf)
 |d {i j n er:Int}{qa qb:Nat}{one}:yV l c p q (.d n er) [.obj q (.row (l.dX Nf er (.ptr qa 0) (.ptr qb 0) i one j n))]
section
variable{B0 S:AH}{W:List Nat}{own R lo:List Own}{ro:List aI}{m bl q:Nat}{x:Me}{rest:List AV}{l:Lb}{c p v:Int}
theorem DD {σ:iX}(hs:l.ok)(hx:x.gd)(h:AE l v q σ lo)(H:Cx B0 W S (lo++(ae m bl x rest++R)) ro):
  aN EM (zF 735) [.ptr q 0,.ptr m 0] S λr S'=>∃ab,fb (AE l v q) iX.over (σ.step l v x) (ae m bl · rest) R r ab/\Cx B0 W S' ab ro:=by
 have bt:=hs;unfold Lb.ok Ar.ok Sk.ok Ep.ok at bt;have hb:=Me.aj hx l.e.bh;cases h with
 |a hv=>
  refine y1 H bL ?_;intros;exact aa rfl (.b ⟨am,am⟩ (.a hv) rfl) rfl HQ
 |@b k qp σ lp hk h ho=>
  refine y1 H bL ?_;refine Vx.f_ (A:=[_]) (λB W S H=>vI (l.oN hs hk.1 hk.2) hx h H) λa' x' l' e hl=>?_;have e2:(iX.b k σ).step l v x=(if a'.over then .d 0 else .b k a',x'):=by show(_,_)=_;rw[e]
  cases ho:a'.over
  .refine z1 ?_;have e3:(iX.b k σ).step l v x=(.b k a',x'):=e2.trans (Prod.ext (if_neg (by rw[ho];simp)) rfl);exact aa e3 (.b hk hl ho) rfl .rfl'
  .refine z1 ?_;exact aa (e2.trans (Prod.ext (if_pos ho) rfl)) .d rfl (.cons (.perm (.of (g:=l') (List.perm_append_comm)) (.refl _)))
 |d=>refine y1 H bL ?_;exact aa rfl .d rfl .rfl'
theorem DE {σ:ff}(hs:l.ok)(hx:x.gd)(h:yV l c p q σ lo)(H:Cx B0 W S (lo++(ae m bl x rest++R)) ro):
  aN EM (zF 785) [.ptr q 0,.ptr m 0] S λr S'=>∃ab,fb (yV l c p q) ff.over (σ.step l c p x) (ae m bl · rest) R r ab/\Cx B0 W S' ab ro:=by
 have bt:=hs;unfold Lb.ok Ar.ok Sk.ok Ep.ok at bt;cases h with
 |@v i qa qb σ la lb hp h ho h2=>
  refine y1 H bL ?_;refine Vx.f_ (A:=_::lb) (λB W S H=>Kz hs.2.1 hx h H) λa' x' l' e hl=>?_;have e2:(ff.v σ).step l c p x=(ff.HM a',x'):=by show(ff.HM _,_)=_;rw[e]
  cases ho:a'.over
  .refine z1 ?_;have e3:(ff.v σ).step l c p x=(.v a',x'):=e2.trans (Prod.ext (by cases hl<;>first|rfl|cases ho) rfl);exact aa e3 (.v hp hl ho h2) rfl HQ
  .cases hl with
   |a=>cases ho
   |b=>cases ho
   |c=>cases ho
   |@d er w k=>
    refine z2 ?_ ?_<;>intros
    .next h=>exact aa (e2.trans (Prod.ext (if_neg h) rfl)) .d rfl HQ
    .next h=>
     obtain rfl:er=0:=am;exact aa e2 (.t hp h2 rfl) rfl HQ
 |@t i qa qb σ lb hp h ho=>
  refine y1 H bL ?_;refine Vx.f_ (A:=[_]) (λB W S H=>Ky (l.oN hs am am) hx h H) λa' x' l' e hl=>?_;have e2:(ff.t σ).step l c p x=(ff.HN a',x'):=by show(ff.HN _,_)=_;rw[e]
  cases ho:a'.over
  .refine z1 ?_;have e3:(ff.t σ).step l c p x=(.t a',x'):=e2.trans (Prod.ext (by cases hl<;>first|rfl|cases ho) rfl);exact aa e3 (.t hp hl ho) rfl HQ
  .cases hl with
   |a=>cases ho
   |b=>cases ho
   |d hi=>
    refine z1 ?_;obtain⟨h3,h4⟩:=hi;exact aa (e2.trans (Prod.ext (if_neg am) rfl)) (.l ⟨h3,h4⟩ ⟨am,am⟩) rfl HQ
   |n hi=>
    subst hi;refine z1 ?_;exact aa e2 .d rfl HQ
 |@l i j n qa qb one hi hn=>
  have hb:=Me.aj hx (l.a.f.links+i);refine y1 H bL ?_;intros;exact aa rfl (.f hi hn am (.l hi (.a hi)) rfl) rfl HQ
 |@f i j n qa qb qf σ lf hi hn hj h ho=>
  refine y1 H bL ?_;refine Vx.f_ (A:=[_]) (λB W S H=>HX hs.1 hx h H) λa' x' l' e hl=>?_;have e2:(ff.f i j n σ).step l c p x=(if a'.over then(if j<0\/l.a.f.size<=j\/l.a.f.size<=n+1 then .d (n+1) 0 else .l j (n+1)) else .f i j n a',x'):=by show(_,_)=_;rw[e]
  cases ho:a'.over
  .refine z1 ?_;have e3:(ff.f i j n σ).step l c p x=(.f i j n a',x'):=e2.trans (Prod.ext (if_neg (by rw[ho];simp)) rfl);exact aa e3 (.f hi hn hj hl ho) rfl HQ
  .refine z4 ?_ ?_ ?_ ?_<;>intros
   .exact aa (e2.trans (Prod.ext ((if_pos ho).trans (if_pos am)) rfl)) .d rfl HQ
   .exact aa (e2.trans (Prod.ext ((if_pos ho).trans (if_pos am)) rfl)) .d rfl HQ
   .exact aa (e2.trans (Prod.ext ((if_pos ho).trans (if_pos am)) rfl)) .d rfl HQ
   .exact aa (e2.trans (Prod.ext ((if_pos ho).trans (if_neg am)) rfl)) (.l ⟨am,am⟩ ⟨am,am⟩) rfl HQ
 |d=>refine y1 H bL ?_;exact aa rfl .d rfl .rfl'
end
def Rn.ok (r:Rn):Prop:=(0<=r.head/\r.head<100000)/\(0<=r.tail/\r.tail<100000)/\(0<=r.fg/\r.fg<100000)/\1<=r.size/\r.size<=4096
def Rn.cs (r:Rn):List AV:=[I r.head,I r.tail,I r.fg,I r.size]
instance Ya {a b c d t:Int}:VC EM (zF 353) [.agg [I a,I b,I c,I d],U t] (Me.aC t/\(0<=c/\c<100000)/\1<=d/\d<=4096) (I (c+t%d)):=.of rfl rfl λ⟨h1,h2,h3,h4⟩=>by
 show Zx EM false (Tryz.a353 _) _ _ _ _;have h5:=Int.emod_lt_of_pos t (show 0<d by omega);have h6:=Int.emod_nonneg t (show d≠0 by omega);have e1:d%18446744073709551616=d:=am;refine z3 ?_ ?_ ?_<;>intros
 all_goals(try rw[e1] at*)
 all_goals first|omega|exact⟨rfl,rfl⟩
instance abo {a b c d t:Int}:VC EM (zF 468) [.agg [I a,I b,I c,I d],U t] (Me.aC t/\1<=d/\d<=4096) (Z .u32 (t/d%4294967296)):=.of rfl rfl λ⟨h1,h2,h3⟩=>by show Zx EM false (Tryz.a468 _) _ _ _ _;have e1:d%18446744073709551616=d:=am;refine z1 ?_;intros;rw[e1];exact⟨rfl,rfl⟩
theorem HY {w:Int}(h:0<=w):(yJ w 65536≠0)↔w/65536%2=1:=by
 obtain⟨n,rfl⟩:∃n:Nat,w=n:=⟨w.toNat,am⟩;have hb:n.testBit 16=decide (n/65536%2=1):=Nat.testBit_eq_decide_div_mod_eq;have e:yJ (n:Int) 65536=((n&&&65536:Nat):Int):=rfl;have h2:n&&&65536=if n.testBit 16 then 65536 else 0:=by
  apply Nat.eq_of_testBit_eq;intro i;have h6:(65536:Nat).testBit i=decide (16=i):=Nat.testBit_two_pow (n:=16);rw[Nat.testBit_and,h6];by_cases ht:n.testBit 16=true
  .rw[if_pos ht,h6];by_cases hi:16=i;.subst hi;rw[ht];rfl
   .simp[hi]
  .rw[if_neg ht,Nat.zero_testBit];by_cases hi:16=i;.subst hi;simpa using ht
   .simp[hi]
 rw[e,h2,hb];by_cases h3:n/65536%2=1;.simp only[h3,decide_true,if_true];omega
 .simp only[h3,decide_false];simp;omega
theorem Sl {w l:Int}(hw:Me.aC w):w/2^32%4294967296=l↔w/4294967296=l:=by simp only[Int.reducePow];rw[Int.emod_eq_of_lt am am]
instance aak {w l:Int}:VC EM (zF 467) [U w,Z .u32 l] (Me.aC w) (B (decide (jh w l))):=.of rfl rfl λh=>by
 show Zx EM false (Tryz.a467 _) _ _ _ _;have hu:=HY h.1;have hh:=Sl (l:=l) h;refine z3 ?_ ?_ ?_<;>intros
 .next h1 h2=>exact⟨rfl,by rw[decide_eq_true (show jh w l from⟨hh.1 h1,hu.1 h2⟩)];rfl⟩
 .next h1 h2=>exact⟨rfl,by rw[decide_eq_false (λ(q:jh w l)=>h2 (hu.2 q.2))];rfl⟩
 .next h1=>exact⟨rfl,by rw[decide_eq_false (λ(q:jh w l)=>h1 (hh.2 q.1))];rfl⟩
instance Yb {w l:Int}:VC EM (zF 592) [U w,Z .u32 l] (Me.aC w) (B (decide (jv w l))):=.of rfl rfl λh=>by
 show Zx EM false (Tryz.a592 _) _ _ _ _;have hu:=HY h.1;have hh:=Sl (l:=l) h;refine z3 ?_ ?_ ?_<;>intros
 .next h1 h2=>exact⟨rfl,by rw[decide_eq_true (show jv w l from⟨hh.1 h1,by have:=mt hu.2 (λh3=>h3 h2);omega⟩)];rfl⟩
 .next h1 h2=>exact⟨rfl,by rw[decide_eq_false (λ(q:jv w l)=>by have:=hu.1 h2;have:=q.2;omega)];rfl⟩
 .next h1=>exact⟨rfl,by rw[decide_eq_false (λ(q:jv w l)=>h1 (hh.2 q.1))];rfl⟩
instance Yc {w:Int}:VC EM (zF 354) [U w] (Me.aC w) (I (w%65536)):=.of rfl rfl λh=>by show Zx EM false (Tryz.a354 _) _ _ _ _;exact zZ
instance rOf {l:Int}:VC EM (zF 504) [Z .u32 l] (0<=l/\l<4294967296) (U (l*4294967296)):=.of rfl rfl λh=>by show Zx EM false (Tryz.a504 _) _ _ _ _;refine z1 ?_;refine⟨rfl,?_⟩;show U _=U _;congr 2;simp only[Int.reducePow];omega
theorem or3 {l v:Int}(h:0<=l/\l<4294967296)(hv:0<=v/\v<65536):nq (nq (l*4294967296) 65536) v=l*4294967296+65536+v:=by
 have e1:nq (l*4294967296) 65536=(l*65536+1)*2^16:=by have:=sk (a:=l) (b:=65536) (i:=32) h.1 am am;simp only[Int.reducePow] at this;rw[this];omega
 rw[e1,sk am hv.1 am];omega
instance aal {l v:Int}:VC EM (zF 616) [U (l*4294967296),I v] ((0<=l/\l<4294967296)/\0<=v/\v<65536) (U (l*4294967296+65536+v)):=.of rfl rfl λ⟨h,hv⟩=>by
 show Zx EM false (Tryz.a616 _) _ _ _ _;have e1:l*4294967296-l*4294967296%65536=l*4294967296:=am;have e2:v%18446744073709551616=v:=am;have e3:nq (l*4294967296) 65536=l*4294967296+65536:=by have:=sk (a:=l) (b:=65536) (i:=32) h.1 am am;simpa only[Int.reducePow] using this
 refine z2 ?_ ?_;.rw[e1,e3,e2];omega
 .rw[e1,e2,or3 h hv];exact⟨rfl,rfl⟩
instance z25 {n:Nat}[Mn n [249,409,488,695,495,387,489,553,593,617,594,694,393,494,558,395,396,289,410,505]]:cK n where
def Rn.row (r:Rn)(nx:AV)(er:Int):List AV:=r.cs++[nx,B true,I er]
theorem Rn.n_ (r:Rn)(t:Int):0<=r.tC t/\r.tC t<4294967296:=by unfold Rn.tC;omega
inductive lG (r:Rn)(v:Int)(q:Nat):dZ->List Own->Prop
 |a {t w:Int}(hv:0<=v/\v<65536):lG r v q .a [.obj q (.row (r.row (.fn (.func 489) [.ptr q 0] []) 0++[I v,U t,U w]))]
 |b {t w:Int}(hv:0<=v/\v<65536)(ht:Me.aC t):lG r v q (.b t) [.obj q (.row (r.row (.fn (.func 553) [.ptr q 0] []) 0++[I v,U t,U w]))]
 |c {t w:Int}(hv:0<=v/\v<65536)(ht:Me.aC t)(hw:Me.aC w):lG r v q (.c t w) [.obj q (.row (r.row (.fn (.func 593) [.ptr q 0] []) 0++[I v,U t,U w]))]
 |l {t w:Int}(hv:0<=v/\v<65536)(ht:Me.aC t):lG r v q (.l t) [.obj q (.row (r.row (.fn (.func 617) [.ptr q 0] []) 0++[I v,U t,U w]))]
 |h {t w:Int}(hv:0<=v/\v<65536)(ht:Me.aC t):lG r v q (.h t) [.obj q (.row (r.row (.fn (.func 594) [.ptr q 0] []) 0++[I v,U t,U w]))]
 |d {t w e:Int}:lG r v q (.d e) [.obj q (.row (r.row Nf e++[I v,U t,U w]))]
inductive j_ (r:Rn)(q:Nat):eS->List Own->Prop
 |a {h:Int}:j_ r q .a [.obj q (.row (r.row (.fn (.func 494) [.ptr q 0] []) 0++[U h,I 0]))]
 |b {h:Int}(hh:Me.aC h):j_ r q (.b h) [.obj q (.row (r.row (.fn (.func 558) [.ptr q 0] []) 0++[U h,I 0]))]
 |d {h v e:Int}(hh:Me.aC h)(hv:0<=v/\v<65536):j_ r q (.d h v e) [.obj q (.row (r.row Nf e++[U h,I v]))]
inductive ru (r:Rn)(h:Int)(q:Nat):j7->List Own->Prop
 |a (hh:Me.aC h):ru r h q .a [.obj q (.row (r.row (.fn (.func 410) [.ptr q 0] []) 0++[U h]))]
 |b (hh:Me.aC h):ru r h q .b [.obj q (.row (r.row (.fn (.func 505) [.ptr q 0] []) 0++[U h]))]
 |d:ru r h q .d [.obj q (.row (r.row Nf 0++[U h]))]
section
variable{B0 S:AH}{W:List Nat}{own R lo:List Own}{ro:List aI}{m bl q:Nat}{x:Me}{rest:List AV}{r:Rn}{v g:Int}
theorem EY {σ}(hs:r.ok)(hx:x.gd)(h:lG r v q σ lo)(H:Cx B0 W S (lo++(ae m bl x rest++R)) ro):
  aN EM (zF 693) [.ptr q 0,.ptr m 0] S λu S'=>∃ab,fb (lG r v q) dZ.over (σ.step r v x) (ae m bl · rest) R u ab/\Cx B0 W S' ab ro:=by
 have bt:=hs;unfold Rn.ok at bt;cases h with
 |a hv=>
  refine y1 H bL ?_;exact aa rfl (.b hv (Me.aj hx _)) rfl HQ
 |@b t w hv ht=>
  have hb:=r.n_ t;have el:(t/r.size%4294967296-1)%4294967296=(r.tC t+4294967296-1)%4294967296:=by unfold Rn.tC;omega
  refine y3 H bL ?_ ?_ ?_<;>intros
  .next e=>exact aa (Prod.ext (if_pos e) rfl) (.c hv ht (Me.aj hx _)) rfl HQ
  .next e e2=>exact aa (Prod.ext ((if_neg e).trans (if_pos (by rw[<-el];exact e2))) rfl) .d rfl HQ
  .next e e2=>exact aa (Prod.ext ((if_neg e).trans (if_neg (by rw[<-el];exact e2))) rfl) (.h hv ht) rfl HQ
 |@c t w hv ht hw=>
  have hb:=r.n_ t;refine y2 H bL ?_ ?_<;>intros
  .next e=>exact aa (Prod.ext (if_pos e) rfl) (.l hv ht) rfl HQ
  .next e=>exact aa (Prod.ext (if_neg e) rfl) (.h hv ht) rfl HQ
 |l hv ht=>
  refine y1 H bL ?_;exact aa rfl .d rfl HQ
 |h hv ht=>
  refine y1 H bL ?_;exact aa rfl (.a hv) rfl HQ
 |d=>refine y1 H bL ?_;exact aa rfl .d rfl HQ
theorem xL {σ}(hs:r.ok)(hx:x.gd)(h:j_ r q σ lo)(H:Cx B0 W S (lo++(ae m bl x rest++R)) ro):
  aN EM (zF 703) [.ptr q 0,.ptr m 0] S λu S'=>∃ab,fb (j_ r q) eS.over (σ.step r x) (ae m bl · rest) R u ab/\Cx B0 W S' ab ro:=by
 have bt:=hs;unfold Rn.ok at bt;cases h with
 |a=>
  refine y1 H bL ?_;exact aa rfl (.b (Me.aj hx _)) rfl HQ
 |@b h hh=>
  refine y2 H bL ?_ ?_<;>intros
  .next e=>exact aa (Prod.ext (if_pos e) rfl) (.d hh am) rfl HQ
  .next e=>exact aa (Prod.ext (if_neg e) rfl) (.d hh am) rfl HQ
 |d hh hv=>refine y1 H bL ?_;exact aa rfl (.d hh hv) rfl HQ
theorem AF {σ}(hs:r.ok)(hx:x.gd)(h:ru r g q σ lo)(H:Cx B0 W S (lo++(ae m bl x rest++R)) ro):
  aN EM (zF 697) [.ptr q 0,.ptr m 0] S λu S'=>∃ab,fb (ru r g q) j7.over (σ.step r g x) (ae m bl · rest) R u ab/\Cx B0 W S' ab ro:=by
 have bt:=hs;unfold Rn.ok at bt;cases h with
 |a hh=>
  have hb:=r.n_ g;refine y1 H bL ?_;exact aa rfl (.b hh) rfl HQ
 |b hh=>
  refine y1 H bL ?_;exact aa rfl .d rfl HQ
 |d=>refine y1 H bL ?_;exact aa rfl .d rfl HQ
end
instance aam {w n a:Int}:VC EM (zF 475) [U w,U n,U a] (Me.aC w/\(0<=n/\n<=1099511627776)/\0<=a/\a<=1099511627776) (B (decide (yM w n a))):=.of rfl rfl λ⟨h1,h2,h3⟩=>by
 show Zx EM false (Tryz.a475 _) _ _ _ _;refine z4 ?_ ?_ ?_ ?_<;>intros
 .exact⟨rfl,by rw[decide_eq_false (λ(q:yM w n a)=>q.1 be)];rfl⟩
 .exact⟨rfl,by rw[decide_eq_true (show yM w n a from⟨am,am⟩)];rfl⟩
 .exact⟨rfl,by rw[decide_eq_true (show yM w n a from⟨am,am⟩)];rfl⟩
 .exact⟨rfl,by rw[decide_eq_false (λ(q:yM w n a)=>by have:=q.2;omega)];rfl⟩
instance aan {w:Int}:VC EM (zF 557) [U w] (Me.aC w) (.agg [I (w%256),I (w/256%256),I (w/4294967296)]):=.of rfl rfl λh=>by show Zx EM false (Tryz.a557 _) _ _ _ _;exact zZ
theorem jor {s c g:Int}(hs:0<=s/\s<256)(hc:0<=c/\c<256)(hg:0<=g/\g<4294967296):nq (nq s (c*256)) (g*4294967296)=jw s c g:=by have e1:=lE (a:=c) (b:=s) (i:=8) hc.1 hs.1 (by simpa using hs.2);have e2:=lE (a:=g) (b:=c*256+s) (i:=32) hg.1 am (by simp only[Int.reducePow];omega);simp only[Int.reducePow] at e1 e2;rw[e1,e2];unfold jw;omega
instance abp {s c g:Int}:VC EM (zF 160) [.agg [I s,I c,I g]] ((0<=s/\s<256)/\(0<=c/\c<256)/\0<=g/\g<4294967296) (U (jw s c g)):=.of rfl rfl λ⟨h1,h2,h3⟩=>by
 show Zx EM false (Tryz.a160 _) _ _ _ _;have e1:s%18446744073709551616=s:=am;have e2:c%18446744073709551616*2^8%18446744073709551616=c*256:=by simp only[Int.reducePow];omega
 have e3:g%18446744073709551616*2^32%18446744073709551616=g*4294967296:=by simp only[Int.reducePow];omega
 have e4:=lE (a:=c) (b:=s) (i:=8) h2.1 h1.1 (by simpa using h1.2);simp only[Int.reducePow] at e4;refine z2 ?_ ?_<;>intros
 all_goals(try rw[e1,e2] at*)
 all_goals(try rw[e3] at*)
 all_goals first|omega|skip
 rw[jor h1 h2 h3];exact⟨rfl,rfl⟩
instance z26:cK 554 where
instance z27:cK 555 where
theorem AG {a b:ByteArray}(h:(a.toList==b.toList)=true)(hn:a.data.toList≠b.data.toList):False:=by have h2:=eq_of_beq h;rw[ByteArray.toList_eq,ByteArray.toList_eq] at h2;exact hn h2
instance Yd:VC EM (zF 491) [I 2,I 3] True (B true):=.of rfl rfl λ_=>by
 show Zx EM false (Tryz.a491 _) _ _ _ _
 (refine z2 ?_ ?_<;>intros;all_goals(exact absurd be (λh=>AG h ce)))
instance Ye:VC EM (zF 491) [I 3,I 2] True (B true):=.of rfl rfl λ_=>by
 show Zx EM false (Tryz.a491 _) _ _ _ _
 (refine z2 ?_ ?_<;>intros;all_goals(exact absurd be (λh=>AG h ce)))
instance Yf:VC EM (zF 491) [I 3,I 4] True (B true):=.of rfl rfl λ_=>by
 show Zx EM false (Tryz.a491 _) _ _ _ _
 (refine z2 ?_ ?_<;>intros;all_goals(exact absurd be (λh=>AG h ce)))
instance Yg:VC EM (zF 491) [I 4,I 3] True (B true):=.of rfl rfl λ_=>by
 show Zx EM false (Tryz.a491 _) _ _ _ _
 (refine z2 ?_ ?_<;>intros;all_goals(exact absurd be (λh=>AG h ce)))
instance Yh:VC EM (zF 491) [I 4,I 5] True (B true):=.of rfl rfl λ_=>by
 show Zx EM false (Tryz.a491 _) _ _ _ _
 (refine z2 ?_ ?_<;>intros;all_goals(exact absurd be (λh=>AG h ce)))
instance z28 {n:Nat}[Mn n [256,369,474,258,482,689,690,691,480,373,549,589,262,372,479,550,264,376,484,552,591,390,492,556,384,487,399,497,401]]:cK n where
inductive oc (a e n:Int)(q:Nat):ig->List Own->Prop
 |a {w:Int}:oc a e n q .a [.obj q (.row [B true,I a,U e,U n,U w,.fn (.func 369) [.ptr q 0] [],I 0])]
 |b {w:Int}(hw:Me.aC w):oc a e n q (.b w) [.obj q (.row [B true,I a,U e,U n,U w,.fn (.func 474) [.ptr q 0] [],I 0])]
 |d {w er:Int}:oc a e n q (.d er) [.obj q (.row [B true,I a,U e,U n,U w,Nf,I er])]
def Jb.ok (j:Jb):Prop:=j.f.ok/\(0<=j.bE/\j.bE<100000)/\(0<=j.keys/\j.keys<100000)
def Jb.row (j:Jb)(i w:Int)(nx th:AV)(er:Int):List AV:=[I j.bE,I j.keys,I j.f.top,I j.f.links,I j.f.size,I i,U w,nx,th,B true,I er]
inductive kS (j:Jb)(q:Nat):dR->List Own->Prop
 |p {i w:Int}{th}{qp:Nat}{σ l}(h:w9 j.f qp σ l)(ho:σ.over=false):kS j q (.p σ) (.obj q (.row (j.row i w (.fn (.func 372) [.ptr q 0] []) th 0++[.ptr qp 0]))::l)
 |l {i w:Int}{th}{qp:Nat}(hi:0<=i/\i<j.f.size):kS j q (.l i) [.obj q (.row (j.row i w (.fn (.func 479) [.ptr q 0] []) th 0++[.ptr qp 0]))]
 |s {i w:Int}{th}{qp:Nat}(hi:0<=i/\i<j.f.size)(hw:Me.aC w):kS j q (.s i w) [.obj q (.row (j.row i w (.fn (.func 550) [.ptr q 0] []) th 0++[.ptr qp 0]))]
 |d {i w:Int}{th}{qp:Nat}(hi:0<=i/\i<j.f.size):kS j q (.d i 0) [.obj q (.row (j.row i w Nf th 0++[.ptr qp 0]))]
 |n {i w:Int}{th}{qp:Nat}:kS j q (.d 0 7) [.obj q (.row (j.row i w Nf th 7++[.ptr qp 0]))]
inductive pc (j:Jb)(i:Int)(q:Nat):cW->List Own->Prop
 |l {w:Int}{th}{qp:Nat}{l}(hi:0<=i/\i<j.f.size)(h:kR j.f i qp .a l):pc j i q .l (.obj q (.row (j.row i w (.fn (.func 484) [.ptr q 0] []) th 0++[.ptr qp 0]))::l)
 |s {w:Int}{th}{qp:Nat}{l}(hi:0<=i/\i<j.f.size)(hw:Me.aC w)(h:kR j.f i qp .a l):pc j i q (.s w) (.obj q (.row (j.row i w (.fn (.func 552) [.ptr q 0] []) th 0++[.ptr qp 0]))::l)
 |p {w:Int}{th}{qp:Nat}{σ l}(hi:0<=i/\i<j.f.size)(h:kR j.f i qp σ l)(ho:σ.over=false):pc j i q (.p σ) (.obj q (.row (j.row i w (.fn (.func 591) [.ptr q 0] []) th 0++[.ptr qp 0]))::l)
 |d {w er:Int}{th qp}:pc j i q (.d er) [.obj q (.row (j.row i w Nf th er++[qp]))]
inductive rv (j:Jb)(i fr to c:Int)(q:Nat):bg->List Own->Prop
 |l {w:Int}{th}(hi:0<=i/\i<j.f.size):rv j i fr to c q .l [.obj q (.row (j.row i w (.fn (.func 492) [.ptr q 0] []) th 0++[I fr,I to,I c]))]
 |s {w:Int}{th}(hi:0<=i/\i<j.f.size)(hw:Me.aC w):rv j i fr to c q (.s w) [.obj q (.row (j.row i w (.fn (.func 556) [.ptr q 0] []) th 0++[I fr,I to,I c]))]
 |d {w er:Int}{th}:rv j i fr to c q (.d er) [.obj q (.row (j.row i w Nf th er++[I fr,I to,I c]))]
inductive xa (j:Jb)(i k:Int)(q:Nat):bF->List Own->Prop
 |a {w:Int}{th}(hi:0<=i/\i<j.f.size):xa j i k q .a [.obj q (.row (j.row i w (.fn (.func 487) [.ptr q 0] []) th 0++[U k]))]
 |d {w v er:Int}{th}:xa j i k q (.d v er) [.obj q (.row (j.row i w Nf th er++[U k]))]
inductive ji (j:Jb)(i:Int)(q:Nat):bF->List Own->Prop
 |a {w:Int}{th}(hi:0<=i/\i<j.f.size):ji j i q .a [.obj q (.row (j.row i w (.fn (.func 497) [.ptr q 0] []) th 0))]
 |d {w:Int}{th}(hw:Me.aC w):ji j i q (.d w 0) [.obj q (.row (j.row i w Nf th 0))]
section
variable{B0 S:AH}{W:List Nat}{own R lo:List Own}{ro:List aI}{m bl q:Nat}{x:Me}{rest:List AV}{j:Jb}{a e n i k fr to c:Int}
theorem AJ {σ}(hs:(0<=e/\e<=1099511627776)/\0<=n/\n<=1099511627776)(hx:x.gd)(h:oc a e n q σ lo)(H:Cx B0 W S (lo++(ae m bl x rest++R)) ro):
  aN EM (zF 687) [.ptr q 0,.ptr m 0] S λu S'=>∃ab,fb (oc a e n q) ig.over (σ.step a e n x) (ae m bl · rest) R u ab/\Cx B0 W S' ab ro:=by
 cases h with
 |a=>
  refine y2 H bL ?_ ?_<;>intros
  .next h=>exact aa (Prod.ext (if_pos h) rfl) .d rfl HQ
  .next h=>exact aa (Prod.ext (if_neg h) rfl) (.b (Me.aj hx _)) rfl HQ
 |@b w hw=>
  have e1:(n+1)%18446744073709551616=n+1:=am;refine y2 H bL ?_ ?_<;>intros
  all_goals rw[e1]
  .next h=>exact aa (Prod.ext (if_neg (show¬x.eq a w by simpa using h)) rfl) .a rfl HQ
  .next h=>exact aa (Prod.ext (if_pos (show x.eq a w by simpa using h)) rfl) .d rfl HQ
 |d=>refine y1 H bL ?_;exact aa rfl .d rfl HQ
theorem oO {σ}(hs:j.ok)(hx:x.gd)(h:xa j i k q σ lo)(H:Cx B0 W S (lo++(ae m bl x rest++R)) ro):
  aN EM (zF 701) [.ptr q 0,.ptr m 0] S λu S'=>∃ab,fb (xa j i k q) bF.over (σ.step j i k x) (ae m bl · rest) R u ab/\Cx B0 W S' ab ro:=by
 have bt:=hs;unfold Jb.ok Sk.ok at bt;cases h with
 |a hi=>
  refine y1 H bL ?_;intros;exact aa rfl .d rfl HQ
 |d=>refine y1 H bL ?_;intros;exact aa rfl .d rfl HQ
theorem jE {σ}(hs:j.ok)(hx:x.gd)(h:ji j i q σ lo)(H:Cx B0 W S (lo++(ae m bl x rest++R)) ro):
  aN EM (zF 704) [.ptr q 0,.ptr m 0] S λu S'=>∃ab,fb (ji j i q) bF.over (σ.stepOf j i x) (ae m bl · rest) R u ab/\Cx B0 W S' ab ro:=by
 have bt:=hs;unfold Jb.ok Sk.ok at bt;cases h with
 |a hi=>
  refine y1 H bL ?_;intros;exact aa rfl (.d (Me.aj hx _)) rfl HQ
 |d hw=>refine y1 H bL ?_;intros;exact aa rfl (.d hw) rfl HQ
theorem AK {σ}(hs:j.ok)(hf:0<=fr/\fr<6)(ht:0<=to/\to<6)(hc:0<=c/\c<64)(hx:x.gd)(h:rv j i fr to c q σ lo)(H:Cx B0 W S (lo++(ae m bl x rest++R)) ro):
  aN EM (zF 702) [.ptr q 0,.ptr m 0] S λu S'=>∃ab,fb (rv j i fr to c q) bg.over (σ.step j i fr to c x) (ae m bl · rest) R u ab/\Cx B0 W S' ab ro:=by
 have bt:=hs;unfold Jb.ok Sk.ok at bt;cases h with
 |l hi=>
  have hb:=Me.aj hx (j.bE+i);refine y4 H bL ?_ ?_ ?_ ?_<;>intros
  .next h=>exact aa (Prod.ext (if_neg (λq=>h q.1)) rfl) .d rfl HQ
  .next h3 h4 h=>have h4':fr=4:=am;exact aa (Prod.ext (if_neg (λq=>q.2.elim (λz=>z h4') h)) rfl) .d rfl HQ
  .next h3 h4 h=>exact aa (Prod.ext (if_pos ⟨Decidable.not_not.1 h3,.inr (Decidable.not_not.1 h)⟩) rfl) (.s hi hb) rfl HQ
  .next h3 h=>exact aa (Prod.ext (if_pos ⟨Decidable.not_not.1 h3,.inl am⟩) rfl) (.s hi hb) rfl HQ
 |@s w th hi hw=>
  have e1:(w/4294967296+0)%4294967296=w/4294967296:=am;have e2:(bg.s w).step j i fr to c x=(if x.eq (j.bE+i) w then .d 0 else .l,x.gY (j.bE+i) w (jw to (if to=4 then c else 0) (w/4294967296))):=rfl;refine y4 H bL ?_ ?_ ?_ ?_<;>intros
  all_goals rw[e1]
  all_goals rw[e2]
  .next h4 h=>rw[if_pos h4,if_pos h];exact aa rfl .d rfl HQ
  .next h4 h=>rw[if_pos h4,if_neg h];exact aa rfl (.l hi) rfl HQ
  .next h4 h=>rw[if_neg h4,if_pos h];exact aa rfl .d rfl HQ
  .next h4 h=>
   rw[if_neg h4,if_neg h];exact aa rfl (.l hi) rfl HQ
 |d=>refine y1 H bL ?_;intros;exact aa rfl .d rfl HQ
theorem AL {σ}(hs:j.ok)(hx:x.gd)(h:pc j i q σ lo)(H:Cx B0 W S (lo++(ae m bl x rest++R)) ro):
  aN EM (zF 700) [.ptr q 0,.ptr m 0] S λu S'=>∃ab,fb (pc j i q) cW.over (σ.step j i x) (ae m bl · rest) R u ab/\Cx B0 W S' ab ro:=by
 have bt:=hs;unfold Jb.ok Sk.ok at bt;cases h with
 |@l w th qp l hi h=>
  have hb:=Me.aj hx (j.bE+i);refine y3 H bL ?_ ?_ ?_<;>intros
  .next h5 h2=>exact aa (Prod.ext (if_neg (λq=>q.elim h5 h2)) rfl) .d rfl HQ
  .next h5 h2=>exact aa (Prod.ext (if_pos (.inr (Decidable.not_not.1 h2))) rfl) (.s hi hb h) rfl HQ
  .next h5=>exact aa (Prod.ext (if_pos (.inl (Decidable.not_not.1 h5))) rfl) (.s hi hb h) rfl HQ
 |@s w th qp l hi hw h=>
  have e1:(w/4294967296+0)%4294967296=w/4294967296:=am;have e2:(cW.s w).step j i x=(if x.eq (j.bE+i) w then .p .a else .l,x.gY (j.bE+i) w (jw 1 0 (w/4294967296))):=rfl;refine y2 H bL ?_ ?_<;>intros
  all_goals rw[e1,e2]
  .next h3=>rw[if_pos h3];exact aa rfl (.p hi h rfl) rfl HQ
  .next h3=>
   rw[if_neg h3];exact aa rfl (.l hi h) rfl HQ
 |@p w th qp σ l hi h ho=>
  refine y1 H bL ?_;intros;refine Vx.f_ (A:=[_,_,_]) (λB W S H=>vI hs.1 hx h H) λa' x' l' e hl=>?_;have e2:(cW.p σ).step j i x=(if a'.over then .d 0 else .p a',x'):=by show(_,_)=_;rw[e]
  cases ho:a'.over
  .refine z1 ?_;have e3:(cW.p σ).step j i x=(.p a',x'):=e2.trans (Prod.ext (if_neg (by rw[ho];simp)) rfl);exact aa e3 (.p hi hl ho) rfl HQ
  .cases hl with
   |a=>cases ho
   |b=>cases ho
   |c=>cases ho
   |d=>
    refine z1 ?_;exact aa e2 .d rfl HQ
 |d=>refine y1 H bL ?_;intros;exact aa rfl .d rfl HQ
theorem AM {σ}(hs:j.ok)(hx:x.gd)(h:kS j q σ lo)(H:Cx B0 W S (lo++(ae m bl x rest++R)) ro):
  aN EM (zF 688) [.ptr q 0,.ptr m 0] S λu S'=>∃ab,fb (kS j q) dR.over (σ.step j x) (ae m bl · rest) R u ab/\Cx B0 W S' ab ro:=by
 have bt:=hs;unfold Jb.ok Sk.ok at bt;cases h with
 |@p i w th qp σ l h ho=>
  refine y1 H bL ?_;intros;refine Vx.f_ (A:=[_,_,_]) (λB W S H=>DB hs.1 hx h H) λa' x' l' e hl=>?_;have e2:(dR.p σ).step j x=(dR.kP a',x'):=by show(dR.kP _,_)=_;rw[e]
  cases ho:a'.over
  .refine z1 ?_;have e3:(dR.p σ).step j x=(.p a',x'):=e2.trans (Prod.ext (by cases hl<;>first|rfl|cases ho) rfl);exact aa e3 (.p hl ho) rfl HQ
  .cases hl with
   |a=>cases ho
   |b=>cases ho
   |c=>cases ho
   |d hi=>
    refine z1 ?_;exact aa (e2.trans (Prod.ext (if_neg am) rfl)) (.l hi) rfl HQ
   |n hi=>
    refine z1 ?_;exact aa e2 .n rfl HQ
 |@l i w th qp hi=>
  have hb:=Me.aj hx (j.bE+i);refine y1 H bL ?_;intros;exact aa rfl (.s hi hb) rfl HQ
 |@s i w th qp hi hw=>
  have e2:(dR.s i w).step j x=(if x.eq (j.bE+i) w then .d i 0 else .l i,x.gY (j.bE+i) w (jw 2 0 ((w/4294967296+1)%4294967296))):=rfl;refine y2 H bL ?_ ?_<;>intros
  all_goals rw[e2]
  .next h=>rw[if_pos h];exact aa rfl (.d hi) rfl HQ
  .next h=>
   rw[if_neg h];exact aa rfl (.l hi) rfl HQ
 |d hi=>
  refine y1 H bL ?_;intros;exact aa rfl (.d hi) rfl HQ
 |n=>refine y1 H bL ?_;intros;exact aa rfl .n rfl HQ
end
def Tw.ok (t:Tw):Prop:=(0<=t.nd/\t.nd<4096)/\(0<=t.hd/\t.hd<4096)/\(1<=t.ht/\t.ht<=4)/\t.l.a.f.size<=128/\t.l.ok
def Tw.cs (t:Tw):List AV:=I t.nd::I t.hd::I t.ht::t.l.cs
def qo (nd ht i k:Int):Int:=nd+i*(4+ht)+k
def Cl (nd hd ht i l:Int):Int:=if i=-1 then hd+l else qo nd ht i (4+l)
instance z29 {n:Nat}[Mn n [136,150,149,151,137,684]]:cK n where
section
variable{nd hd ht c3 c4 n c6 c7 c8 c9 dS dt dW i k l:Int}
instance Vm:VC EM (zF 133) [.agg [I nd,I hd,I ht,I c3,I c4,I n,I c6,I c7,I c8,I c9,I dS,I dt,I dW]] ((0<=nd/\nd<4096)/\(0<=hd/\hd<4096)/\(1<=ht/\ht<=4)/\1<=n/\n<=128) (B true):=.of rfl rfl λh=>by show Zx EM false (Tryz.a133 _) _ _ _ _;exact zZ
instance Vn:nj EM 219 "coxswain/tower.cells" 137:=⟨λ_=>by kernel_rfl⟩
instance Vo:nj EM 232 "coxswain/tower.cells" 684:=⟨λ_=>by kernel_rfl⟩
instance z30:cK 61 where
instance Yi:VC EM (zF 609) [.agg [I nd,I hd,I ht,I c3,I c4,I n,I c6,I c7,I c8,I c9,I dS,I dt,I dW],I i,I l] (((0<=nd/\nd<4096)/\(0<=hd/\hd<4096)/\(1<=ht/\ht<=4)/\1<=n/\n<=128)/\(-1<=i/\i<n)/\0<=l/\l<ht) (I (Cl nd hd ht i l)):=.of rfl rfl λ⟨h,hi,hk⟩=>by
 by_cases h0:i=-1
 .subst h0;show Zx EM false (Tryz.a609 _) _ _ _ _;refine z1 ?_;intros;have e:hd+0*ht+(4+l-4)=hd+l:=am;exact⟨rfl,by rw[e];unfold Cl;rw[if_pos rfl];rfl⟩
 .have e:Cl nd hd ht i l=qo nd ht i (4+l):=if_neg h0;rw[e];show Zx EM false (Tryz.a609 _) _ _ _ _;have h1:0<=i*(4+ht):=Int.mul_nonneg am am;have h2:i*(4+ht)<=128*8:=Int.mul_le_mul am am am am;exact zZ
instance aao:VC EM (zF 61) [.agg [I nd,I hd,I ht,I c3,I c4,I n,I c6,I c7,I c8,I c9,I dS,I dt,I dW],I i,I k] (((0<=nd/\nd<4096)/\(0<=hd/\hd<4096)/\(1<=ht/\ht<=4)/\1<=n/\n<=128)/\(0<=i/\i<n)/\0<=k/\k<4+ht) (I (qo nd ht i k)):=.of rfl rfl λ⟨h,hi,hk⟩=>by show Zx EM false (Tryz.a61 _) _ _ _ _;have h1:0<=i*(4+ht):=Int.mul_nonneg hi.1 am;have h2:i*(4+ht)<=128*8:=Int.mul_le_mul am am am am;exact zZ
end
def Tw.rf (t:Tw)(i g:Int):Prop:=dz i g/\i<t.l.a.f.size
theorem Tw.AN {t:Tw}{i g:Int}(h:t.rf i g):t.ix (aK i g)=i:=by have h1:=sm h.1;unfold Tw.ix idx Tw.size;rw[h1,if_pos h.2]
section
variable{nd hd ht c3 c4 n c6 c7 c8 c9 dS dt dW i k l g ar high:Int}
instance Qx:VC EM (zF 630) [.agg [I nd,I hd,I ht,I c3,I c4,I n,I c6,I c7,I c8,I c9,I dS,I dt,I dW],U (aK i g),I ar,I high] (((0<=nd/\nd<4096)/\(0<=hd/\hd<4096)/\(1<=ht/\ht<=4)/\1<=n/\n<=128)/\(dz i g/\i<n)/\(0<=ar/\ar<=65534)/\1<=high/\high<=ht) (I 0):=.of rfl rfl λ⟨h,hi,hj,hh⟩=>by have ko:=hi;unfold dz at ko;show Zx EM false (Tryz.a630 _) _ _ _ _;refine z1 ?_;intros;exact hi.1
instance Vp:VC EM (zF 631) [.agg [I nd,I hd,I ht,I c3,I c4,I n,I c6,I c7,I c8,I c9,I dS,I dt,I dW],U (aK i g)] (dz i g/\i<n) (I i):=.of rfl rfl λ⟨hi,hn⟩=>by have ko:=hi;unfold dz at ko;have hw:=mJ hi;have hx:=sm hi;show Zx EM false (Tryz.a631 _) _ _ _ _;refine z1 ?_;intros;exact⟨rfl,by rw[hx];rfl⟩
end
instance z31 {n:Nat}[Mn n [758,621,632,633]]:cK n where
def DF (pt pi a b:Nat):AV:=.fn (.func 633) [] [.ptr pt 0,.ptr pi 0,.ptr a 0,.ptr b 0]
inductive AP (t:Tw)(i g key ar high:Int)(q:Nat):mI->List Own->Prop
 |s {k:Nat}{pt pi a0 b0 a1 b1 a2 b2 a3 b3:Nat}(hk:k<4):AP t i g key ar high q (.s k) [.obj q (.row [B true,U (aK i g),DF pt pi a0 b0,DF pt pi a1 b1,DF pt pi a2 b2,DF pt pi a3 b3,I k,I 0]),.obj pt (.row t.cs),.obj pi (.row [I i]),.obj a0 (.row [I 0]),.obj b0 (.row [U key]),.obj a1 (.row [I 1]),.obj b1 (.row [U ar]),.obj a2 (.row [I 2]),.obj b2 (.row [U high]),.obj a3 (.row [I 3]),.obj b3 (.row [U 2])]
 |d {f0 f1 f2 f3}:AP t i g key ar high q (.d 0) [.obj q (.row [B true,U (aK i g),f0,f1,f2,f3,I 4,I 0])]
section
variable{B0 S:AH}{W:List Nat}{own R lo:List Own}{ro:List aI}{m bl q:Nat}{x:Me}{rest:List AV}{t:Tw}{i g key ar high:Int}
theorem DG {σ:mI}(hs:t.ok)(hr:t.rf i g)(hx:x.gd)(h:AP t i g key ar high q σ lo)(H:Cx B0 W S (lo++(ae m bl x rest++R)) ro):
  aN EM (zF 757) [.ptr q 0,.ptr m 0] S λu S'=>∃ab,fb (AP t i g key ar high q) mI.over (σ.step t (aK i g) key ar high x) (ae m bl · rest) R u ab/\Cx B0 W S' ab ro:=by
 have bt:=hs;unfold Tw.ok Lb.ok Ar.ok Sk.ok Ep.ok at bt;have pD:=hr;unfold Tw.rf dz at pD;have m_:=Tw.AN hr;haveI:aY:=⟨⟩;cases h with
 |@s k pt pi a0 b0 a1 b1 a2 b2 a3 b3 hk=>
  match k,hk with
  |0,_=>
   have e:(mI.s 0).step t (aK i g) key ar high x=(.s 1,x.st (t.pt i 0) key):=by show(_,x.st (t.pt (t.ix _) 0) key)=_;rw[m_]
   refine y1 H bL ?_;exact aa e (.s am) rfl HQ
  |1,_=>
   have e:(mI.s 1).step t (aK i g) key ar high x=(.s 2,x.st (t.pt i 1) ar):=by show(_,x.st (t.pt (t.ix _) 1) ar)=_;rw[m_]
   refine y1 H bL ?_;exact aa e (.s am) rfl HQ
  |2,_=>
   have e:(mI.s 2).step t (aK i g) key ar high x=(.s 3,x.st (t.pt i 2) high):=by show(_,x.st (t.pt (t.ix _) 2) high)=_;rw[m_]
   refine y1 H bL ?_;exact aa e (.s am) rfl HQ
  |3,_=>
   have e:(mI.s 3).step t (aK i g) key ar high x=(.d 0,x.st (t.pt i 3) 2):=by show(_,x.st (t.pt (t.ix _) 3) 2)=_;rw[m_]
   refine y1 H bL ?_;exact aa e .d rfl HQ
 |d=>refine y1 H bL ?_;exact aa rfl .d rfl HQ
end
def iD:List Int->gL->List AV
 |v::L,s::T=>I v::I s.pred::U s.known::U s.cur::iD L T
 |_,_=>[]
def Sp.ok (t:Tw)(s:Sp):Prop:=(-1<=s.pred/\s.pred<t.l.a.f.size)/\Me.aC s.known/\Me.aC s.cur
def gL.ok (t:Tw)(T:gL):Prop:=(T.length:Int)=t.ht/\∀s∈T,s.ok t
instance z32 {n:Nat}[Mn n [661,664,658,736,733]]:cK n where
def Cm:Nat->Int|0=>9|_+1=>1
def Mh:Nat->Int|0=>0|l+1=>l
def Mi:Nat->Int->Int|0,c=>c|_+1,_=>0
theorem tD {α:Type}{l:List α}(h:l.length=1):∃a,l=[a]:=match l,h with|[a],_=>⟨a,rfl⟩
theorem tE {α:Type}{l:List α}(h:l.length=2):∃a b,l=[a,b]:=match l,h with|[a,b],_=>⟨a,b,rfl⟩
theorem tF {α:Type}{l:List α}(h:l.length=3):∃a b c,l=[a,b,c]:=match l,h with|[a,b,c],_=>⟨a,b,c,rfl⟩
theorem tG {α:Type}{l:List α}(h:l.length=4):∃a b c d,l=[a,b,c,d]:=match l,h with|[a,b,c,d],_=>⟨a,b,c,d,rfl⟩
section
variable{nd hd ht c3 c4 n c6 c7 c8 c9 dS dt dW key ln lv pred known cur w cR er:Int}{told:AV}{q qt k:Nat}{R0:List Own}{L:List Int}{T:gL}
instance Sm:SC EM (zF 651) [.ptr q 0] (.obj q (.row [I nd,I hd,I ht,I c3,I c4,I n,I c6,I c7,I c8,I c9,I dS,I dt,I dW,U key,I ln,I lv,I pred,U known,U cur,U w,.sl qt 0 k k,U cR,B true,I er])::R0) (1<=ht/\ht<=4) uv
  (.obj q (.row [I nd,I hd,I ht,I c3,I c4,I n,I c6,I c7,I c8,I c9,I dS,I dt,I dW,U key,I 1,I (ht-1),I (-1),U 0,U 0,U w,.sl qt 0 k k,U cR,B true,I er])::R0):=.of rfl rfl λh ro R=>by
 show Zx EM false (Tryz.a651 _) _ _ _ _;haveI:aY:=⟨⟩;refine z1 ?_;intros;exact⟨rfl,rfl,_,⟨rfl,rfl⟩,HQ⟩
instance Sn {l:Nat}:SC EM (zF 737) [.ptr q 0] (.obj q (.row [I nd,I hd,I ht,I c3,I c4,I n,I c6,I c7,I c8,I c9,I dS,I dt,I dW,U key,I ln,I l,I pred,U known,U cur,U w,.sl qt 0 k k,U cR,B true,I er])::.obj qt (.row (iD L T))::R0)
  ((1<=ht/\ht<=4)/\(k:Int)=ht/\l<k/\T.length=k/\L.length=k) uv
  (.obj q (.row [I nd,I hd,I ht,I c3,I c4,I n,I c6,I c7,I c8,I c9,I dS,I dt,I dW,U key,I (Cm l),I (Mh l),I pred,U known,U (Mi l cur),U w,.sl qt 0 k k,U cR,B true,I er])::.obj qt (.row (iD (L.set l l) (T.set l ⟨pred,known,cur⟩)))::R0):=.of rfl rfl λ⟨h,hk,hl,hT,hL⟩ ro R=>by
 have:k=1\/k=2\/k=3\/k=4:=am;rcases this with rfl|rfl|rfl|rfl
 .obtain⟨a,rfl⟩:=tD hT;obtain⟨a',rfl⟩:=tD hL;obtain rfl:ht=1:=am;match l,hl with
  |0,_=>(show Zx EM false (Tryz.a737 _) _ _ _ _;haveI:aY:=⟨⟩;refine z1 ?_;intros;exact⟨rfl,rfl,_,⟨rfl,rfl⟩,HQ⟩)
 .obtain⟨a,b,rfl⟩:=tE hT;obtain⟨a',b',rfl⟩:=tE hL;obtain rfl:ht=2:=am;match l,hl with
  |0,_=>(show Zx EM false (Tryz.a737 _) _ _ _ _;haveI:aY:=⟨⟩;refine z1 ?_;intros;exact⟨rfl,rfl,_,⟨rfl,rfl⟩,HQ⟩)
  |1,_=>(show Zx EM false (Tryz.a737 _) _ _ _ _;haveI:aY:=⟨⟩;refine z1 ?_;intros;exact⟨rfl,rfl,_,⟨rfl,rfl⟩,HQ⟩)
 .obtain⟨a,b,c,rfl⟩:=tF hT;obtain⟨a',b',c',rfl⟩:=tF hL;obtain rfl:ht=3:=am;match l,hl with
  |0,_=>(show Zx EM false (Tryz.a737 _) _ _ _ _;haveI:aY:=⟨⟩;refine z1 ?_;intros;exact⟨rfl,rfl,_,⟨rfl,rfl⟩,HQ⟩)
  |1,_=>(show Zx EM false (Tryz.a737 _) _ _ _ _;haveI:aY:=⟨⟩;refine z1 ?_;intros;exact⟨rfl,rfl,_,⟨rfl,rfl⟩,HQ⟩)
  |2,_=>(show Zx EM false (Tryz.a737 _) _ _ _ _;haveI:aY:=⟨⟩;refine z1 ?_;intros;exact⟨rfl,rfl,_,⟨rfl,rfl⟩,HQ⟩)
 .obtain⟨a,b,c,d,rfl⟩:=tG hT;obtain⟨a',b',c',d',rfl⟩:=tG hL;obtain rfl:ht=4:=am;match l,hl with
  |0,_=>(show Zx EM false (Tryz.a737 _) _ _ _ _;haveI:aY:=⟨⟩;refine z1 ?_;intros;exact⟨rfl,rfl,_,⟨rfl,rfl⟩,HQ⟩)
  |1,_=>(show Zx EM false (Tryz.a737 _) _ _ _ _;haveI:aY:=⟨⟩;refine z1 ?_;intros;exact⟨rfl,rfl,_,⟨rfl,rfl⟩,HQ⟩)
  |2,_=>(show Zx EM false (Tryz.a737 _) _ _ _ _;haveI:aY:=⟨⟩;refine z1 ?_;intros;exact⟨rfl,rfl,_,⟨rfl,rfl⟩,HQ⟩)
  |3,_=>(show Zx EM false (Tryz.a737 _) _ _ _ _;haveI:aY:=⟨⟩;refine z1 ?_;intros;exact⟨rfl,rfl,_,⟨rfl,rfl⟩,HQ⟩)
end
end Go.cG
