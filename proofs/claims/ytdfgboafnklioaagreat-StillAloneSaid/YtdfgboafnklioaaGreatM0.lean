/- Contracts of functions, over the abstract machine. Conditions: stated in each theorem. -/
import Derived.Test.YtdfgboafnklioaaGreatAc
import Derived.Test.YtdfgboafnklioaaGreatT
set_option linter.all false
set_option maxRecDepth 100000
set_option maxHeartbeats 4000000
namespace Go.cY
open Go.Proofs
section
inductive Kf where
 |call (k:AV→AC)
 |bind (id:Option Nat)(k:List AV→AC)(outs:List AV→List AV)
 |fin (k:List AV→AC)
 |loop (body:List AV→AC)(outs:List AV→List AV)
 |Cu (p:Nat)(k:AC)(outs:List AV)
 |yd (p:Nat)(k:AV→AC)
def post (M:ef):List Kf→hX→hX
 |[],Q=>Q
 |.call k::K,Q=>fun t vs S=>t=.ret∧wp M (k (oneOf vs)) S (post M K Q)
 |.bind id k outs::K,Q=>xf M id k outs (post M K Q)
 |.fin k::K,Q=>fun t vs S=>(t=.normal∨t=.ret)∧wp M (k vs) S (post M K Q)
 |.loop body outs::K,Q=>fun t vs S=>(t=.normal∧Nd M body vs S fun t vs S'=>post M K Q t (outs vs) S')∨(t≠.normal∧post M K Q t (outs vs) S)
 |.Cu p k outs::K,Q=>fun t vs S=>t=.normal∧∃st de m b,S.get p=some (.loop st de m b)∧st≠.busy∧
   match de with
   |none=>wp M k (S.set p (.loop .exhausted de m b)) (post M K Q)
   |some t=>post M K Q t outs (S.set p (.loop .exhausted de m b))
 |.yd p k::K,Q=>fun t vs S=>∃pd m b,S.get p=some (.loop .busy pd m b)∧
   match t with
   |.normal=>wp M (k (.sc (.bool true))) (S.set p (.loop .ready none m b)) (post M K Q)
   |t=>wp M (k (.sc (.bool false))) (S.set p (.loop .done (some t) m b)) (post M K Q)
abbrev pH:=Tag→List AV→List Own→List aQ→Prop
def cl (B:AH)(W:List Nat)(Φ:pH):hX:=fun t vs S=>∃own ro,Φ t vs own ro∧Cx B W S own ro
def Vx (M:ef)(x:AC)(K:List Kf)(own:List Own)(ro:List aQ)(Φ:pH):Prop:=∀B W S,Cx B W S own ro→wp M x S (post M K (cl B W Φ))
def ck (p:Prop):Prop:=p=True
theorem ck.of {p:Prop}(h:p):ck p:=eq_true h
theorem ck.out {p:Prop}(h:ck p):p:=of_eq_true h
attribute[irreducible] ck
theorem Cx.gw {B S W own ab ro}(H:Cx B W S own ro)(h:own.Perm ab):Cx B W S ab ro where
 next:=H.next
 iK:=H.iK
 oh:=fun x hx=>H.oh x (h.mem_iff.2 hx)
 oi:=fun x hx=>H.oi x (h.mem_iff.2 hx)
 od:=(h.pairwise_iff (fun{x y} YE id hy hx=>YE id hx hy)).1 H.od
 rh:=H.rh
 ri:=fun φ jt id bS=>⟨(H.ri φ jt id bS).1,fun x hx=>(H.ri φ jt id bS).2 x (h.mem_iff.2 hx)⟩
inductive Lo:List Own→Nat→List AV→Prop
 |hd {p:Nat}{c r}:Lo (.obj p (.row c)::r) p c
 |tl {p:Nat}{c x r}(h:Lo r p c):Lo (x::r) p c
 |ap {p:Nat}{c l r}(h:Lo r p c):Lo (l++r) p c
inductive Lr:List aQ→Nat→List AV→Prop
 |hd {p:Nat}{c r}:Lr (.pt p 0 c::r) p c
 |tl {p:Nat}{c x r}(h:Lr r p c):Lr (x::r) p c
 |ap {p:Nat}{c l r}(h:Lr r p c):Lr (l++r) p c
 |me {p:Nat}{c r}(h:ck (aQ.pt p 0 c∈r)):Lr r p c
inductive Lk:List Own→List aQ→Nat→List AV→Prop
 |hd {p:Nat}{c r ro}:Lk (.obj p (.row c)::r) ro p c
 |tl {p:Nat}{c x r ro}(h:Lk r ro p c):Lk (x::r) ro p c
 |ap {p:Nat}{c l r ro}(h:Lk r ro p c):Lk (l++r) ro p c
 |ro {p:Nat}{c r ro}(h:Lr ro p c):Lk r ro p c
theorem Lr.mem {r}{p:Nat}{c}(h:Lr r p c):aQ.pt p 0 c∈r:=by
 induction h with
 |hd=>exact List.Mem.head _
 |tl h ih=>exact List.mem_cons_of_mem _ ih
 |ap h ih=>exact List.mem_append_right _ ih
 |me h=>exact h.out
theorem Lk.cells {own ro}{p:Nat}{c}(h:Lk own ro p c){S}(ho:∀x∈own,x.holds S)(hr:∀φ∈ro,φ.holds S):∃d,S.cells? p=some d∧c.length≤d.length∧d.take c.length=c:=by
 induction h with
 |hd=>exact⟨_,dB (ho _ (List.Mem.head _)),Nat.le_refl _,List.take_length⟩
 |tl h ih=>exact ih (fun x hx=>ho x (List.mem_cons_of_mem _ hx)) hr
 |ap h ih=>exact ih (fun x hx=>ho x (List.mem_append_right _ hx)) hr
 |ro h=>
  obtain⟨d,h1,h2,h3⟩:=hr _ h.mem
  exact⟨d,h1,by omega,by simpa using h3⟩
inductive Cut:Nat→Nat→List AV→List AV→Prop
 |d {o n:Nat}{v c l}(h:Cut o n c l):Cut (o+1) n (v::c) l
 |t {n:Nat}{v c l}(h:Cut 0 n c l):Cut 0 (n+1) (v::c) (v::l)
 |z {c}:Cut 0 0 c []
theorem Cut.eq {o n:Nat}{c l}(h:Cut o n c l):(c.drop o).take n=l∧o+n≤c.length:=by
 induction h with
 |d h ih=>exact⟨ih.1,by have:=ih.2;simp;omega⟩
 |t h ih=>exact⟨by simpa using ih.1,by have:=ih.2;simp;omega⟩
 |z=>simp
inductive DM:List AV→Nat→AV→Prop
 |s {c}{o:Nat}{v w}(h:DM c o v):DM (w::c) (o+1) v
 |z {c v}:DM (v::c) 0 v
theorem DM.eq {c}{o:Nat}{v}(h:DM c o v):c[o]?=some v:=by
 induction h with
 |s h ih=>simpa using ih
 |z=>rfl
inductive Sr:List AV→Nat→List AV→List AV→Prop
 |s {c c' vs}{o:Nat}{w}(h:Sr c o vs c'):Sr (w::c) (o+1) vs (w::c')
 |p {c c' vs v w}(h:Sr c 0 vs c'):Sr (w::c) 0 (v::vs) (v::c')
 |z {c}:Sr c 0 [] c
theorem Sr.eq {c c' vs}{o:Nat}(h:Sr c o vs c'):aL c o vs=c'∧o+vs.length≤c.length:=by
 induction h with
 |s h ih=>
  refine⟨?_,by have:=ih.2;simp;omega⟩
  rw[bD] at*
  rw[←ih.1]
  simp[Nat.succ_add]
 |@p c c' vs v w h ih=>
  refine⟨?_,by have:=ih.2;simp;omega⟩
  rw[bD] at*
  rw[←ih.1]
  simp
 |z=>exact⟨by rw[bD];simp,by simp⟩
inductive Up:List Own→Nat→List AV→List AV→List Own→Prop
 |hd {p:Nat}{c c' r}:Up (.obj p (.row c)::r) p c c' (.obj p (.row c')::r)
 |tl {p:Nat}{c c' x r r'}(h:Up r p c c' r'):Up (x::r) p c c' (x::r')
 |ap {p:Nat}{c c' l r r'}(h:Up r p c c' r'):Up (l++r) p c c' (l++r')
theorem Up.at {own ab}{p:Nat}{c c'}(h:Up own p c c' ab):∃n,own[n]?=some (.obj p (.row c))∧ab=own.set n (.obj p (.row c')):=by
 induction h with
 |hd=>exact⟨0,rfl,rfl⟩
 |tl h ih=>
  obtain⟨n,h1,h2⟩:=ih
  exact⟨n+1,by simpa using h1,by rw[h2];rfl⟩
 |@ap p c c' l r r' h ih=>
  obtain⟨n,h1,h2⟩:=ih
  refine⟨l.length+n,?_,?_⟩
  ·rw[List.getElem?_append_right (by omega)]
   simpa using h1
  ·rw[h2,List.set_append_right _ _ (by omega)]
   congr 2
   omega
inductive Uo:List Own→Nat→AO→AO→List Own→Prop
 |hd {p:Nat}{o o' r}:Uo (.obj p o::r) p o o' (.obj p o'::r)
 |tl {p:Nat}{o o' x r r'}(h:Uo r p o o' r'):Uo (x::r) p o o' (x::r')
 |ap {p:Nat}{o o' l r r'}(h:Uo r p o o' r'):Uo (l++r) p o o' (l++r')
theorem Uo.at {own ab}{p:Nat}{o o'}(h:Uo own p o o' ab):∃n,own[n]?=some (.obj p o)∧ab=own.set n (.obj p o'):=by
 induction h with
 |hd=>exact⟨0,rfl,rfl⟩
 |tl h ih=>
  obtain⟨n,h1,h2⟩:=ih
  exact⟨n+1,by simpa using h1,by rw[h2];rfl⟩
 |@ap p o o' l r r' h ih=>
  obtain⟨n,h1,h2⟩:=ih
  refine⟨l.length+n,?_,?_⟩
  ·rw[List.getElem?_append_right (by omega)]
   simpa using h1
  ·rw[h2,List.set_append_right _ _ (by omega)]
   congr 2
   omega
inductive Ro:List Own→Nat→AO→List Own→Prop
 |hd {p:Nat}{o r}:Ro (.obj p o::r) p o r
 |tl {p:Nat}{o x r r'}(h:Ro r p o r'):Ro (x::r) p o (x::r')
 |ap {p:Nat}{o l r r'}(h:Ro r p o r'):Ro (l++r) p o (l++r')
theorem Ro.at {own ab}{p:Nat}{o}(h:Ro own p o ab):∃n,own[n]?=some (.obj p o)∧ab=own.eraseIdx n:=by
 induction h with
 |hd=>exact⟨0,rfl,rfl⟩
 |tl h ih=>
  obtain⟨n,h1,h2⟩:=ih
  exact⟨n+1,by simpa using h1,by rw[h2];rfl⟩
 |@ap p o l r r' h ih=>
  obtain⟨n,h1,h2⟩:=ih
  refine⟨l.length+n,?_,?_⟩
  ·rw[List.getElem?_append_right (by omega)]
   simpa using h1
  ·rw[h2,List.eraseIdx_append_of_length_le (by omega)]
   congr 2
   omega
def KQ (t:Option Tag)(kk:AC)(outs:List AV):AC:=match t with
 |none=>kk
 |some t=>.ret t outs
inductive Le:List Own→Nat→Option Tag→List Own→Prop
 |Em {p m:Nat}{b r}:Le (.obj p (.loop .ready none m b)::r) p none r
 |Bz {p m:Nat}{t b r}:Le (.obj p (.loop .done (some t) m b)::r) p (some t) r
 |tl {p:Nat}{t x r r'}(h:Le r p t r'):Le (x::r) p t (x::r')
 |ap {p:Nat}{t l r r'}(h:Le r p t r'):Le (l++r) p t (l++r')
theorem Le.at {own ab}{p:Nat}{t}(h:Le own p t ab):∃n st m b,own[n]?=some (.obj p (.loop st t m b))∧st≠.busy∧ab=own.eraseIdx n:=by
 induction h with
 |Em=>exact⟨0,.ready,_,_,rfl,by simp,rfl⟩
 |Bz=>exact⟨0,.done,_,_,rfl,by simp,rfl⟩
 |tl h ih=>
  obtain⟨n,st,m,b,h1,h3,h2⟩:=ih
  exact⟨n+1,st,m,b,by simpa using h1,h3,by rw[h2];rfl⟩
 |@ap p o l r r' h ih=>
  obtain⟨n,st,m,b,h1,h3,h2⟩:=ih
  refine⟨l.length+n,st,m,b,?_,h3,?_⟩
  ·rw[List.getElem?_append_right (by omega)]
   simpa using h1
  ·rw[h2,List.eraseIdx_append_of_length_le (by omega)]
   congr 2
   omega
inductive Ls:List Own→AV→Nat→List (List AV)→Prop
 |hd {v}{es:Nat}{L r}:Ls (.sl v es L::r) v es L
 |tl {v}{es:Nat}{L x r}(h:Ls r v es L):Ls (x::r) v es L
 |ap {v}{es:Nat}{L l r}(h:Ls r v es L):Ls (l++r) v es L
theorem Ls.mem {own v}{es:Nat}{L}(h:Ls own v es L):Own.sl v es L∈own:=by
 induction h with
 |hd=>exact List.Mem.head _
 |tl _ ih=>exact List.mem_cons_of_mem _ ih
 |ap _ ih=>exact List.mem_append_right _ ih
inductive Us:List Own→AV→Nat→List (List AV)→AV→List (List AV)→List Own→Prop
 |hd {v v'}{es:Nat}{L L' r}:Us (.sl v es L::r) v es L v' L' (.sl v' es L'::r)
 |tl {v v'}{es:Nat}{L L' x r r'}(h:Us r v es L v' L' r'):Us (x::r) v es L v' L' (x::r')
 |ap {v v'}{es:Nat}{L L' l r r'}(h:Us r v es L v' L' r'):Us (l++r) v es L v' L' (l++r')
theorem Us.at {own ab v v'}{es:Nat}{L L'}(h:Us own v es L v' L' ab):∃n,own[n]?=some (.sl v es L)∧ab=own.set n (.sl v' es L'):=by
 induction h with
 |hd=>exact⟨0,rfl,rfl⟩
 |tl h ih=>
  obtain⟨n,h1,h2⟩:=ih
  exact⟨n+1,by simpa using h1,by rw[h2];rfl⟩
 |@ap v v' es L L' l r r' h ih=>
  obtain⟨n,h1,h2⟩:=ih
  refine⟨l.length+n,?_,?_⟩
  ·rw[List.getElem?_append_right (by omega)]
   simpa using h1
  ·rw[h2,List.set_append_right _ _ (by omega)]
   congr 2
   omega
inductive C1:List (List AV)→Nat→List AV→Prop
 |s {c}{o:Nat}{v w}(h:C1 c o v):C1 (w::c) (o+1) v
 |z {c v}:C1 (v::c) 0 v
theorem C1.eq {c}{o:Nat}{v}(h:C1 c o v):c[o]?=some v:=by
 induction h with
 |s h ih=>simpa using ih
 |z=>rfl
mutual
inductive uD:AV→AV→Prop
 |num {κ}{n:Int}:uD (Z κ n) (Z κ n)
 |bool {b:Bool}:uD (B b) (B b)
 |ptr {p o:Nat}:uD (.ptr p o) (.ptr p o)
 |np:uD Np Np
 |nf:uD Nf Nf
 |ns:uD Ns Ns
 |fn {f a a' c c'}(h:uE a a')(h2:uE c c'):uD (.fn f a c) (.fn f a' c')
 |agg {l l'}(h:uE l l'):uD (.agg l) (.agg l')
 |cP {l l'}(h:uE l l'):uD (.cP l) (.cP l')
 |JY {t:Nat}{v v'}(h:uD v v'):uD (.iface t v) (.iface t v')
 |sl {i o n c:Nat}:uD (.sl i o n c) (.sl i o n c)
 |any {v}:uD v v
inductive uE:List AV→List AV→Prop
 |nil:uE [] []
 |cons {v v' l l'}(h:uD v v')(h2:uE l l'):uE (v::l) (v'::l')
 |any {l}:uE l l
end
mutual
theorem uD.eq:∀{v v'},uD v v'→v=v'
 |_,_,.num=>rfl
 |_,_,.bool=>rfl
 |_,_,.ptr=>rfl
 |_,_,.np=>rfl
 |_,_,.nf=>rfl
 |_,_,.ns=>rfl
 |_,_,.fn h h2=>by rw[h.eq,h2.eq]
 |_,_,.agg h=>by rw[h.eq]
 |_,_,.cP h=>by rw[h.eq]
 |_,_,.JY h=>by rw[h.eq]
 |_,_,.sl=>rfl
 |_,_,.any=>rfl
theorem uE.eq:∀{l l'},uE l l'→l=l'
 |_,_,.nil=>rfl
 |_,_,.cons h h2=>by rw[h.eq,h2.eq]
 |_,_,.any=>rfl
end
class VC (M:ef)(f:AV)(args:List AV)(P:outParam Prop)(v:outParam AV):Prop where
 ok:P→∀S,aO M f args S fun r S'=>r=v∧aY S S'
class SC (M:ef)(f:AV)(args:List AV)(own:List Own)(P:outParam Prop)(v:outParam AV)(ab:outParam (List Own)):Prop where
 ok:P→∀(ro:List aQ) (R:List Own) (B:AH) (W:List Nat) (S:AH),Cx B W S (own++R) ro→aO M f args S fun r S'=>r=v∧Cx B W S' (ab++R) ro
theorem lJ {o:Own}{a b:List Own}:(o::(a++b)).Perm (a++(o::b)):=List.perm_middle.symm
instance SC.cons {M:ef}{f:AV}{args:List AV}{own ab:List Own}{P:Prop}{v:AV}{o:Own}[h:SC M f args own P v ab]:SC M f args (o::own) P v (o::ab) where
 ok:=fun hp ro R B W S H=>az (h.ok hp ro (o::R) B W S (H.gw lJ)) fun r S' q=>⟨q.1,q.2.gw lJ.symm⟩
theorem jJ {l a b:List Own}:(l++a++b).Perm (a++(l++b)):=by
 rw[←List.append_assoc]
 exact List.Perm.append_right b List.perm_append_comm
instance SC.app {M:ef}{f:AV}{args:List AV}{own ab:List Own}{P:Prop}{v:AV}{l:List Own}[h:SC M f args own P v ab]:SC M f args (l++own) P v (l++ab) where
 ok:=fun hp ro R B W S H=>az (h.ok hp ro (l++R) B W S (H.gw jJ)) fun r S' q=>⟨q.1,q.2.gw jJ.symm⟩
class NC (M:ef)(f:AV)(args:List AV)(P:outParam Prop)(Q:outParam (Nat→List Own→Prop)):Prop where
 ok:P→∀(ro:List aQ) (R:List Own) (B:AH) (W:List Nat) (S:AH),Cx B W S R ro→aO M f args S fun r S'=>∃p l,Q p l∧r=.ptr p 0∧Cx B W S' (l++R) ro
class NS (M:ef)(f:AV)(args:List AV)(own:List Own)(P:outParam Prop)(L:outParam (List (List AV))):Prop where
 ok:P→∀(ro:List aQ) (R:List Own) (B:AH) (W:List Nat) (S:AH),Cx B W S (own++R) ro→aO M f args S fun r S'=>Cx B W S' (.sl r 1 L::(own++R)) ro
instance NS.cons {M:ef}{f:AV}{args:List AV}{own:List Own}{P:Prop}{L:List (List AV)}{o:Own}[h:NS M f args own P L]:NS M f args (o::own) P L where
 ok:=fun hp ro R B W S H=>az (h.ok hp ro (o::R) B W S (H.gw lJ)) fun r S' q=>q.gw (List.Perm.cons _ lJ.symm)
instance NS.app {M:ef}{f:AV}{args:List AV}{own:List Own}{P:Prop}{L:List (List AV)}{l:List Own}[h:NS M f args own P L]:NS M f args (l++own) P L where
 ok:=fun hp ro R B W S H=>az (h.ok hp ro (l++R) B W S (H.gw jJ)) fun r S' q=>q.gw (List.Perm.cons _ jJ.symm)
class KR (L:List (List AV))(i:Int)(P:outParam Prop)(x:outParam AV):Prop where
 ok:P→∃j:Nat,i=j∧L[j]?=some [x]
class FA (own:List Own)(v:AV)(i:Int)(P:outParam Prop)(x:outParam AV):Prop where
 ok:P→∃L,Own.sl v 1 L∈own∧∃j:Nat,i=j∧L[j]?=some [x]
instance FA.tl {o own v x}{i:Int}{P:Prop}[c:FA own v i P x]:FA (o::own) v i P x where
 ok:=fun hp=>let⟨L,h1,h2⟩:=c.ok hp;⟨L,List.mem_cons_of_mem _ h1,h2⟩
instance FA.ap {l own v x}{i:Int}{P:Prop}[c:FA own v i P x]:FA (l++own) v i P x where
 ok:=fun hp=>let⟨L,h1,h2⟩:=c.ok hp;⟨L,List.mem_append_right _ h1,h2⟩
instance FA.hd {own v x L}{i:Int}{P:Prop}[c:KR L i P x]:FA (.sl v 1 L::own) v i P x where
 ok:=fun hp=>⟨L,List.Mem.head _,c.ok hp⟩
class HW (M:ef)(ty u:Nat):Prop where
 ok:∀v,hO M.P ty true true (some Ni) (.iface u v)=some (.cP [.iface u v,B true])
class va (M:ef)(ty u:Nat):Prop where
 ok:∀v,hO M.P ty true true (some Ni) (.iface u v)=some (.cP [Ni,B false])
class cF (f:Nat):Prop
class Mn (n:Nat)(l:List Nat):Prop
instance z1 {n:Nat}{l}:Mn n (n::l) where
instance z2 {n m:Nat}{l}[Mn n l]:Mn n (m::l) where
class aS:Prop
class mi (M:ef)(t:Nat)(name:String)(f:outParam Nat):Prop where
 ok:∀v,methodOf M.P t v name=some (f,v)
class di:Prop
class Jv:Prop
def xl (a b:Int):Int:=((a.toNat&&&b.toNat:Nat):Int)
def mj (a b:Int):Int:=((a.toNat|||b.toNat:Nat):Int)
inductive Zx (M:ef):Bool→AC→List Kf→List Own→List aQ→pH→Prop
 |YF {v k K own ro Φ}(h:Zx M false (k v) K own ro Φ):Zx M false (.ret .ret [v]) (.call k::K) own ro Φ
 |YG {k K own ro Φ}(h:Zx M false (k (.cP [])) K own ro Φ):Zx M false (.ret .ret []) (.call k::K) own ro Φ
 |YH {v w r k K own ro Φ}(h:Zx M false (k (.cP (v::w::r))) K own ro Φ):Zx M false (.ret .ret (v::w::r)) (.call k::K) own ro Φ
 |YI {vs id k outs K own ro Φ}(h:Zx M false (k vs) K own ro Φ):Zx M false (.ret .normal vs) (.bind id k outs::K) own ro Φ
 |YJ {vs}{i:Nat}{k outs K own ro Φ}(h:Zx M false (k vs) K own ro Φ):Zx M false (.ret (.exit i) vs) (.bind (some i) k outs::K) own ro Φ
 |YK {vs}{i j:Nat}{k outs K own ro Φ}(e:Nat.beq j i=false)(h:Zx M false (.ret (.exit i) (outs vs)) K own ro Φ):Zx M false (.ret (.exit i) vs) (.bind (some j) k outs::K) own ro Φ
 |YL {vs}{i:Nat}{k outs K own ro Φ}(h:Zx M false (.ret (.exit i) (outs vs)) K own ro Φ):Zx M false (.ret (.exit i) vs) (.bind none k outs::K) own ro Φ
 |YM {vs id k outs K own ro Φ}(h:Zx M false (.ret .ret (outs vs)) K own ro Φ):Zx M false (.ret .ret vs) (.bind id k outs::K) own ro Φ
 |YN {vs}{l:Nat}{id k outs K own ro Φ}(h:Zx M false (.ret (.goto l) (outs vs)) K own ro Φ):Zx M false (.ret (.goto l) vs) (.bind id k outs::K) own ro Φ
 |YO {vs k K own ro Φ}(h:Zx M false (k vs) K own ro Φ):Zx M false (.ret .normal vs) (.fin k::K) own ro Φ
 |YP {vs k K own ro Φ}(h:Zx M false (k vs) K own ro Φ):Zx M false (.ret .ret vs) (.fin k::K) own ro Φ
 |Nk [aS]{vs body outs K own ro Φ}(h:Zx M false (body vs) (.loop body outs::K) own ro Φ):Zx M false (.ret .normal vs) (.loop body outs::K) own ro Φ
 |YQ {vs}{i:Nat}{body outs K own ro Φ}(h:Zx M false (.ret (.exit i) (outs vs)) K own ro Φ):Zx M false (.ret (.exit i) vs) (.loop body outs::K) own ro Φ
 |YR {vs body outs K own ro Φ}(h:Zx M false (.ret .ret (outs vs)) K own ro Φ):Zx M false (.ret .ret vs) (.loop body outs::K) own ro Φ
 |YS {p:Nat}{t kk outs vs K own ab ro Φ}(h1:Le own p t ab)(h:Zx M false (KQ t kk outs) K ab ro Φ):Zx M false (.ret .normal vs) (.Cu p kk outs::K) own ro Φ
 |YT {p m:Nat}{b vs k K own ab ro Φ}(h1:Uo own p (.loop .busy none m b) (.loop .ready none m b) ab)(h:Zx M false (k (B true)) K ab ro Φ):Zx M false (.ret .normal vs) (.yd p k::K) own ro Φ
 |YU {p m i:Nat}{b vs k K own ab ro Φ}(h1:Uo own p (.loop .busy none m b) (.loop .done (some (.exit i)) m b) ab)(h:Zx M false (k (B false)) K ab ro Φ):Zx M false (.ret (.exit i) vs) (.yd p k::K) own ro Φ
 |YV {p m:Nat}{b vs k K own ab ro Φ}(h1:Uo own p (.loop .busy none m b) (.loop .done (some .ret) m b) ab)(h:Zx M false (k (B false)) K ab ro Φ):Zx M false (.ret .ret vs) (.yd p k::K) own ro Φ
 |leaf {t vs uI own ro Φ}(ha:uE vs uI)(h:ck (Φ t uI own ro)):Zx M false (.ret t vs) [] own ro Φ
 |bind {m id k outs K own ro Φ}(h:Zx M false m (.bind id k outs::K) own ro Φ):Zx M false (.bind m id k outs) K own ro Φ
 |fin {m k K own ro Φ}(h:Zx M false m (.fin k::K) own ro Φ):Zx M false (.fin m k) K own ro Φ
 |loop [aS]{init body outs K own ro Φ}(h:Zx M false (body init) (.loop body outs::K) own ro Φ):Zx M false (.loop init body outs) K own ro Φ
 |Cu {n:Nat}{f fa fc body kk outs K own ro Φ}(h:∀p:Nat,Zx M false (.call (.fn f fa fc) [.yd p] fun v=>.ret .normal [v]) (.Cu p kk outs::K) (.obj p (.loop .ready none n body)::own) ro Φ):Zx M false (.Cu n (.fn f fa fc) body kk outs) K own ro Φ
 |start {p m:Nat}{b k K own ab ro Φ}(h1:Uo own p (.loop .ready none m b) (.loop .busy none m b) ab)(h:Zx M false k K ab ro Φ):Zx M false (.start (.yd p) k) K own ro Φ
 |TY {x y K own ro Φ}(h:Zx M false x K own ro Φ):Zx M false (.ite (B true) x y) K own ro Φ
 |TZ {x y K own ro Φ}(h:Zx M false y K own ro Φ):Zx M false (.ite (B false) x y) K own ro Φ
 |T0 {p:Prop}[d:Decidable p]{x y K own ro Φ}(h1:p→Zx M false x K own ro Φ)(h2:¬p→Zx M false y K own ro Φ):Zx M false (.ite (B (decide p)) x y) K own ro Φ
 |T1 {c:Bool}{x y K own ro Φ}(h1:c=true→Zx M false x K own ro Φ)(h2:c=false→Zx M false y K own ro Φ):Zx M false (.ite (B c) x y) K own ro Φ
 |T3 {g:Bool}{o k K own ro Φ}(h:Zx M false (.op o k) K own ro Φ):Zx M false (.sG (B g) g o k) K own ro Φ
 |T4 {o k K own ro Φ}(h:Zx M false (k uv) K own ro Φ):Zx M false (.sG (B false) true o k) K own ro Φ
 |T5 {o k K own ro Φ}(h:Zx M false (k uv) K own ro Φ):Zx M false (.sG (B true) false o k) K own ro Φ
 |T6 {g:Bool}{o k K own ro Φ}(h:Zx M false (k uv) K own ro Φ):Zx M false (.sG uv g o k) K own ro Φ
 |T7 {p:Prop}[d:Decidable p]{g:Bool}{o k K own ro Φ}(h1:p→Zx M false (.sG (B true) g o k) K own ro Φ)(h2:¬p→Zx M false (.sG (B false) g o k) K own ro Φ):Zx M false (.sG (B (decide p)) g o k) K own ro Φ
 |T8 {b g:Bool}{o k K own ro Φ}(h1:b=true→Zx M false (.sG (B true) g o k) K own ro Φ)(h2:b=false→Zx M false (.sG (B false) g o k) K own ro Φ):Zx M false (.sG (B b) g o k) K own ro Φ
 |T9 {g:Bool}{f l k K own ro Φ}(h:Zx M false (.call f l k) K own ro Φ):Zx M false (.hG (B g) g f l k) K own ro Φ
 |T_ {f l k K own ro Φ}(h:Zx M false (k uv) K own ro Φ):Zx M false (.hG (B false) true f l k) K own ro Φ
 |Ua {f l k K own ro Φ}(h:Zx M false (k uv) K own ro Φ):Zx M false (.hG (B true) false f l k) K own ro Φ
 |Ub {g:Bool}{f l k K own ro Φ}(h:Zx M false (k uv) K own ro Φ):Zx M false (.hG uv g f l k) K own ro Φ
 |Uc {b g:Bool}{f l k K own ro Φ}(h1:b=true→Zx M false (.hG (B true) g f l k) K own ro Φ)(h2:b=false→Zx M false (.hG (B false) g f l k) K own ro Φ):Zx M false (.hG (B b) g f l k) K own ro Φ
 |Ud {g:Bool}{o v k K own ro Φ}(h:Zx M false (.kA o v k) K own ro Φ):Zx M false (.zS (B g) g o v k) K own ro Φ
 |Ue {o v k K own ro Φ}(h:Zx M false k K own ro Φ):Zx M false (.zS (B false) true o v k) K own ro Φ
 |Uf {o v k K own ro Φ}(h:Zx M false k K own ro Φ):Zx M false (.zS (B true) false o v k) K own ro Φ
 |Ug {g:Bool}{o v k K own ro Φ}(h:Zx M false k K own ro Φ):Zx M false (.zS uv g o v k) K own ro Φ
 |Uh {p o:Nat}{c v w k K own ro Φ}(h1:Lk own ro p c)(h2:DM c o w)(hb:ck (w.beq v=true))(h:Zx M false k K own ro Φ):Zx M false (.kA (.load 1 false (.ptr p o)) v k) K own ro Φ
 |Ui {p o n:Nat}{c l v k K own ro Φ}(h1:Lk own ro p c)(h2:Cut o n c l)(hb:ck (AV.beq (.agg l) v=true))(h:Zx M false k K own ro Φ):Zx M false (.kA (.load n true (.ptr p o)) v k) K own ro Φ
 |YW {k K own ro Φ}(h:Zx M false (k (B true)) K own ro Φ):Zx M false (.op (.mv (B true)) k) K own ro Φ
 |YX {k K own ro Φ}(h:Zx M false (k (B false)) K own ro Φ):Zx M false (.op (.mv (B false)) k) K own ro Φ
 |YY {p:Prop}[d:Decidable p]{k K own ro Φ}(h1:p→Zx M false (k (B true)) K own ro Φ)(h2:¬p→Zx M false (k (B false)) K own ro Φ):Zx M false (.op (.mv (B (decide p))) k) K own ro Φ
 |YZ {c:Bool}{k K own ro Φ}(h1:c=true→Zx M false (k (B true)) K own ro Φ)(h2:c=false→Zx M false (k (B false)) K own ro Φ):Zx M false (.op (.mv (B c)) k) K own ro Φ
 |mv {x x' k K own ro Φ}(ha:uD x x')(h:Zx M false (k x') K own ro Φ):Zx M false (.op (.mv x) k) K own ro Φ
 |not {b:Bool}{k K own ro Φ}(h:Zx M false (.op (.mv (B (!b))) k) K own ro Φ):Zx M false (.op (.un .not (B b)) k) K own ro Φ
 |Y0 {x y k K own ro Φ}(h:Zx M false (k x) K own ro Φ):Zx M false (.op (.pick (B true) x y) k) K own ro Φ
 |Y1 {x y k K own ro Φ}(h:Zx M false (k y) K own ro Φ):Zx M false (.op (.pick (B false) x y) k) K own ro Φ
 |Y2 {p:Prop}[d:Decidable p]{x y k K own ro Φ}(h1:p→Zx M false (k x) K own ro Φ)(h2:¬p→Zx M false (k y) K own ro Φ):Zx M false (.op (.pick (B (decide p)) x y) k) K own ro Φ
 |Y3 {c:Bool}{x y k K own ro Φ}(h1:c=true→Zx M false (k x) K own ro Φ)(h2:c=false→Zx M false (k y) K own ro Φ):Zx M false (.op (.pick (B c) x y) k) K own ro Φ
 |ex {i:Nat}{v l k K own ro Φ}(h1:DM l i v)(h:Zx M false (k v) K own ro Φ):Zx M false (.op (.extract i (.cP l)) k) K own ro Φ
 |O5 {o n:Nat}{l c k K own ro Φ}(h1:Cut o n c l)(h:Zx M false (k (.agg l)) K own ro Φ):Zx M false (.op (.part o n true (.agg c)) k) K own ro Φ
 |O6 {o n:Nat}{v c k K own ro Φ}(h1:DM c o v)(h:Zx M false (k v) K own ro Φ):Zx M false (.op (.part o n false (.agg c)) k) K own ro Φ
 |Y4 {z c c' ps k K own ro Φ}(h1:fx z ps=some c)(ha:uE c c')(h:Zx M false (k (.agg c')) K own ro Φ):Zx M false (.op (.build z ps) k) K own ro Φ
 |Y5 {p o f:Nat}{k K own ro Φ}(h:Zx M false (k (.ptr p (o+f))) K own ro Φ):Zx M false (.op (.nN f (.ptr p o)) k) K own ro Φ
 |Y6 {x k K own ro Φ}(e:live x=true)(h:Zx M false (k x) K own ro Φ):Zx M false (.op (.n_ x) k) K own ro Φ
 |lss {κ}{a b:Int}{k K own ro Φ}(h:Zx M false (.op (.mv (B (decide (a<b)))) k) K own ro Φ):Zx M false (.op (.bin .lss (Z κ a) (Z κ b)) k) K own ro Φ
 |leq {κ}{a b:Int}{k K own ro Φ}(h:Zx M false (.op (.mv (B (decide (a≤b)))) k) K own ro Φ):Zx M false (.op (.bin .leq (Z κ a) (Z κ b)) k) K own ro Φ
 |gtr {κ}{a b:Int}{k K own ro Φ}(h:Zx M false (.op (.mv (B (decide (b<a)))) k) K own ro Φ):Zx M false (.op (.bin .gtr (Z κ a) (Z κ b)) k) K own ro Φ
 |geq {κ}{a b:Int}{k K own ro Φ}(h:Zx M false (.op (.mv (B (decide (b≤a)))) k) K own ro Φ):Zx M false (.op (.bin .geq (Z κ a) (Z κ b)) k) K own ro Φ
 |eql {κ}{a b:Int}{k K own ro Φ}(h:Zx M false (.op (.mv (B (decide (a=b)))) k) K own ro Φ):Zx M false (.op (.bin .eql (Z κ a) (Z κ b)) k) K own ro Φ
 |neq {κ}{a b:Int}{k K own ro Φ}(h:Zx M false (.op (.mv (B (decide (a≠b)))) k) K own ro Φ):Zx M false (.op (.bin .neq (Z κ a) (Z κ b)) k) K own ro Φ
 |eqs {a b k K own ro Φ}(h:Zx M false (.op (.mv (B (a.toList==b.toList))) k) K own ro Φ):Zx M false (.op (.bin .eql (.sc (.string a)) (.sc (.string b))) k) K own ro Φ
 |Ct {len es:Nat}{ag:Bool}{x i v v' k K own ro Φ}(e:vC len es ag x i=some v)(ha:uD v v')(h:Zx M false (k v') K own ro Φ):Zx M false (.op (.Ct len es ag x i) k) K own ro Φ
 |add {a b:Int}{k K own ro Φ}(e:ck (-9223372036854775808≤a+b∧a+b≤9223372036854775807))(h:Zx M false (k (I (a+b))) K own ro Φ):Zx M false (.op (.bin .add (I a) (I b)) k) K own ro Φ
 |sub {a b:Int}{k K own ro Φ}(e:ck (-9223372036854775808≤a-b∧a-b≤9223372036854775807))(h:Zx M false (k (I (a-b))) K own ro Φ):Zx M false (.op (.bin .sub (I a) (I b)) k) K own ro Φ
 |mul {a b:Int}{k K own ro Φ}(e:ck (-9223372036854775808≤a*b∧a*b≤9223372036854775807))(h:Zx M false (k (I (a*b))) K own ro Φ):Zx M false (.op (.bin .mul (I a) (I b)) k) K own ro Φ
 |Uj {a b:Int}{k K own ro Φ}(h:Zx M false (k (U ((a+b)%18446744073709551616))) K own ro Φ):Zx M false (.op (.bin .add (U a) (U b)) k) K own ro Φ
 |Uk {a b:Int}{k K own ro Φ}(h:Zx M false (k (U ((a-b)%18446744073709551616))) K own ro Φ):Zx M false (.op (.bin .sub (U a) (U b)) k) K own ro Φ
 |shr {κ Nl}{a:Int}{s:Nat}{k K own ro Φ}(e:Nat.ble s κ.bits=true)(h:Zx M false (k (Z κ (a/2^s))) K own ro Φ):Zx M false (.op (.bin .shr (Z κ a) (Z Nl (Int.ofNat s))) k) K own ro Φ
 |shl {κ}{a:Int}{s:Nat}{k K own ro Φ}(e:Nat.ble s 64=true)(h:Zx M false (k (U (a*2^s%18446744073709551616))) K own ro Φ):Zx M false (.op (.bin .shl (U a) (Z κ (Int.ofNat s))) k) K own ro Φ
 |FB {a:Int}{k K own ro Φ}(e:ck (0≤a∧a<9223372036854775808))(h:Zx M false (k (I (a%65536))) K own ro Φ):Zx M false (.op (.bin .and (I a) (I 65535)) k) K own ro Φ
 |FC {a:Int}{k K own ro Φ}(e:ck (0≤a∧a<18446744073709551616))(h:Zx M false (k (U (a%65536))) K own ro Φ):Zx M false (.op (.bin .and (U a) (U 65535)) k) K own ro Φ
 |KS {a:Int}{k K own ro Φ}(e:ck (0≤a∧a<9223372036854775808))(h:Zx M false (k (I (a%256))) K own ro Φ):Zx M false (.op (.bin .and (I a) (I 255)) k) K own ro Φ
 |KT {a:Int}{k K own ro Φ}(e:ck (0≤a∧a<18446744073709551616))(h:Zx M false (k (U (a%256))) K own ro Φ):Zx M false (.op (.bin .and (U a) (U 255)) k) K own ro Φ
 |vd {a:Int}{k K own ro Φ}(e:ck (0≤a∧a<9223372036854775808))(h:Zx M false (k (I (a%4294967296))) K own ro Φ):Zx M false (.op (.bin .and (I a) (I 4294967295)) k) K own ro Φ
 |ve {a:Int}{k K own ro Φ}(e:ck (0≤a∧a<18446744073709551616))(h:Zx M false (k (U (a%4294967296))) K own ro Φ):Zx M false (.op (.bin .and (U a) (U 4294967295)) k) K own ro Φ
 |oH {a:Int}{k K own ro Φ}(e:ck (0≤a∧a<9223372036854775808))(h:Zx M false (k (I (a%281474976710656))) K own ro Φ):Zx M false (.op (.bin .and (I a) (I 281474976710655)) k) K own ro Φ
 |oI {a:Int}{k K own ro Φ}(e:ck (0≤a∧a<18446744073709551616))(h:Zx M false (k (U (a%281474976710656))) K own ro Φ):Zx M false (.op (.bin .and (U a) (U 281474976710655)) k) K own ro Φ
 |and {a b:Int}{k K own ro Φ}(e:ck ((0≤a∧a<18446744073709551616)∧0≤b∧b<18446744073709551616))(h:Zx M false (k (U (xl a b))) K own ro Φ):Zx M false (.op (.bin .and (U a) (U b)) k) K own ro Φ
 |Ul {a b:Int}{k K own ro Φ}(e:ck ((0≤a∧a<9223372036854775808)∧0≤b∧b<9223372036854775808))(h:Zx M false (k (I (xl a b))) K own ro Φ):Zx M false (.op (.bin .and (I a) (I b)) k) K own ro Φ
 |or {a b:Int}{k K own ro Φ}(e:ck ((0≤a∧a<18446744073709551616)∧0≤b∧b<18446744073709551616))(h:Zx M false (k (U (mj a b))) K own ro Φ):Zx M false (.op (.bin .or (U a) (U b)) k) K own ro Φ
 |Um {a:Int}{k K own ro Φ}(e:ck (0≤a∧a<18446744073709551616))(h:Zx M false (k (U (a%9223372036854775808))) K own ro Φ):Zx M false (.op (.bin .andNot (U a) (U 9223372036854775808)) k) K own ro Φ
 |rem {κ}{a b:Int}{k K own ro Φ}(e:ck (0≤a∧0<b))(h:Zx M false (k (Z κ (a%b))) K own ro Φ):Zx M false (.op (.bin .rem (Z κ a) (Z κ b)) k) K own ro Φ
 |KU {a:Int}{k K own ro Φ}(e:ck (0≤a∧a<18446744073709551616))(h:Zx M false (k (U (a-a%65536))) K own ro Φ):Zx M false (.op (.bin .andNot (U a) (U 65535)) k) K own ro Φ
 |Uq {a b:Int}{k K own ro Φ}(h:Zx M false (k (Z .u32 ((a+b)%4294967296))) K own ro Φ):Zx M false (.op (.bin .add (Z .u32 a) (Z .u32 b)) k) K own ro Φ
 |Ur {a b:Int}{k K own ro Φ}(h:Zx M false (k (Z .u32 ((a-b)%4294967296))) K own ro Φ):Zx M false (.op (.bin .sub (Z .u32 a) (Z .u32 b)) k) K own ro Φ
 |quo {a b:Int}{k K own ro Φ}(e:ck (0≤a∧0<b∧a<18446744073709551616))(h:Zx M false (k (U (a/b))) K own ro Φ):Zx M false (.op (.bin .quo (U a) (U b)) k) K own ro Φ
 |min2 {κ}{a b:Int}{k K own ro Φ}(h:Zx M false (k (Z κ (min a b))) K own ro Φ):Zx M false (.op (.qo false [Z κ a,Z κ b]) k) K own ro Φ
 |pad {len es:Nat}{x i v k K own ro Φ}(e:mw len es x i=some v)(h:Zx M false (k v) K own ro Φ):Zx M false (.op (.xZ len es x i) k) K own ro Φ
 |RS {id o n c es:Nat}{i v k K own ro Φ}(e:fC es (.sl id o n c) i=some v)(h:Zx M false (k v) K own ro Φ):Zx M false (.op (.fu es (.sl id o n c) i) k) K own ro Φ
 |Y7 {len es:Nat}{x v a b c k K own ro Φ}(e:jy len es x a b c=some v)(h:Zx M false (k v) K own ro Φ):Zx M false (.op (.n8 len es x a b c) k) K own ro Φ
 |Ut {v x}{i:Int}{own}{P:Prop}[c:FA own v i P x]{k K ro Φ}(hp:ck P)(h:Zx M false (k x) K own ro Φ):Zx M false (.op (.fu 1 v (I i)) fun p=>.op (.load 1 false p) k) K own ro Φ
 |Y8 {v x}{j:Nat}{L k K own ro Φ}(h1:Ls own v 1 L)(h2:C1 L j [x])(h:Zx M false (k x) K own ro Φ):Zx M false (.op (.fu 1 v (I (Int.ofNat j))) fun p=>.op (.load 1 false p) k) K own ro Φ
 |Y9 {bytes id o n cap:Nat}{c l k K own ro Φ}(h1:Lo own id c)(h2:Cut o n c l)(e:ck (l.length*bytes≤140737488355328∧l.length≤9223372036854775807))(h:∀v:AV,Zx M false (k v) K (.sl v 1 (l.map fun a=>[a])::own) ro Φ):Zx M false (.op (.append 1 bytes Ns (.sl id o n cap)) k) K own ro Φ
 |Y_ {v:AV}{bytes id o n cap:Nat}{c l:List AV}{L L':List (List AV)}{ab:AV→List Own}{k:AV→AC}{K:List Kf}{own:List Own}{ro:List aQ}{Φ:pH}(h0:Ls own v 1 L)(h1:Lo own id c)(h2:Cut o n c l)(hl:L++(l.map fun a=>[a])=L')(e:ck ((L.length+l.length)*bytes≤140737488355328∧L.length+l.length≤9223372036854775807))(h3:∀v',Us own v 1 L v' L' (ab v'))(h:∀v':AV,Zx M false (k v') K (ab v') ro Φ):Zx M false (.op (.append 1 bytes v (.sl id o n cap)) k) K own ro Φ
 |Uu {w}{bytes:Nat}{N k K own ro Φ}(h1:Ls own w 1 N)(e:ck (N.length*bytes≤140737488355328∧N.length≤9223372036854775807))(h:∀v':AV,ep v'=false→v'.cells=[v']→AV.beq v' v'=true→Zx M false (k v') K (.sl v' 1 N::own) ro Φ):Zx M false (.op (.append 1 bytes Ns w) k) K own ro Φ
 |Za {v w:AV}{bytes:Nat}{L N L':List (List AV)}{ab:AV→List Own}{k:AV→AC}{K:List Kf}{own:List Own}{ro:List aQ}{Φ:pH}(h0:Ls own v 1 L)(h1:Ls own w 1 N)(hl:L++N=L')(e:ck ((L.length+N.length)*bytes≤140737488355328∧L.length+N.length≤9223372036854775807))(h3:∀v',Us own v 1 L v' L' (ab v'))(h:∀v':AV,ep v'=false→v'.cells=[v']→AV.beq v' v'=true→Zx M false (k v') K (ab v') ro Φ):Zx M false (.op (.append 1 bytes v w) k) K own ro Φ
 |Uv {v:AV}{es a:Nat}{L L':List (List AV)}{ab:AV→List Own}{k:AV→AC}{K:List Kf}{own:List Own}{ro:List aQ}{Φ:pH}(h0:Ls own v es L)(ha:Nat.ble a L.length=true)(hl:L.drop a=L')(h3:∀v',Us own v es L v' L' (ab v'))(h:∀v':AV,ep v'=false→v'.cells=[v']→AV.beq v' v'=true→Zx M false (k v') K (ab v') ro Φ):Zx M false (.op (.n9 es v (some (I (Int.ofNat a))) none none) k) K own ro Φ
 |O7 {v:AV}{es a:Nat}{L L':List (List AV)}{ab:AV→List Own}{k:AV→AC}{K:List Kf}{own:List Own}{ro:List aQ}{Φ:pH}(h0:Ls own v es L)(ha:Nat.ble a L.length=true)(hl:L.take a=L')(h3:∀v',Us own v es L v' L' (ab v'))(h:∀v':AV,ep v'=false→v'.cells=[v']→AV.beq v' v'=true→Zx M false (k v') K (ab v') ro Φ):Zx M false (.op (.n9 es v none (some (I (Int.ofNat a))) (some (I (Int.ofNat a)))) k) K own ro Φ
 |Uw {ty u:Nat}[c:HW M ty u]{v k K own ro Φ}(h:Zx M false (k (.cP [.iface u v,B true])) K own ro Φ):Zx M false (.op (.kW ty true true (some Ni) (.iface u v)) k) K own ro Φ
 |Ux {ty u:Nat}[c:va M ty u]{v k K own ro Φ}(h:Zx M false (k (.cP [Ni,B false])) K own ro Φ):Zx M false (.op (.kW ty true true (some Ni) (.iface u v)) k) K own ro Φ
 |Zb {es bytes n:Nat}{z c k K own ro Φ}(e:(Nat.ble (bytes*n) 140737488355328&&Nat.beq (bI z) es)=true)(e2:Nat.ble n 1000000=true)(hc:uE (bH z n) c)(h:∀p:Nat,Zx M false (k (.sl p 0 n n)) K (.obj p (.row c)::own) ro Φ):Zx M false (.op (.kV es bytes z (I (Int.ofNat n)) (I (Int.ofNat n))) k) K own ro Φ
 |Zc {id o n c:Nat}{k K own ro Φ}(h:Zx M false (k (I (Int.ofNat n))) K own ro Φ):Zx M false (.op (.len false (.sl id o n c)) k) K own ro Φ
 |Zd {id o n c s:Nat}{k K own ro Φ}(h:Zx M false (k (I (Int.ofNat n))) K own ro Φ):Zx M false (.op (.len false (.op id o n c s)) k) K own ro Φ
 |Ze {k K own ro Φ}(h:Zx M false (k (I 0)) K own ro Φ):Zx M false (.op (.len false Ns) k) K own ro Φ
 |Zf {v}{es:Nat}{L k K own ro Φ}(h1:Ls own v es L)(h:Zx M false (k (I (Int.ofNat L.length))) K own ro Φ):Zx M false (.op (.len false v) k) K own ro Φ
 |Uy [di]{n:Nat}{z c c' ps k K own ro Φ}(e:fx (bH z n) ps=some c)(ha:uE c c')(e2:(Nat.beq (bI c) n&&Nat.beq (bI z) 1)=true)(h:∀v:AV,ep v=false→v.cells=[v]→AV.beq v v=true→Zx M false (k v) K (.sl v 1 (c'.map fun a=>[a])::own) ro Φ):Zx M false (.op (.kU 1 n z ps) k) K own ro Φ
 |Zg {es n:Nat}{z c c' ps k K own ro Φ}(e:fx (bH z n) ps=some c)(ha:uE c c')(e2:(Nat.beq (bI c) (Nat.mul n es)&&Nat.beq (bI z) es)=true)(h:∀p:Nat,Zx M false (k (.sl p 0 n n)) K (.obj p (.row c')::own) ro Φ):Zx M false (.op (.kU es n z ps) k) K own ro Φ
 |Zh {κ}{a:Int}{k K own ro Φ}(e:ck (-9223372036854775808≤a∧a≤9223372036854775807))(h:Zx M false (k (I a)) K own ro Φ):Zx M false (.op (.conv .i64 (Z κ a)) k) K own ro Φ
 |Zi {κ}{a:Int}{k K own ro Φ}(h:Zx M false (k (U (a%18446744073709551616))) K own ro Φ):Zx M false (.op (.conv .u64 (Z κ a)) k) K own ro Φ
 |Zj {κ}{a:Int}{k K own ro Φ}(h:Zx M false (k (Z .u32 (a%4294967296))) K own ro Φ):Zx M false (.op (.conv .u32 (Z κ a)) k) K own ro Φ
 |Uz {t p o:Nat}{n:Bool}{k K own ro Φ}(e:ck (iI M.P t=1))(h:Zx M false (k (B n)) K own ro Φ):Zx M false (.op (.eq t n (.ptr p o) Np) k) K own ro Φ
 |UA {t:Nat}{n:Bool}{k K own ro Φ}(e:ck (iI M.P t=1))(h:Zx M false (k (B (!n))) K own ro Φ):Zx M false (.op (.eq t n Np Np) k) K own ro Φ
 |UB {t:Nat}{n:Bool}{f fa fc k K own ro Φ}(e:ck (iI M.P t=4))(h:Zx M false (k (B n)) K own ro Φ):Zx M false (.op (.eq t n (.fn f fa fc) Nf) k) K own ro Φ
 |UC {t:Nat}{n:Bool}{k K own ro Φ}(e:ck (iI M.P t=4))(h:Zx M false (k (B (!n))) K own ro Φ):Zx M false (.op (.eq t n Nf Nf) k) K own ro Φ
 |Zk {t:Nat}{n a b:Bool}{k K own ro Φ}(e:ck (M.P.underlying t=some .bool))(h:Zx M false (.op (.mv (B (if n then !(a==b) else(a==b)))) k) K own ro Φ):Zx M false (.op (.eq t n (B a) (B b)) k) K own ro Φ
 |ld {p o:Nat}{c v k K own ro Φ}(h1:Lk own ro p c)(h2:DM c o v)(h:Zx M false (k v) K own ro Φ):Zx M false (.op (.load 1 false (.ptr p o)) k) K own ro Φ
 |Zl {p o n:Nat}{c l k K own ro Φ}(h1:Lk own ro p c)(h2:Cut o n c l)(h:Zx M false (k (.agg l)) K own ro Φ):Zx M false (.op (.load n true (.ptr p o)) k) K own ro Φ
 |Zm {p o n:Nat}{c c' vs ws k K own ab ro Φ}(ha:uE ws vs)(h0:Lo own p c)(h2:Sr c o vs c')(h1:Up own p c c' ab)(hn:bI vs=n)(h:Zx M false (k uv) K ab ro Φ):Zx M false (.op (.store n (.ptr p o) (.agg ws)) k) K own ro Φ
 |st {p o:Nat}{c c' v w k K own ab ro Φ}(ha:uD w v)(ho:ep v=false)(hc:v.cells=[v])(h0:Lo own p c)(h2:Sr c o [v] c')(h1:Up own p c c' ab)(h:Zx M false (k uv) K ab ro Φ):Zx M false (.op (.store 1 (.ptr p o) w) k) K own ro Φ
 |alloc {c c' k K own ro Φ}(ha:uE c c')(h:∀p:Nat,Zx M false (k (.ptr p 0)) K (.obj p (.row c')::own) ro Φ):Zx M false (.op (.alloc c) k) K own ro Φ
 |UD [Jv]{c c' k K own ro Φ}(ha:uE c c')(h:∀p:Nat,Zx M false (k (.ptr p 0)) K own (.pt p 0 c'::ro) Φ):Zx M false (.op (.box (.agg c)) k) K own ro Φ
 |UE [Jv]{x w k K own ro Φ}(ha:uD w x)(ho:ep x=false)(hc:x.cells=[x])(h:∀p:Nat,Zx M false (k (.ptr p 0)) K own (.pt p 0 [x]::ro) Φ):Zx M false (.op (.box w) k) K own ro Φ
 |UF {c c' k K own ro Φ}(ha:uE c c')(h:∀p:Nat,Zx M false (k (.ptr p 0)) K (.obj p (.row c')::own) ro Φ):Zx M false (.op (.box (.agg c)) k) K own ro Φ
 |box {x w k K own ro Φ}(ha:uD w x)(ho:ep x=false)(hc:x.cells=[x])(h:∀p:Nat,Zx M false (k (.ptr p 0)) K (.obj p (.row [x])::own) ro Φ):Zx M false (.op (.box w) k) K own ro Φ
 |call {f f' args Jw k K own ro Φ}(hf:uD f f')(ha:uE args Jw)(h:Zx M true (.call f' Jw k) K own ro Φ):Zx M false (.call f args k) K own ro Φ
 |vc {f args}{P:Prop}{v}[c:VC M f args P v]{k K own ro Φ}(hp:ck P)(h:Zx M false (k v) K own ro Φ):Zx M true (.call f args k) K own ro Φ
 |sc {f args}{P:Prop}{v own ab}[c:SC M f args own P v ab]{k K ro Φ}(hp:ck P)(h:Zx M false (k v) K ab ro Φ):Zx M true (.call f args k) K own ro Φ
 |nc {f args}{P:Prop}{Q}[c:NC M f args P Q]{k K own ro Φ}(hp:ck P)(h:∀(p:Nat) (l:List Own),Q p l→Zx M false (k (.ptr p 0)) K (l++own) ro Φ):Zx M true (.call f args k) K own ro Φ
 |Zn {t f:Nat}{name:String}[c0:mi M t name f]{v r args}{P:Prop}[c:VC M (.fn (.func f) [] []) (v::args) P r]{k K own ro Φ}(hp:ck P)(h:Zx M false (k r) K own ro Φ):Zx M true (.call (.fn (.method name) [] []) (.iface t v::args) k) K own ro Φ
 |Zo {t f:Nat}{name:String}[c0:mi M t name f]{v r args}{P:Prop}{own ab}[c:SC M (.fn (.func f) [] []) (v::args) own P r ab]{k K ro Φ}(hp:ck P)(h:Zx M false (k r) K ab ro Φ):Zx M true (.call (.fn (.method name) [] []) (.iface t v::args) k) K own ro Φ
 |ns {f args}{P:Prop}{L own}[c:NS M f args own P L]{k K ro Φ}(hp:ck P)(h:∀v:AV,ep v=false→v.cells=[v]→AV.beq v v=true→Zx M false (k v) K (.sl v 1 L::own) ro Φ):Zx M true (.call f args k) K own ro Φ
 |inl {f:Nat}[cF f]{fa args fc l b k K own ro Φ}(hk:M.kn.v f (fa++(args++fc))=none)(hb:M.iP f=some b)(hl:uE (fa++(args++fc)) l)(h:Zx M false (b l) (.call k::K) own ro Φ):Zx M true (.call (.fn (.func f) fa fc) args k) K own ro Φ
 |Zp {p m:Nat}{args b k K own ro Φ}(h1:Uo own p (.loop .ready none m b) (.loop .ready none m b) own)(hl:bI args=m)(h:Zx M false (b (.yd p::args)) (.yd p k::K) own ro Φ):Zx M true (.call (.yd p) args k) K own ro Φ
 |Zq {t f:Nat}{name:String}[c:mi M t name f][cF f]{v args l b k K own ro Φ}(hk:M.kn.v f (v::args)=none)(hb:M.iP f=some b)(hl:uE (v::args) l)(h:Zx M false (b l) (.call k::K) own ro Φ):Zx M true (.call (.fn (.method name) [] []) (.iface t v::args) k) K own ro Φ
 |z {n:Bool}{x K own ro Φ}(h:ck (Vx M x K own ro Φ)):Zx M n x K own ro Φ
end
section
section
variable{M:ef}{own ab:List Own}{ro:List aQ}{Φ:pH}{K:List Kf}{k:AV→AC}{S:AH}{B0:AH}{W:List Nat}{Q:hX}
theorem DM.ok {c}{o:Nat}{v}(h:DM c o v):x6 c o=some v:=by rw[nt];exact h.eq
theorem FD {P}{t p o:Nat}(e:iI P t=1):x5 P t (.ptr p o) Np=some false:=by unfold x5;rw[e];rfl
theorem KV {P}{t:Nat}(e:iI P t=1):x5 P t Np Np=some true:=by unfold x5;rw[e];rfl
theorem KW {P}{t:Nat}{f a b}(e:iI P t=4):x5 P t (.fn f a b) Nf=some false:=by unfold x5;rw[e];rfl
theorem KX {P}{t:Nat}(e:iI P t=4):x5 P t Nf Nf=some true:=by unfold x5;rw[e];rfl
theorem xm {t:Nat}{n b:Bool}{x y}(e:x5 M.P t x y=some b)(h:wp M (k (B (if n then !b else b))) S Q):wp M (.op (.eq t n x y) k) S Q:=by
 refine ae (v:=B (if n then !b else b)) (S1:=S) ?_ h
 show et (DA M.P t n x y) S=_
 unfold DA
 rw[e];cases n<;>rfl
theorem Lk.at {p:Nat}{c}(h:Lk own ro p c)(H:Cx B0 W S own ro):∃d,S.cells? p=some d∧c.length≤d.length∧d.take c.length=c:=h.cells H.oh H.rh
theorem Lk.nth {p o:Nat}{c v}(h:Lk own ro p c)(h2:DM c o v)(H:Cx B0 W S own ro):∃d,S.cells? p=some d∧d[o]?=some v:=by
 obtain⟨d,h1,h3,h4⟩:=h.at H
 refine⟨d,h1,?_⟩
 have:=h2.eq
 rw[←h4,List.getElem?_take] at this
 split at this
 ·exact this
 ·cases this
theorem Lk.cut {p o n:Nat}{c l}(h:Lk own ro p c)(h2:Cut o n c l)(H:Cx B0 W S own ro):∃d,S.cells? p=some d∧o+n≤d.length∧(d.drop o).take n=l:=by
 obtain⟨d,h1,h3,h4⟩:=h.at H
 obtain⟨q1,q2⟩:=h2.eq
 refine⟨d,h1,by omega,?_⟩
 rw[←q1,←h4,List.drop_take,List.take_take,Nat.min_eq_left (by omega)]
theorem O8 {id off:Nat}{c v}(h1:S.cells? id=some c)(h2:c[off]?=some v):cB M.P S (.load 1 false (.ptr id off))=some v:=by
 show(match S.cells? id with|some c=>eZ false c off 1|none=>none)=_
 rw[h1];exact lF h2
theorem O9 {id off n:Nat}{c}(h1:S.cells? id=some c)(h2:off+n≤c.length):cB M.P S (.load n true (.ptr id off))=some (.agg ((c.drop off).take n)):=by
 show(match S.cells? id with|some c=>eZ true c off n|none=>none)=_
 rw[h1];exact lG h2
theorem vZ (H:Cx B0 W S own ro){p o n:Nat}{c c' vs v}(hv:v.cells=vs)(ho:ep v=false)(h2:Sr c o vs c')(h1:Up own p c c' ab)(hn:vs.length=n)(h:∀S1,Cx B0 W S1 ab ro→wp M (k uv) S1 Q):wp M (.op (.store n (.ptr p o) v) k) S Q:=by
 obtain⟨i,hi,rfl⟩:=h1.at
 obtain⟨q1,q2⟩:=h2.eq
 refine fI H i hi ho (by rw[hv];exact hn) (by omega) fun S1 H1=>?_
 rw[hv,q1] at H1
 exact h S1 H1
theorem AF {κ Nl}{a:Int}{s:Nat}(e:Nat.ble s κ.bits=true):evalOp M.P (.bin .shr (Z κ a) (Z Nl (Int.ofNat s))) S=some (Z κ (a/2^s),S):=by
 show et (DT (Z κ a) (Z Nl (Int.ofNat s))) S=_
 have h0:Dz (Int.ofNat s) 0=false:=by rw[fP];simp
 have h1:min (Int.ofNat s).toNat κ.bits=s:=by have:=Nat.le_of_ble_eq_true e;simp;omega
 unfold DT
 simp only[h0]
 rw[h1,Int.fdiv_eq_ediv_of_nonneg _ (by exact Int.le_of_lt (Int.pow_pos (by omega)))]
 rfl
theorem AG {κ}{a:Int}{s:Nat}(e:Nat.ble s 64=true):evalOp M.P (.bin .shl (U a) (Z κ (Int.ofNat s))) S=some (U (a*2^s%18446744073709551616),S):=by
 show et (DS (U a) (Z κ (Int.ofNat s))) S=_
 have h0:Dz (Int.ofNat s) 0=false:=by rw[fP];simp
 have h1:min (Int.ofNat s).toNat IntKind.u64.bits=s:=by have:=Nat.le_of_ble_eq_true e;show min s 64=s;omega
 unfold DS
 simp only[h0]
 rw[h1,bo,IntKind.wrap_u64]
 rfl
theorem h9 {a:Int}(h0:0≤a)(h1:a<18446744073709551616):(BitVec.ofInt IntKind.u64.bits a).toNat=a.toNat:=by
 obtain⟨n,rfl⟩:∃n:Nat,a=n:=⟨a.toNat,by omega⟩
 show(BitVec.ofInt 64 (n:Int)).toNat=n
 rw[BitVec.ofInt_natCast,BitVec.toNat_ofNat]
 exact Nat.mod_eq_of_lt (by omega)
theorem oJ {a b:Int}(h1:0≤a)(h2:a<18446744073709551616)(h3:0≤b)(h4:b<18446744073709551616):evalOp M.P (.bin .and (U a) (U b)) S=some (U (xl a b),S):=by
 show et (DR (U a) (U b)) S=_
 unfold DR
 simp only[cZ,asInt,kX,aP]
 have WV:a.toNat&&&b.toNat<18446744073709551616:=Nat.lt_of_le_of_lt Nat.and_le_left (by omega)
 rw[BitVec.toNat_and,h9 h1 h2,h9 h3 h4,bo,IntKind.wrap_u64]
 show _=some (U ((a.toNat&&&b.toNat:Nat):Int),S)
 rw[Int.emod_eq_of_lt (by omega) (by omega)]
 rfl
theorem tL {a b:Int}(h1:0≤a)(h2:a<9223372036854775808)(h3:0≤b)(h4:b<9223372036854775808):evalOp M.P (.bin .and (I a) (I b)) S=some (I (xl a b),S):=by
 show et (DR (I a) (I b)) S=_
 unfold DR
 simp only[cZ,asInt,kX,aP]
 have WV:a.toNat&&&b.toNat≤a.toNat:=Nat.and_le_left
 have e1:(BitVec.ofInt IntKind.i64.bits a).toNat=a.toNat:=h9 h1 (by omega)
 have e2:(BitVec.ofInt IntKind.i64.bits b).toNat=b.toNat:=h9 h3 (by omega)
 rw[BitVec.toNat_and,e1,e2,wrap64 (by omega) (by omega)]
 rfl
theorem O_ {a b:Int}(h1:0≤a)(h2:a<18446744073709551616)(h3:0≤b)(h4:b<18446744073709551616):evalOp M.P (.bin .or (U a) (U b)) S=some (U (mj a b),S):=by
 show et (SK (U a) (U b)) S=_
 unfold SK
 simp only[cZ,asInt,kX,aP]
 have WV:a.toNat|||b.toNat<2^64:=Nat.or_lt_two_pow (by omega) (by omega)
 rw[BitVec.toNat_or,h9 h1 h2,h9 h3 h4,bo,IntKind.wrap_u64]
 show _=some (U ((a.toNat|||b.toNat:Nat):Int),S)
 rw[Int.emod_eq_of_lt (by omega) (by omega)]
 rfl
theorem HX {a:Int}(h1:0≤a)(h2:a<18446744073709551616):evalOp M.P (.bin .andNot (U a) (U 9223372036854775808)) S=some (U (a%9223372036854775808),S):=by
 show et (o4 (U a) (U 9223372036854775808)) S=_
 unfold o4
 simp only[cZ,asInt,kX,aP]
 obtain⟨n,rfl⟩:∃n:Nat,a=n:=⟨a.toNat,by omega⟩
 have e:(BitVec.ofInt IntKind.u64.bits (n:Int)&&&~~~BitVec.ofInt IntKind.u64.bits 9223372036854775808).toNat=n%9223372036854775808:=by
  rw[BitVec.toNat_and,h9 (by omega) (by omega)]
  have e2:(~~~BitVec.ofInt IntKind.u64.bits 9223372036854775808).toNat=2^63-1:=by decide
  rw[e2,Int.toNat_natCast,Nat.and_two_pow_sub_one_eq_mod]
 rw[e,bo,IntKind.wrap_u64]
 have e3:(((n%9223372036854775808:Nat):Int))%18446744073709551616=(n:Int)%9223372036854775808:=by omega
 rw[e3]
 rfl
theorem C2 {a:Int}(h1:0≤a)(h2:a<18446744073709551616):evalOp M.P (.bin .andNot (U a) (U 65535)) S=some (U (a-a%65536),S):=by
 show et (o4 (U a) (U 65535)) S=_
 unfold o4
 simp only[cZ,asInt,kX,aP]
 obtain⟨n,rfl⟩:∃n:Nat,a=n:=⟨a.toNat,by omega⟩
 have hn:n<2^64:=by omega
 have e:(BitVec.ofInt IntKind.u64.bits (n:Int)&&&~~~BitVec.ofInt IntKind.u64.bits 65535).toNat=n-n%65536:=by
  rw[BitVec.toNat_and,h9 (by omega) (by omega)]
  have e2:(~~~BitVec.ofInt IntKind.u64.bits 65535).toNat=(2^48-1)*2^16:=by decide
  rw[e2,Int.toNat_natCast]
  have e3:n-n%65536=(n/2^16)*2^16:=by omega
  rw[e3]
  apply Nat.eq_of_testBit_eq
  intro i
  rw[Nat.testBit_and,Nat.testBit_mul_two_pow,Nat.testBit_mul_two_pow,Nat.testBit_div_two_pow,Nat.testBit_two_pow_sub_one]
  by_cases hi:16≤i
  ·rw[show i-16+16=i by omega]
   by_cases h3:i<64
   ·have:i-16<48:=by omega
    simp[hi,this]
   ·have:n.testBit i=false:=Nat.testBit_lt_two_pow (Nat.lt_of_lt_of_le hn (Nat.pow_le_pow_right (by omega) (by omega)))
    simp[this]
  ·simp[hi]
 rw[e,bo,IntKind.wrap_u64]
 have e3:(((n-n%65536:Nat):Int))%18446744073709551616=(n:Int)-(n:Int)%65536:=by omega
 rw[e3]
 rfl
theorem tM {κ Nl}{a b:Int}(h:fw κ a=b):evalOp M.P (.conv κ (Z Nl a)) S=some (Z κ b,S):=by rw[←h];rfl
theorem FE:∀l:List AV,(l.map fun a=>[a]).flatten=l
 |[]=>rfl
 |a::l=>by rw[List.map_cons,List.flatten_cons,FE l];rfl
theorem Lo.mem {p:Nat}{c}(h:Lo own p c):Own.obj p (.row c)∈own:=by
 induction h with
 |hd=>exact List.Mem.head _
 |tl _ ih=>exact List.mem_cons_of_mem _ ih
 |ap _ ih=>exact List.mem_append_right _ ih
theorem v8 (H:Cx B0 W S own ro){id o n cap:Nat}{c l}(h1:Lo own id c)(h2:Cut o n c l):elems S 1 (.sl id o n cap)=some (l.length,l):=by
 have g:=dB (H.oh _ h1.mem)
 obtain⟨q1,q2⟩:=h2.eq
 have hl:l.length=n:=by rw[←q1,List.length_take,List.length_drop];omega
 show(match S.cells? id with|some c=>if Nat.ble (o+n*1) (bI c) then some (n,hK (n*1) (jx o c)) else none|none=>none)=_
 have hb:Nat.ble (o+n*1) (bI c)=true:=by rw[aZ];exact dy (by omega)
 simp only[g,hb,if_true]
 rw[ct,dF,Nat.mul_one,q1,hl]
theorem nB {a:Int}(h:0≤a)(n:Nat):xl a (2^n-1)=a%2^n:=by
 obtain⟨m,rfl⟩:∃m:Nat,a=m:=⟨a.toNat,by omega⟩
 unfold xl
 have e:((2:Int)^n-1).toNat=2^n-1:=by
  have:((2:Int)^n)=((2^n:Nat):Int):=by simp
  rw[this]
  have:=Nat.one_le_two_pow (n:=n)
  omega
 rw[e,Int.toNat_natCast,Nat.and_two_pow_sub_one_eq_mod]
 simp
theorem umask {a c d:Int}(h:0≤a)(n:Nat)(hc:c=2^n-1∧d=2^n):xl a c=a%d:=by rw[hc.1,hc.2];exact nB h n
theorem pI:∀{L:List (List AV)} {es:Nat} (h:∀x∈L,x.length=es) (a:Nat),(L.drop a).flatten=L.flatten.drop (a*es)
 |[],_,_,a=>by simp
 |_::_,_,_,0=>by simp
 |x::L,es,h,a+1=>by
  have hx:=h x (List.Mem.head _)
  have ih:=pI (L:=L) (es:=es) (fun y hy=>h y (List.mem_cons_of_mem _ hy)) a
  have e:List.drop ((a+1)*es) x=[]:=List.drop_eq_nil_of_le (by rw[hx,Nat.succ_mul];omega)
  rw[List.drop_succ_cons,ih,List.flatten_cons,List.drop_append,hx,e,List.nil_append]
  congr 1
  rw[Nat.succ_mul];omega
theorem vg {L:List (List AV)}{es:Nat}(h:∀x∈L,x.length=es){a:Nat}(ha:a≤L.length):(L.take a).flatten=L.flatten.take (a*es):=by
 have e:L.flatten=(L.take a).flatten++(L.drop a).flatten:=by rw[←List.flatten_append,List.take_append_drop]
 have hl:=bV (L:=L.take a) (es:=es) fun x hx=>h x (List.mem_of_mem_take hx)
 rw[List.length_take,Nat.min_eq_left ha] at hl
 rw[e,←hl,List.take_left]
theorem pJ {a n:Nat}(h:a≤n):below a (Nat.succ n)=some a:=by unfold below;rw[dy (by omega)]
theorem ft {S v}{es:Nat}{L}(h:gq S v es L):ep v=false∧v.cells=[v]∧AV.beq v v=true:=by
 rcases h with⟨rfl,_⟩|⟨id,off,c,h0,_⟩
 ·exact⟨rfl,rfl,rfl⟩
 ·rcases h0 with⟨_,_,_,rfl⟩|⟨_,_,_,rfl⟩<;>exact⟨rfl,rfl,by simp[AV.beq]⟩
theorem FG {M:ef}{S:AH}{v:AV}{es a:Nat}{L:List (List AV)}(h:G7 S v es L)(ha:a≤L.length):∃v',evalOp M.P (.n9 es v (some (I (Int.ofNat a))) none none) S=some (v',S)∧G7 S v' es (L.drop a)∧∀id∈eg v',id∈eg v:=by
 rcases h with⟨rfl,rfl⟩|⟨id,off,c,g0,g1,g2,g3⟩
 ·obtain rfl:a=0:=by simpa using ha
  exact⟨Ns,rfl,.inl ⟨rfl,rfl⟩,fun id bS=>bS⟩
 ·have hn:(L.drop a).length=L.length-a:=List.length_drop ..
  have yQ:(c.drop (off+a*es)).take ((L.length-a)*es)=(L.drop a).flatten:=by
   rw[pI g3 a,←g2,List.drop_take,List.drop_drop,Nat.sub_mul]
  have hg:∀x∈L.drop a,x.length=es:=fun x hx=>g3 x (List.mem_of_mem_drop hx)
  rcases g0 with⟨cap,q1,q2,rfl⟩|⟨cm,q1,q2,rfl⟩
  ·have hb:kB (some (I (Int.ofNat a))) none none L.length cap=some (a,L.length,cap):=by
    have h1:gB (none:Option AV) cap cap=some cap:=rfl
    have h2:gB (none:Option AV) L.length cap=some L.length:=rfl
    have h3:gB (some (I (Int.ofNat a))) 0 L.length=some a:=pJ ha
    unfold kB
    rw[h1]
    simp only[h2,h3]
    rfl
   refine⟨.sl id (if Nat.beq cap a then off else Nat.add off (Nat.mul a es)) (Nat.sub L.length a) (Nat.sub cap a),?_,.inr ⟨id,(if Nat.beq cap a then off else Nat.add off (Nat.mul a es)),c,.inl ⟨cap-a,by rw[hn];omega,?_,by rw[hn];rfl⟩,g1,?_,hg⟩,fun j hj=>hj⟩
   ·show et (eS _ _ _ _ _) S=_
    unfold eS
    simp only[hb]
    rfl
   ·split
    ·next e=>rw[Nat.eq_of_beq_eq_true e,Nat.sub_self,Nat.zero_mul];omega
    ·have:a≤cap:=by omega
     have:=Nat.mul_le_mul_right es this
     rw[Nat.sub_mul]
     show off+a*es+_≤_
     omega
   ·rw[hn]
    split
    ·next e=>
     have e1:=Nat.eq_of_beq_eq_true e
     have e2:L.length-a=0:=by omega
     rw[e2,Nat.zero_mul,List.take_zero,List.drop_eq_nil_of_le (by omega)];rfl
    ·exact yQ
  ·have hb:kB (some (I (Int.ofNat a))) none none L.length cm=some (a,L.length,cm):=by
    have h1:gB (none:Option AV) cm cm=some cm:=rfl
    have h2:gB (none:Option AV) L.length cm=some L.length:=rfl
    have h3:gB (some (I (Int.ofNat a))) 0 L.length=some a:=pJ ha
    unfold kB
    rw[h1]
    simp only[h2,h3]
    rfl
   refine⟨.op id (Nat.add off (Nat.mul a es)) (Nat.sub L.length a) (Nat.sub cm a) es,?_,.inr ⟨id,Nat.add off (Nat.mul a es),c,.inr ⟨cm-a,by rw[hn];omega,?_,by rw[hn];rfl⟩,g1,by rw[hn];exact yQ,hg⟩,fun j hj=>hj⟩
   ·show et (eS _ _ _ _ _) S=_
    unfold eS
    simp only[hb,Nat.beq_refl]
    rfl
   ·have:a≤cm:=by omega
    have:=Nat.mul_le_mul_right es this
    rw[Nat.sub_mul]
    show off+a*es+_≤_
    omega
theorem FH {M:ef}{S:AH}{v:AV}{es a:Nat}{L:List (List AV)}(h:G7 S v es L)(ha:a≤L.length):∃v',evalOp M.P (.n9 es v none (some (I (Int.ofNat a))) (some (I (Int.ofNat a)))) S=some (v',S)∧G7 S v' es (L.take a)∧∀id∈eg v',id∈eg v:=by
 rcases h with⟨rfl,rfl⟩|⟨id,off,c,g0,g1,g2,g3⟩
 ·obtain rfl:a=0:=by simpa using ha
  exact⟨Ns,rfl,.inl ⟨rfl,rfl⟩,fun id bS=>bS⟩
 ·have hn:(L.take a).length=a:=by rw[List.length_take,Nat.min_eq_left ha]
  have yQ:(c.drop off).take (a*es)=(L.take a).flatten:=by
   rw[vg g3 ha,←g2,List.take_take,Nat.min_eq_left (Nat.mul_le_mul_right es ha)]
  have hg:∀x∈L.take a,x.length=es:=fun x hx=>g3 x (List.mem_of_mem_take hx)
  have hB:∀cap,L.length≤cap→kB none (some (I (Int.ofNat a))) (some (I (Int.ofNat a))) L.length cap=some (0,a,a):=fun cap q1=>by
   have h1:gB (some (I (Int.ofNat a))) cap cap=some a:=pJ (by omega)
   have h2:gB (some (I (Int.ofNat a))) L.length a=some a:=pJ (Nat.le_refl _)
   have h3:gB (none:Option AV) 0 a=some 0:=rfl
   unfold kB
   rw[h1]
   simp only[h2,h3]
   rfl
  have he:(if Nat.beq a 0=true then off else Nat.add off (Nat.mul 0 es))=off:=by
   split
   ·rfl
   ·show off+0*es=off;omega
  rcases g0 with⟨cap,q1,q2,rfl⟩|⟨cm,q1,q2,rfl⟩
  ·refine⟨.sl id off a a,?_,.inr ⟨id,off,c,.inl ⟨a,by omega,?_,by rw[hn]⟩,g1,by rw[hn];exact yQ,hg⟩,fun j hj=>hj⟩
   ·show et (eS _ _ _ _ _) S=_
    unfold eS
    simp only[hB cap q1]
    rw[he]
    rfl
   ·have:=Nat.mul_le_mul_right es (show a≤cap by omega)
    omega
  ·by_cases hc:cm=0
   ·subst hc
    obtain rfl:a=0:=by omega
    refine⟨.op id off 0 0 es,?_,.inr ⟨id,off,c,.inr ⟨0,by simp,by omega,by simp⟩,g1,by rw[hn];exact yQ,hg⟩,fun j hj=>hj⟩
    show et (eS _ _ _ _ _) S=_
    unfold eS
    simp only[hB 0 q1,Nat.beq_refl]
    rfl
   ·refine⟨.sl id off a a,?_,.inr ⟨id,off,c,.inl ⟨a,by omega,?_,by rw[hn]⟩,g1,by rw[hn];exact yQ,hg⟩,fun j hj=>hj⟩
    ·show et (eS _ _ _ _ _) S=_
     unfold eS
     have RK:Nat.beq cm 0=false:=by cases cm with|zero=>exact absurd rfl hc|succ n=>rfl
     simp only[hB cm q1,Nat.beq_refl,RK]
     rw[he]
     rfl
    ·have:=Nat.mul_le_mul_right es (show a≤cm by omega)
     omega
theorem oK {S v}{es:Nat}{L}(h:G7 S v es L):gq S v es L:=by
 rcases h with h|⟨id,off,c,h0,h1,h2⟩
 ·exact .inl h
 ·exact .inr ⟨id,off,c,h0,dB h1,h2⟩
theorem yT {c:List AV}:(c.map fun a=>[a]).flatten=c:=by induction c with|nil=>rfl|cons a c ih=>rw[List.map_cons,List.flatten_cons,ih];rfl
theorem Zx.ok {n:Bool}{x:AC}(h:Zx M n x K own ro Φ):Vx M x K own ro Φ:=by
 induction h with
 |z h=>exact h.out
 |YF h ih=>exact fun B W S H=>wp_ret ⟨rfl,ih B W S H⟩
 |YG h ih=>exact fun B W S H=>wp_ret ⟨rfl,ih B W S H⟩
 |YH h ih=>exact fun B W S H=>wp_ret ⟨rfl,ih B W S H⟩
 |YI h ih=>exact fun B W S H=>wp_ret (ih B W S H)
 |YJ h ih=>
  intro B W S H
  refine wp_ret ?_
  show(match Nat.beq _ _ with|true=>_|false=>_)
  rw[Nat.beq_refl]
  exact ih B W S H
 |YK e h ih=>
  intro B W S H
  obtain⟨t,vs,S',⟨n0,h1⟩,h2⟩:=ih B W S H
  have:=h1 n0 (Nat.le_refl _)
  cases this
  refine wp_ret ?_
  show(match Nat.beq _ _ with|true=>_|false=>_)
  rw[e]
  exact h2
 |YL h ih=>
  intro B W S H
  obtain⟨t,vs,S',⟨n0,h1⟩,h2⟩:=ih B W S H
  cases h1 n0 (Nat.le_refl _)
  exact wp_ret h2
 |YM h ih=>
  intro B W S H
  obtain⟨t,vs,S',⟨n0,h1⟩,h2⟩:=ih B W S H
  cases h1 n0 (Nat.le_refl _)
  exact wp_ret h2
 |YN h ih=>
  intro B W S H
  obtain⟨t,vs,S',⟨n0,h1⟩,h2⟩:=ih B W S H
  cases h1 n0 (Nat.le_refl _)
  exact wp_ret h2
 |YO h ih=>exact fun B W S H=>wp_ret ⟨.inl rfl,ih B W S H⟩
 |YP h ih=>exact fun B W S H=>wp_ret ⟨.inr rfl,ih B W S H⟩
 |Nk h ih=>
  intro B W S H
  exact wp_ret (.inl ⟨rfl,mQ (ih B W S H)⟩)
 |YQ h ih=>
  intro B W S H
  obtain⟨t,vs,S',⟨n0,h1⟩,h2⟩:=ih B W S H
  cases h1 n0 (Nat.le_refl _)
  exact wp_ret (.inr ⟨by simp,h2⟩)
 |YR h ih=>
  intro B W S H
  obtain⟨t,vs,S',⟨n0,h1⟩,h2⟩:=ih B W S H
  cases h1 n0 (Nat.le_refl _)
  exact wp_ret (.inr ⟨by simp,h2⟩)
 |@YS p t kk outs vs _ _ _ _ _ h1 h ih=>
  intro B W S H
  obtain⟨n,st,m,b,g1,g2,rfl⟩:=h1.at
  have gm:=List.mem_of_getElem? g1
  refine wp_ret ⟨rfl,st,t,m,b,H.oh _ gm,g2,?_⟩
  have K2:=ih B W _ (H.other g1 (S1:=S.set p (.loop .exhausted t m b)) rfl fun j hj=>by rw[AH.du,if_neg hj])
  cases t with
  |none=>exact K2
  |some t=>
   obtain⟨t,vs,S',⟨n0,q1⟩,q2⟩:=K2
   cases q1 n0 (Nat.le_refl _)
   exact q2
 |YT h1 h ih=>
  intro B W S H
  obtain⟨n,g1,rfl⟩:=h1.at
  exact wp_ret ⟨none,_,_,H.oh _ (List.mem_of_getElem? g1),ih B W _ (H.BV g1 _)⟩
 |YU h1 h ih=>
  intro B W S H
  obtain⟨n,g1,rfl⟩:=h1.at
  exact wp_ret ⟨none,_,_,H.oh _ (List.mem_of_getElem? g1),ih B W _ (H.BV g1 _)⟩
 |YV h1 h ih=>
  intro B W S H
  obtain⟨n,g1,rfl⟩:=h1.at
  exact wp_ret ⟨none,_,_,H.oh _ (List.mem_of_getElem? g1),ih B W _ (H.BV g1 _)⟩
 |@Cu nn f fa fc body kk outs _ _ _ _ h ih=>
  intro B W S H
  refine KH (by intro i e;cases e) ?_
  obtain⟨t,vs,S',⟨n0,q1⟩,q2⟩:=ih S.next B W _ (H.iv (aY.new S _) (bN _ _) (by
   intro j hj
   simp only[Own.ids,List.mem_singleton] at hj
   subst hj
   exact⟨Nat.le_refl _,by simp⟩))
  have hc:∀n,n0≤n→∃v,b6 M.P M.iP M.kn n (.fn f fa fc) [.yd S.next] (S.new (.loop .ready none nn body))=some (v,S')∧t=.normal∧vs=[v]:=by
   intro n hn
   have:=q1 n hn
   rw[mK] at this
   unfold o9 at this
   split at this
   ·next v S1 he=>
    cases this
    exact⟨v,he,rfl,rfl⟩
   ·cases this
  obtain⟨v0,Nn,rfl,rfl⟩:=hc n0 (Nat.le_refl _)
  obtain⟨_,st,de,m,b,g1,g2,g3⟩:=q2
  refine⟨v0,S',⟨n0,fun n hn=>?_⟩,st,de,m,b,g1,g2,g3⟩
  obtain⟨v1,Zr,_,e⟩:=hc n hn
  cases e
  exact Zr
 |start h1 h ih=>
  intro B W S H
  obtain⟨n,g1,rfl⟩:=h1.at
  exact EY (H.oh _ (List.mem_of_getElem? g1)) (ih B W _ (H.BV g1 _))
 |Zp h1 hl h ih=>
  intro B W S H
  obtain⟨n,g1,_⟩:=h1.at
  refine b5 (KJ (H.oh _ (List.mem_of_getElem? g1)) (by rw[←aZ];exact hl) ?_)
  exact ih B W S H
 |@nc f args P Q c _ _ _ _ _ hp h ih=>
  intro B W S H
  exact b5 (az (c.ok hp.out _ _ B W S H) fun r S1 ⟨p,l,q1,q2,q3⟩=>by
   subst q2
   exact ih p l q1 B W S1 q3)
 |@ns f args P L own c _ _ ro _ hp h ih=>
  intro B W S H
  refine b5 (az (c.ok hp.out ro [] B W S (by rw[List.append_nil];exact H)) fun r S1 H1=>?_)
  rw[List.append_nil] at H1
  obtain⟨o1,o2,o3⟩:=ft (oK (H1.oh _ (List.Mem.head _)))
  exact ih r o1 o2 o3 B W S1 H1
 |@Zn t f name c0 v r args P c _ _ _ _ _ hp h ih=>
  intro B W S H
  exact b5 (i_ (c0.ok v) (az (c.ok hp.out S) fun u S1 ⟨q1,q2⟩=>by
   subst q1
   exact ih B W S1 (H.grow q2)))
 |@Zo t f name c0 v r args P own ab c _ _ ro _ hp h ih=>
  intro B W S H
  exact b5 (i_ (c0.ok v) (az (c.ok hp.out ro [] B W S (by rw[List.append_nil];exact H)) fun u S1 ⟨q1,H1⟩=>by
   subst q1
   rw[List.append_nil] at H1
   exact ih B W S1 H1))
 |@Zq t f name c _ v args _ _ _ _ _ _ _ hk hb hl h ih=>
  intro B W S H
  exact b5 (i_ (c.ok v) (bg (by simpa using hk) hb (by
   have e:([]++((v::args)++[]):List AV)=v::args:=by simp
   rw[e,hl.eq]
   exact ih B W S H)))
 |leaf ha h=>exact fun B W S H=>wp_ret ⟨_,_,by rw[ha.eq];exact h.out,H⟩
 |bind h ih=>exact fun B W S H=>wp_bind (ih B W S H)
 |fin h ih=>exact fun B W S H=>xg (ih B W S H)
 |loop h ih=>exact fun B W S H=>wp_loop (mQ (ih B W S H))
 |TY h ih=>exact fun B W S H=>cD (ih B W S H)
 |TZ h ih=>exact fun B W S H=>cE (ih B W S H)
 |T1 h1 h2 i1 i2=>exact fun B W S H=>Fh (fun e=>i1 e B W S H) (fun e=>i2 e B W S H)
 |@T0 p _ _ _ _ _ _ _ h1 h2 i1 i2=>
  intro B W S H
  by_cases hp:p
  ·rw[decide_eq_true hp];exact cD (i1 hp B W S H)
  ·rw[decide_eq_false hp];exact cE (i2 hp B W S H)
 |T3 h ih=>exact fun B W S H=>dS (ih B W S H)
 |T4 h ih=>exact fun B W S H=>dG rfl (ih B W S H)
 |T5 h ih=>exact fun B W S H=>dG rfl (ih B W S H)
 |T6 h ih=>exact fun B W S H=>dT (ih B W S H)
 |@T7 p _ _ _ _ _ _ _ _ h1 h2 i1 i2=>
  by_cases hp:p
  ·rw[decide_eq_true hp];exact i1 hp
  ·rw[decide_eq_false hp];exact i2 hp
 |@T8 b _ _ _ _ _ _ _ h1 h2 i1 i2=>
  cases b with
  |true=>exact i1 rfl
  |false=>exact i2 rfl
 |T9 h ih=>exact fun B W S H=>cw (ih B W S H)
 |T_ h ih=>exact fun B W S H=>cj rfl (ih B W S H)
 |Ua h ih=>exact fun B W S H=>cj rfl (ih B W S H)
 |Ub h ih=>exact fun B W S H=>cy (ih B W S H)
 |@Uc b _ _ _ _ _ _ _ _ h1 h2 i1 i2=>
  cases b with
  |true=>exact i1 rfl
  |false=>exact i2 rfl
 |Ud h ih=>
  intro B W S H
  obtain⟨t,vs,S',⟨n0,q1⟩,q2⟩:=ih B W S H
  refine⟨t,vs,S',⟨n0,fun n hn=>?_⟩,q2⟩
  rw[←q1 n hn]
  rename_i g _ _ _ _ _ _ _
  cases g<;>rfl
 |Ue h ih=>exact fun B W S H=>mP rfl (ih B W S H)
 |Uf h ih=>exact fun B W S H=>mP rfl (ih B W S H)
 |Ug h ih=>exact fun B W S H=>mP (by cases‹Bool›<;>rfl) (ih B W S H)
 |Uh h1 h2 hb h ih=>
  intro B W S H
  obtain⟨d,q1,q2⟩:=h1.nth h2 H
  exact tt (O8 q1 q2) hb.out (ih B W S H)
 |Ui h1 h2 hb h ih=>
  intro B W S H
  obtain⟨d,q1,q2,q3⟩:=h1.cut h2 H
  exact tt (O9 q1 q2) (by rw[q3];exact hb.out) (ih B W S H)
 |YW h ih=>exact fun B W S H=>ae rfl (ih B W S H)
 |YX h ih=>exact fun B W S H=>ae rfl (ih B W S H)
 |@YY p d _ _ _ _ _ h1 h2 i1 i2=>
  intro B W S H
  by_cases hp:p
  ·exact ae rfl (by rw[decide_eq_true hp];exact i1 hp B W S H)
  ·exact ae rfl (by rw[decide_eq_false hp];exact i2 hp B W S H)
 |@YZ c _ _ _ _ _ h1 h2 i1 i2=>
  intro B W S H
  cases c with
  |true=>exact ae rfl (i1 rfl B W S H)
  |false=>exact ae rfl (i2 rfl B W S H)
 |mv ha h ih=>exact fun B W S H=>ae rfl (by rw[ha.eq];exact ih B W S H)
 |@not b _ _ _ _ _ h ih=>
  intro B W S H
  obtain⟨t,vs,S',⟨n0,h1⟩,h2⟩:=ih B W S H
  refine ae (v:=cY.B (!b)) (S1:=S) rfl ⟨t,vs,S',⟨n0,fun n hn=>?_⟩,h2⟩
  have:=h1 n hn
  rw[gL] at this
  exact this
 |Y0 h ih=>exact fun B W S H=>ae rfl (ih B W S H)
 |Y1 h ih=>exact fun B W S H=>ae rfl (ih B W S H)
 |@Y2 p _ _ _ _ _ _ _ _ h1 h2 i1 i2=>
  intro B W S H
  by_cases hp:p
  ·rw[decide_eq_true hp];exact ae rfl (i1 hp B W S H)
  ·rw[decide_eq_false hp];exact ae rfl (i2 hp B W S H)
 |@Y3 c _ _ _ _ _ _ _ h1 h2 i1 i2=>
  intro B W S H
  cases c with
  |true=>exact ae rfl (i1 rfl B W S H)
  |false=>exact ae rfl (i2 rfl B W S H)
 |ex h1 h ih=>exact fun B W S H=>ae (by show et (x6 _ _) S=_;rw[h1.ok];rfl) (ih B W S H)
 |O5 h1 h ih=>exact fun B W S H=>ae (by show et (eZ true _ _ _) S=_;rw[lG h1.eq.2,h1.eq.1];rfl) (ih B W S H)
 |O6 h1 h ih=>exact fun B W S H=>ae (by show et (x6 _ _) S=_;rw[h1.ok];rfl) (ih B W S H)
 |Y4 h1 ha h ih=>exact fun B W S H=>ae (by show et (jX _ _) S=_;unfold jX;rw[h1,ha.eq];rfl) (ih B W S H)
 |Y5 h ih=>exact fun B W S H=>dh (ih B W S H)
 |Y6 e h ih=>exact fun B W S H=>ae (by show et (nr _) S=_;unfold nr;rw[e];rfl) (ih B W S H)
 |lss h ih=>
  intro B W S H
  obtain⟨t,vs,S',⟨n0,h1⟩,h2⟩:=ih B W S H
  exact ae E2 ⟨t,vs,S',⟨n0,fun n hn=>by have:=h1 n hn;rw[gL] at this;exact this⟩,h2⟩
 |leq h ih=>
  intro B W S H
  obtain⟨t,vs,S',⟨n0,h1⟩,h2⟩:=ih B W S H
  exact ae E3 ⟨t,vs,S',⟨n0,fun n hn=>by have:=h1 n hn;rw[gL] at this;exact this⟩,h2⟩
 |gtr h ih=>
  intro B W S H
  obtain⟨t,vs,S',⟨n0,h1⟩,h2⟩:=ih B W S H
  exact ae E4 ⟨t,vs,S',⟨n0,fun n hn=>by have:=h1 n hn;rw[gL] at this;exact this⟩,h2⟩
 |geq h ih=>
  intro B W S H
  obtain⟨t,vs,S',⟨n0,h1⟩,h2⟩:=ih B W S H
  exact ae E5 ⟨t,vs,S',⟨n0,fun n hn=>by have:=h1 n hn;rw[gL] at this;exact this⟩,h2⟩
 |eql h ih=>
  intro B W S H
  obtain⟨t,vs,S',⟨n0,h1⟩,h2⟩:=ih B W S H
  exact ae BR ⟨t,vs,S',⟨n0,fun n hn=>by have:=h1 n hn;rw[gL] at this;exact this⟩,h2⟩
 |neq h ih=>
  intro B W S H
  obtain⟨t,vs,S',⟨n0,h1⟩,h2⟩:=ih B W S H
  exact ae E6 ⟨t,vs,S',⟨n0,fun n hn=>by have:=h1 n hn;rw[gL] at this;exact this⟩,h2⟩
 |eqs h ih=>
  intro B W S H
  obtain⟨t,vs,S',⟨n0,h1⟩,h2⟩:=ih B W S H
  exact ae rfl ⟨t,vs,S',⟨n0,fun n hn=>by have:=h1 n hn;rw[gL] at this;exact this⟩,h2⟩
 |Ct e ha h ih=>
  have he:=ha.eq
  subst he
  exact fun B W S H=>ae (by show et (vC _ _ _ _ _) S=_;rw[e];rfl) (ih B W S H)
 |add e h ih=>exact fun B W S H=>cg e.out.1 e.out.2 (ih B W S H)
 |sub e h ih=>exact fun B W S H=>kM e.out.1 e.out.2 (ih B W S H)
 |mul e h ih=>exact fun B W S H=>E7 (wrap64 e.out.1 e.out.2) (ih B W S H)
 |Uj h ih=>exact fun B W S H=>tC (by rw[bo,IntKind.wrap_u64]) (ih B W S H)
 |Uk h ih=>exact fun B W S H=>tD (by rw[bo,IntKind.wrap_u64]) (ih B W S H)
 |shr e h ih=>exact fun B W S H=>ae (AF e) (ih B W S H)
 |shl e h ih=>exact fun B W S H=>ae (AG e) (ih B W S H)
 |FB e h ih=>exact fun B W S H=>ae ((tL e.out.1 e.out.2 (by omega) (by omega)).trans (by rw[umask (d:=65536) e.out.1 16 (by decide)])) (ih B W S H)
 |FC e h ih=>exact fun B W S H=>ae ((oJ e.out.1 e.out.2 (by omega) (by omega)).trans (by rw[umask (d:=65536) e.out.1 16 (by decide)])) (ih B W S H)
 |KS e h ih=>exact fun B W S H=>ae ((tL e.out.1 e.out.2 (by omega) (by omega)).trans (by rw[umask (d:=256) e.out.1 8 (by decide)])) (ih B W S H)
 |KT e h ih=>exact fun B W S H=>ae ((oJ e.out.1 e.out.2 (by omega) (by omega)).trans (by rw[umask (d:=256) e.out.1 8 (by decide)])) (ih B W S H)
 |vd e h ih=>exact fun B W S H=>ae ((tL e.out.1 e.out.2 (by omega) (by omega)).trans (by rw[umask (d:=4294967296) e.out.1 32 (by decide)])) (ih B W S H)
 |ve e h ih=>exact fun B W S H=>ae ((oJ e.out.1 e.out.2 (by omega) (by omega)).trans (by rw[umask (d:=4294967296) e.out.1 32 (by decide)])) (ih B W S H)
 |oH e h ih=>exact fun B W S H=>ae ((tL e.out.1 e.out.2 (by omega) (by omega)).trans (by rw[umask (d:=281474976710656) e.out.1 48 (by decide)])) (ih B W S H)
 |oI e h ih=>exact fun B W S H=>ae ((oJ e.out.1 e.out.2 (by omega) (by omega)).trans (by rw[umask (d:=281474976710656) e.out.1 48 (by decide)])) (ih B W S H)
 |and e h ih=>exact fun B W S H=>ae (oJ e.out.1.1 e.out.1.2 e.out.2.1 e.out.2.2) (ih B W S H)
 |Ul e h ih=>exact fun B W S H=>ae (tL e.out.1.1 e.out.1.2 e.out.2.1 e.out.2.2) (ih B W S H)
 |or e h ih=>exact fun B W S H=>ae (O_ e.out.1.1 e.out.1.2 e.out.2.1 e.out.2.2) (ih B W S H)
 |Um e h ih=>exact fun B W S H=>ae (HX e.out.1 e.out.2) (ih B W S H)
 |KU e h ih=>exact fun B W S H=>ae (C2 e.out.1 e.out.2) (ih B W S H)
 |Uq h ih=>exact fun B W S H=>tC (by rw[bo,IntKind.wrap_u32]) (ih B W S H)
 |Ur h ih=>exact fun B W S H=>tD (by rw[bo,IntKind.wrap_u32]) (ih B W S H)
 |rem e h ih=>exact fun B W S H=>E8 (Int.ne_of_gt e.out.2) (by rw[Int.tmod_eq_emod_of_nonneg e.out.1];exact ih B W S H)
 |@quo a b _ _ _ _ _ e h ih=>
  exact fun B W S H=>KL (c:=a/b) (Int.ne_of_gt e.out.2.1) (by
   have h1:a/b≤a:=Int.ediv_le_self b e.out.1
   have h0:0≤a/b:=Int.ediv_nonneg e.out.1 (Int.le_of_lt e.out.2.1)
   have h3:=e.out.2.2
   rw[Int.tdiv_eq_ediv_of_nonneg e.out.1,bo,IntKind.wrap_u64];omega) (ih B W S H)
 |@min2 κ a b _ _ _ _ _ h ih=>
  exact fun B W S H=>ae (v:=Z κ (min a b)) (by
   show et (some (AV.sc (.int κ (if Dz b a then b else a)))) S=_
   rw[fP,Int.min_def]
   by_cases hb:b<a
   ·rw[decide_eq_true hb,if_pos rfl,if_neg (by omega)];rfl
   ·rw[decide_eq_false hb,if_neg (by simp),if_pos (by omega)];rfl) (ih B W S H)
 |pad e h ih=>exact fun B W S H=>ae (by show et (mw _ _ _ _) S=_;rw[e];rfl) (ih B W S H)
 |RS e h ih=>exact fun B W S H=>ae (by show et (fC _ _ _) S=_;rw[e];rfl) (ih B W S H)
 |Y7 e h ih=>exact fun B W S H=>ae (by show et (jy _ _ _ _ _ _) S=_;rw[e];rfl) (ih B W S H)
 |Zc h ih=>exact fun B W S H=>ae rfl (ih B W S H)
 |Zd h ih=>exact fun B W S H=>ae rfl (ih B W S H)
 |Ze h ih=>exact fun B W S H=>ae rfl (ih B W S H)
 |Zf h1 h ih=>
  intro B W S H
  refine ae (S1:=S) ?_ (ih B W S H)
  rcases H.oh _ h1.mem with⟨rfl,rfl⟩|⟨id,off,c,g1,_⟩
  ·rfl
  ·rcases g1 with⟨cap,_,_,rfl⟩|⟨cO,_,_,rfl⟩<;>rfl
 |@Ut v x ii _ P c _ _ _ _ hp h ih=>
  intro B W S H
  obtain⟨L,hm,j,rfl,g⟩:=c.ok hp.out
  have hj:=(List.getElem?_eq_some_iff.1 g).1
  rcases H.oh _ hm with⟨rfl,rfl⟩|⟨id,off,c,g1,g2,g3,g4⟩
  ·simp at hj
  ·refine ae (xj g1 hj) (ae (jI (dB g2) ?_) (ih B W S H))
   have:=jc g4 g
   rw[←g3,List.drop_take,List.take_take] at this
   have h5:(([x]:List AV))[0]?=some x:=rfl
   rw[←this,List.getElem?_take,List.getElem?_drop,List.getElem?_drop] at h5
   split at h5
   ·simpa using h5
   ·cases h5
 |@Y8 v x j L _ _ _ _ _ h1 h2 h ih=>
  intro B W S H
  have g:=h2.eq
  have hj:=(List.getElem?_eq_some_iff.1 g).1
  rcases H.oh _ h1.mem with⟨rfl,rfl⟩|⟨id,off,c,g1,g2,g3,g4⟩
  ·simp at hj
  ·refine ae (xj g1 hj) (ae (jI (dB g2) ?_) (ih B W S H))
   have:=jc g4 g
   rw[←g3,List.drop_take,List.take_take] at this
   have h5:(([x]:List AV))[0]?=some x:=rfl
   rw[←this,List.getElem?_take,List.getElem?_drop,List.getElem?_drop] at h5
   split at h5
   ·simpa using h5
   ·cases h5
 |@Y9 bytes id o n cap c l _ _ _ _ _ h1 h2 e h ih=>
  intro B W S H
  have hx:=v8 (cap:=cap) H h1 h2
  obtain⟨v1,S1,q1,q2,q3,q4,q5⟩:=mV (M:=M) (bytes:=bytes) (L:=[]) (N:=l.map fun a=>[a]) (.inl ⟨rfl,rfl⟩) (by rw[hx,FE,List.length_map]) (by simp) (by rw[List.length_map,List.length_nil,Nat.zero_add];exact e.out.1) (by rw[List.length_map,List.length_nil,Nat.zero_add];exact e.out.2) (fun id bS=>by simp[eg] at bS)
  refine ae q1 (ih v1 B W S1 (H.iv ⟨q3,fun id bS=>q4 id bS (by simp[eg])⟩ (by rw[List.nil_append] at q2;exact q2) fun id bS=>?_))
  obtain⟨r1,r2⟩:=q5 id bS
  exact⟨r2.resolve_left (by simp[eg]),r1⟩
 |@Y_ v bytes id o n cap c l L L' ab _ _ _ _ _ h0 h1 h2 hl e h3 h ih=>
  intro B W S H
  have hx:=v8 (cap:=cap) H h1 h2
  obtain⟨i,hi,_⟩:=(h3 v).at
  have hm:=List.mem_of_getElem? hi
  obtain⟨v1,S1,q1,q2,q3,q4,q5⟩:=mV (M:=M) (bytes:=bytes) (L:=L) (N:=l.map fun a=>[a]) (H.oh _ hm) (by rw[hx,FE,List.length_map]) (by simp) (by rw[List.length_map];exact e.out.1) (by rw[List.length_map];exact e.out.2) (fun id bS=>(H.oi _ hm id bS).1)
  obtain⟨i,hi,hs⟩:=(h3 v1).at
  have K2:=H.step hi q3 q4 (x':=.sl v1 1 L') (by rw[←hl];exact q2) q5
  rw[←hs] at K2
  exact ae q1 (ih v1 B W S1 K2)
 |@Zb es bytes n z c _ _ _ _ _ e e2 hc h ih=>
  intro B W S H
  have he:=hc.eq
  subst he
  refine ae (v:=.sl S.next 0 n n) (S1:=S.new (.row (bH z n))) ?_ (ih S.next B W _ (H.iv (aY.new S _) (bN _ _) ?_))
  ·show iZ es bytes z (I (Int.ofNat n)) (I (Int.ofNat n)) S=_
   unfold iZ
   have hn:nat? (Int.ofNat n)=some n:=rfl
   simp only[asInt,kX,hn]
   rw[Bool.and_eq_true] at e
   have h3:=Nat.le_of_ble_eq_true e2
   have e4:(Nat.ble n n&&Nat.ble (Nat.mul bytes n) 140737488355328&&Nat.ble n 9223372036854775807&&Nat.beq (bI z) es)=true:=by
    rw[dy (Nat.le_refl n),dy (by omega:n≤9223372036854775807),e.2]
    have:Nat.ble (Nat.mul bytes n) 140737488355328=true:=e.1
    rw[this];rfl
   rw[e4]
   rfl
  ·intro j hj
   simp only[Own.ids,List.mem_singleton] at hj
   subst hj
   simp
 |@Uy _ n z c c' ps _ _ _ _ _ e ha e2 h ih=>
  have he:=ha.eq
  subst he
  intro B W S H
  refine ae (v:=.sl S.next 0 n n) (S1:=S.new (.row c)) ?_ (ih (.sl S.next 0 n n) rfl rfl (by simp[AV.beq]) B W (S.new (.row c)) (H.iv (S1:=S.new (.row c)) (aY.new S _) (x:=.sl (.sl S.next 0 n n) 1 (c.map fun a=>[a])) ?_ ?_))
  ·show gg _ _ _ _ S=_
   unfold gg
   rw[e]
   have e3:(Nat.beq (bI c) (Nat.mul n 1)&&Nat.beq (bI z) 1)=true:=by rw[show Nat.mul n 1=n from Nat.mul_one n];exact e2
   simp only[e3]
   rfl
  ·have hn:c.length=n:=by
    have:=(Bool.and_eq_true_iff.1 e2).1
    rw[aZ] at this
    exact Nat.eq_of_beq_eq_true this
   exact .inr ⟨S.next,0,c,.inl ⟨n,by rw[List.length_map];omega,by omega,by rw[List.length_map,hn]⟩,bN _ _,by rw[List.length_map,yT,Nat.mul_one,List.drop_zero,List.take_length],by simp⟩
  ·intro j hj
   have:j=S.next:=by simpa[Own.ids,eg] using hj
   subst this
   simp
 |@Za v w bytes L N L' ab _ _ _ _ _ h0 h1 hl e h3 h ih=>
  intro B W S H
  have hx:=oG (oK (H.oh _ h1.mem))
  have hN:∀y∈N,y.length=1:=by
   rcases H.oh _ h1.mem with⟨_,rfl⟩|⟨_,_,_,_,_,_,g⟩
   ·simp
   ·exact g
  obtain⟨i,hi,_⟩:=(h3 v).at
  have hm:=List.mem_of_getElem? hi
  obtain⟨v1,S1,q1,q2,q3,q4,q5⟩:=mV (M:=M) (bytes:=bytes) (L:=L) (N:=N) (H.oh _ hm) hx hN e.out.1 e.out.2 (fun id bS=>(H.oi _ hm id bS).1)
  obtain⟨i,hi,hs⟩:=(h3 v1).at
  have K2:=H.step hi q3 q4 (x':=.sl v1 1 L') (by rw[←hl];exact q2) q5
  rw[←hs] at K2
  obtain⟨o1,o2,o3⟩:=ft (oK q2)
  exact ae q1 (ih v1 o1 o2 o3 B W S1 K2)
 |@Uu w bytes N _ _ _ _ _ h1 e h ih=>
  intro B W S H
  have hx:=oG (oK (H.oh _ h1.mem))
  have hN:∀y∈N,y.length=1:=by
   rcases H.oh _ h1.mem with⟨_,rfl⟩|⟨_,_,_,_,_,_,g⟩
   ·simp
   ·exact g
  obtain⟨v1,S1,q1,q2,q3,q4,q5⟩:=mV (M:=M) (bytes:=bytes) (L:=[]) (N:=N) (.inl ⟨rfl,rfl⟩) hx hN (by rw[List.length_nil,Nat.zero_add];exact e.out.1) (by rw[List.length_nil,Nat.zero_add];exact e.out.2) (fun id bS=>by simp[eg] at bS)
  obtain⟨o1,o2,o3⟩:=ft (oK q2)
  refine ae q1 (ih v1 o1 o2 o3 B W S1 (H.iv ⟨q3,fun id bS=>q4 id bS (by simp[eg])⟩ (by rw[List.nil_append] at q2;exact q2) fun id bS=>?_))
  obtain⟨r1,r2⟩:=q5 id bS
  exact⟨r2.resolve_left (by simp[eg]),r1⟩
 |@Uv v es a L L' ab _ _ _ _ _ h0 ha hl h3 h ih=>
  intro B W S H
  subst hl
  obtain⟨i,hi,_⟩:=(h3 v).at
  have hm:=List.mem_of_getElem? hi
  obtain⟨v1,q1,q2,q3⟩:=FG (M:=M) (H.oh _ hm) (Nat.le_of_ble_eq_true ha)
  obtain⟨i,hi,hs⟩:=(h3 v1).at
  have K2:=H.step hi (Nat.le_refl _) (fun _ _ _=>rfl) (x':=.sl v1 es (L.drop a)) q2 (fun id bS=>⟨(H.oi _ hm id (q3 id bS)).1,.inl (q3 id bS)⟩)
  rw[←hs] at K2
  obtain⟨o1,o2,o3⟩:=ft (oK q2)
  exact ae q1 (ih v1 o1 o2 o3 B W S K2)
 |@O7 v es a L L' ab _ _ _ _ _ h0 ha hl h3 h ih=>
  intro B W S H
  subst hl
  obtain⟨i,hi,_⟩:=(h3 v).at
  have hm:=List.mem_of_getElem? hi
  obtain⟨v1,q1,q2,q3⟩:=FH (M:=M) (H.oh _ hm) (Nat.le_of_ble_eq_true ha)
  obtain⟨i,hi,hs⟩:=(h3 v1).at
  have K2:=H.step hi (Nat.le_refl _) (fun _ _ _=>rfl) (x':=.sl v1 es (L.take a)) q2 (fun id bS=>⟨(H.oi _ hm id (q3 id bS)).1,.inl (q3 id bS)⟩)
  rw[←hs] at K2
  obtain⟨o1,o2,o3⟩:=ft (oK q2)
  exact ae q1 (ih v1 o1 o2 o3 B W S K2)
 |@Uw ty u c v _ _ _ _ _ h ih=>
  exact fun B W S H=>ae (by show et (hO _ _ _ _ _ _) S=_;rw[c.ok v];rfl) (ih B W S H)
 |@Ux ty u c v _ _ _ _ _ h ih=>
  exact fun B W S H=>ae (by show et (hO _ _ _ _ _ _) S=_;rw[c.ok v];rfl) (ih B W S H)
 |Zg e ha e2 h ih=>
  have he:=ha.eq
  subst he
  intro B W S H
  refine ae (v:=.sl S.next 0 _ _) (S1:=S.new (.row _)) ?_ (ih S.next B W _ (H.iv (aY.new S _) (bN _ _) ?_))
  ·show gg _ _ _ _ S=_
   unfold gg
   rw[e]
   simp only[e2]
   rfl
  ·intro j hj
   simp only[Own.ids,List.mem_singleton] at hj
   subst hj
   simp
 |Zh e h ih=>exact fun B W S H=>ae (tM (wrap64 e.out.1 e.out.2)) (ih B W S H)
 |Zi h ih=>exact fun B W S H=>ae (tM (by rw[bo,IntKind.wrap_u64])) (ih B W S H)
 |Zj h ih=>exact fun B W S H=>ae (tM (by rw[bo,IntKind.wrap_u32])) (ih B W S H)
 |@Uz _ _ _ n _ _ _ _ _ e h ih=>
  exact fun B W S H=>xm (FD e.out) (by cases n<;>exact ih B W S H)
 |@UA _ n _ _ _ _ _ e h ih=>exact fun B W S H=>xm (KV e.out) (by cases n<;>exact ih B W S H)
 |@UB _ n _ _ _ _ _ _ _ _ e h ih=>exact fun B W S H=>xm (KW e.out) (by cases n<;>exact ih B W S H)
 |@UC _ n _ _ _ _ _ e h ih=>exact fun B W S H=>xm (KX e.out) (by cases n<;>exact ih B W S H)
 |Zk e h ih=>
  intro B W S H
  obtain⟨t,vs,S',⟨n0,h1⟩,h2⟩:=ih B W S H
  exact ae (OJ e.out) ⟨t,vs,S',⟨n0,fun n hn=>by have:=h1 n hn;rw[gL] at this;exact this⟩,h2⟩
 |ld h1 h2 h ih=>
  intro B W S H
  obtain⟨d,q1,q2⟩:=h1.nth h2 H
  exact ae (jI q1 q2) (ih B W S H)
 |Zl h1 h2 h ih=>
  intro B W S H
  obtain⟨d,q1,q2,q3⟩:=h1.cut h2 H
  exact ae (xi q1 q2) (by rw[q3];exact ih B W S H)
 |Zm ha h0 h2 h1 hn h ih=>
  have he:=ha.eq
  subst he
  exact fun B W S H=>vZ H (vs:=_) (rfl:(AV.agg _).cells=_) rfl h2 h1 (by rw[←hn,aZ];rfl) (fun S1 H1=>ih B W S1 H1)
 |st ha ho hc h0 h2 h1 h ih=>
  have he:=ha.eq
  subst he
  exact fun B W S H=>vZ H hc ho h2 h1 rfl (fun S1 H1=>ih B W S1 H1)
 |alloc ha h ih=>
  have he:=ha.eq
  subst he
  exact fun B W S H=>gr H fun p S1 H1=>ih p B W S1 H1
 |UD ha h ih=>
  have he:=ha.eq
  subst he
  exact fun B W S H=>fU H rfl fun p S1 H1=>ih p B W S1 H1
 |UE ha ho hc h ih=>
  have he:=ha.eq
  subst he
  exact fun B W S H=>fU H ho fun p S1 H1=>ih p B W S1 (by rw[hc] at H1;exact H1)
 |UF ha h ih=>
  have he:=ha.eq
  subst he
  exact fun B W S H=>fq H rfl fun p S1 H1=>ih p B W S1 H1
 |box ha ho hc h ih=>
  have he:=ha.eq
  subst he
  exact fun B W S H=>fq H ho fun p S1 H1=>ih p B W S1 (by rw[hc] at H1;exact H1)
 |@vc f args P v c _ _ _ _ _ hp h ih=>exact fun B W S H=>dH H (c.ok hp.out S) fun S1 H1=>ih B W S1 H1
 |@sc f args P v own ab c _ _ ro _ hp h ih=>
  intro B W S H
  refine b5 (az (c.ok hp.out ro [] B W S (by rw[List.append_nil];exact H)) fun r S1 q=>?_)
  obtain⟨rfl,H1⟩:=q
  rw[List.append_nil] at H1
  exact ih B W S1 H1
 |inl hk hb hl h ih=>exact fun B W S H=>b5 (bg hk hb (by rw[hl.eq];exact ih B W S H))
 |call hf ha h ih=>
  have he:=ha.eq
  subst he
  have he:=hf.eq
  subst he
  exact ih
def Hs (own tgt:List Own):Prop:=∃g,own.Perm (tgt++g)
theorem Hs.rfl' {l}:Hs l l:=⟨[],by simp⟩
theorem Hs.of {l g tgt}(h:l.Perm (tgt++g)):Hs l tgt:=⟨g,h⟩
theorem Hs.drop {l tgt o}(h:Hs l tgt):Hs (o::l) tgt:=by
 obtain⟨g,h⟩:=h
 exact⟨o::g,(List.Perm.cons o h).trans List.perm_middle.symm⟩
theorem Hs.cons {l tgt o}(h:Hs l tgt):Hs (o::l) (o::tgt):=by
 obtain⟨g,h⟩:=h
 exact⟨g,List.Perm.cons o h⟩
theorem Hs.perm {l l' tgt}(h:Hs l tgt)(hp:l'.Perm l):Hs l' tgt:=by
 obtain⟨g,h⟩:=h
 exact⟨g,hp.trans h⟩
inductive Rw:List Own→Own→List Own→Prop
 |hd {o r}:Rw (o::r) o r
 |tl {o x r r'}(h:Rw r o r'):Rw (x::r) o (x::r')
 |ap {o l r r'}(h:Rw r o r'):Rw (l++r) o (l++r')
inductive Rl:List Own→List Own→List Own→Prop
 |hd {l r}:Rl (l++r) l r
 |tl {x l r r'}(h:Rl r l r'):Rl (x::r) l (x::r')
 |ap {l l' r r'}(h:Rl r l r'):Rl (l'++r) l (l'++r')
theorem Rw.perm {a b o}(h:Rw a o b):a.Perm (o::b):=by
 induction h with
 |hd=>exact .refl _
 |tl h ih=>exact(ih.cons _).trans (.swap _ _ _)
 |ap h ih=>exact(ih.append_left _).trans List.perm_middle
theorem Rl.perm {a l b}(h:Rl a l b):a.Perm (l++b):=by
 induction h with
 |hd=>exact .refl _
 |tl h ih=>exact(ih.cons _).trans List.perm_middle.symm
 |@ap l l' r r' h ih=>
  refine(ih.append_left l').trans ?_
  rw[←List.append_assoc,←List.append_assoc]
  exact List.Perm.append_right _ List.perm_append_comm
inductive Hq:List Own→List Own→Prop
 |rfl {l}:Hq l l
 |find {a b t o}(h:Rw a o b)(h2:Hq b t):Hq a (o::t)
 |Zs {a l l2 t}(h:Hq a (l++(l2++t))):Hq a ((l++l2)++t)
 |Pa {a b l t}(h:Rl a l b)(h2:Hq b t):Hq a (l++t)
 |skip {a t o}(h:Hq a t):Hq (o::a) t
 |Pb {a l t}(h:Hq a t):Hq (l++a) t
 |nil {a}:Hq a []
theorem Hq.hs {a t}(h:Hq a t):Hs a t:=by
 induction h with
 |rfl=>exact .rfl'
 |find h _ ih=>
  obtain⟨g,ih⟩:=ih
  exact⟨g,h.perm.trans (ih.cons _)⟩
 |Pa h _ ih=>
  obtain⟨g,ih⟩:=ih
  exact⟨g,h.perm.trans (by rw[List.append_assoc];exact ih.append_left _)⟩
 |Zs _ ih=>rw[List.append_assoc];exact ih
 |skip _ ih=>exact ih.drop
 |@Pb a l t _ ih=>
  obtain⟨g,ih⟩:=ih
  refine⟨l++g,(ih.append_left l).trans ?_⟩
  rw[←List.append_assoc,←List.append_assoc]
  exact List.Perm.append_right _ List.perm_append_comm
 |nil=>exact⟨_,.refl _⟩
theorem Hs.cx {l tgt}(h:Hs l tgt)(H:Cx B0 W S l ro):Cx B0 W S tgt ro:=by
 obtain⟨g,h⟩:=h
 exact(H.gw h).xh (List.sublist_append_left _ _)
def mX (Zt:List aQ)(Ψ:AV→List Own→Prop):pH:=fun t vs own ro=>t=.ret∧ro=Zt∧∃tgt,Ψ (oneOf vs) tgt∧Hs own tgt
theorem Vx.fn {f:Nat}{fa args fc b Ψ}(hk:M.kn.v f (fa++(args++fc))=none)(hb:M.iP f=some b)(h:Zx M false (b (fa++(args++fc))) [] own ro (mX ro Ψ))(H:Cx B0 W S own ro):aO M (.fn (.func f) fa fc) args S fun r S'=>∃ab,Ψ r ab∧Cx B0 W S' ab ro:=
 bg hk hb (wp_mono (h.ok B0 W S H) fun t vs S' ⟨ab,RO,⟨ht,hr,tgt,h1,h2⟩,h3⟩=>⟨ht,tgt,h1,by subst hr;exact h2.cx h3⟩)
theorem Vx.fm {f:Nat}{fa args fc b Ψ o1}(H:Cx B0 W S o1 ro)(e:o1=own)(h:Zx M false (b (fa++(args++fc))) [] own ro (mX ro Ψ))(hk:M.kn.v f (fa++(args++fc))=none:=by exact rfl)(hb:M.iP f=some b:=by exact rfl):aO M (.fn (.func f) fa fc) args S fun r S'=>∃ab,Ψ r ab∧Cx B0 W S' ab ro:=by
 subst e
 exact Vx.fn hk hb h H
theorem Zx.spec {f:AV}{args:List AV}{Ψ:AV→List Own→Prop}(hc:∀B W S,Cx B W S own ro→aO M f args S fun r S'=>∃ab,Ψ r ab∧Cx B W S' ab ro)(h:∀r ab,Ψ r ab→Zx M false (k r) K ab ro Φ):Zx M false (.call f args k) K own ro Φ:=
 .z (.of fun B W S H=>b5 (az (hc B W S H) fun r S' ⟨ab,h1,h2⟩=>(h r ab h1).ok B W S' h2))
theorem Vx.spec {f:AV}{args:List AV}{Ψ:AV→List Own→Prop}(hc:∀B W S,Cx B W S own ro→aO M f args S fun r S'=>∃ab,Ψ r ab∧Cx B W S' ab ro)(h:∀r ab,Ψ r ab→Zx M false (k r) K ab ro Φ):Vx M (.call f args k) K own ro Φ:=
 fun B W S H=>b5 (az (hc B W S H) fun r S' ⟨ab,h1,h2⟩=>(h r ab h1).ok B W S' h2)
theorem Zx.perm {x}(hp:own.Perm ab)(h:Zx M false x K ab ro Φ):Zx M false x K own ro Φ:=.z (.of fun B W S H=>h.ok B W S (H.gw hp))
theorem Vx.Nk {vs body outs}(h:Vx M (body vs) (.loop body outs::K) own ro Φ):Vx M (.ret .normal vs) (.loop body outs::K) own ro Φ:=fun B W S H=>wp_ret (.inl ⟨rfl,mQ (h B W S H)⟩)
theorem Vx.loop {vs body outs}(h:Vx M (body vs) (.loop body outs::K) own ro Φ):Vx M (.loop vs body outs) K own ro Φ:=fun B W S H=>wp_loop (mQ (h B W S H))
theorem Vx.cb {x}(hs:Hs ab own)(h:Vx M x K own ro Φ):Vx M x K ab ro Φ:=fun B W S H=>h B W S (hs.cx H)
theorem Zx.cb {x}(hs:Hs ab own)(h:Zx M false x K own ro Φ):Zx M false x K ab ro Φ:=.z (.of (h.ok.cb hs))
theorem Vx.Pc {body outs}(N:Nat)(P:Nat→Prop)(h0:P 0)
  (hs:∀i:Nat,i<N→P i→(P (i+1)→Vx M (.ret .normal [I ((i:Int)+1)]) (.loop body outs::K) own ro Φ)→Zx M false (body [I (i:Int)]) (.loop body outs::K) own ro Φ)
  (he:P N→Zx M false (body [I (N:Int)]) (.loop body outs::K) own ro Φ):Vx M (.loop [I 0] body outs) K own ro Φ:=by
 have key:∀k i:Nat,i+k=N→P i→Vx M (body [I (i:Int)]) (.loop body outs::K) own ro Φ:=by
  intro k
  induction k with
  |zero=>
   intro i hi hp
   obtain rfl:i=N:=by omega
   exact(he hp).ok
  |succ k ih=>
   intro i hi hp
   exact(hs i (by omega) hp fun Pd=>Vx.Nk (by
    have:=ih (i+1) (by omega) Pd
    rwa[show((i+1:Nat):Int)=(i:Int)+1 by omega] at this)).ok
 exact Vx.loop (key N 0 (by omega) h0)
theorem VC.of {f:Nat}{fa args fc b}{P:Prop}{v}(hk:M.kn.v f (fa++(args++fc))=none)(hb:M.iP f=some b)(h:P→Zx M false (b (fa++(args++fc))) [] [] [] fun t vs _ _=>t=.ret∧oneOf vs=v):VC M (.fn (.func f) fa fc) args P v where
 ok:=fun hp S=>bg hk hb (wp_mono ((h hp).ok S [] S (Cx.enter (by simp))) fun t vs S' ⟨_,_,⟨ht,h1⟩,h3⟩=>⟨ht,h1,h3.cr⟩)
theorem NS.of {f:Nat}{fa args fc b}{P:Prop}{L}(hk:M.kn.v f (fa++(args++fc))=none)(hb:M.iP f=some b)(h:P→∀ro R,Zx M false (b (fa++(args++fc))) [] (own++R) ro (mX ro fun r l=>l=.sl r 1 L::(own++R))):NS M (.fn (.func f) fa fc) args own P L where
 ok:=fun hp ro R B W S H=>az (Vx.fn hk hb (h hp ro R) H) fun r S' ⟨l,h1,h3⟩=>by subst h1;exact h3
theorem NC.of {f:Nat}{fa args fc b}{P:Prop}{Q}(hk:M.kn.v f (fa++(args++fc))=none)(hb:M.iP f=some b)(h:P→∀ro R,Zx M false (b (fa++(args++fc))) [] R ro (mX ro fun r l=>∃p l',Q p l'∧r=.ptr p 0∧l=l'++R)):NC M (.fn (.func f) fa fc) args P Q where
 ok:=fun hp ro R B W S H=>az (Vx.fn hk hb (h hp ro R) H) fun r S' ⟨l,⟨p,l',h1,h2,h4⟩,h3⟩=>⟨p,l',h1,h2,by subst h4;exact h3⟩
theorem SC.of {f:Nat}{fa args fc b}{P:Prop}{v}(hk:M.kn.v f (fa++(args++fc))=none)(hb:M.iP f=some b)(h:P→∀ro R,Zx M false (b (fa++(args++fc))) [] (own++R) ro (mX ro fun r l=>r=v∧l=ab++R)):SC M (.fn (.func f) fa fc) args own P v ab where
 ok:=fun hp ro R B W S H=>az (Vx.fn hk hb (h hp ro R) H) fun r S' ⟨l,⟨h1,h2⟩,h3⟩=>⟨h1,by subst h2;exact h3⟩
end
end
section
def bu (l:List Int):List (List AV):=l.map fun n=>[U n]
theorem dU (l:List Int):(bu l).length=l.length:=List.length_map ..
theorem jd {l:List Int}{i:Nat}{n:Int}(h:l[i]?=some n):(bu l)[i]?=some [U n]:=by unfold bu;rw[List.getElem?_map,h];rfl
theorem C3 (l:List Int)(i:Nat)(n:Int):(bu l).set i [U n]=bu (l.set i n):=by unfold bu;rw[List.map_set]
structure Me where
 ws:List Int
 kind:Int
 cd:Int
 iK:Int
 new:Int
 held:Bool
 n:Int
namespace Me
def last (x:Me):List AV:=[I x.kind,I x.cd,U x.iK,U x.new,B x.held]
def rW (x:Me)(bl:Nat):List AV:=.ptr bl 0::I x.ws.length::(x.last++[I x.n])
def HY (x:Me)(v:AV):List AV:=v::(x.last++[I x.n])
def has (x:Me)(a:Int):Prop:=0≤a∧a<x.ws.length
instance z3 (x:Me)(a:Int):Decidable (x.has a):=inferInstanceAs (Decidable (_∧_))
def word (x:Me)(a:Int):Int:=if x.has a then x.ws[a.toNat]?.getD 0 else 0
def acc (x:Me)(kind a w:Int)(held:Bool):Me:=if x.has a then⟨x.ws.set a.toNat w,kind,a,x.word a,w,held,x.n+1⟩ else⟨x.ws,kind,a,0,0,false,x.n+1⟩
def ld (x:Me)(a:Int):Me:=x.acc 1 a (x.word a) false
def st (x:Me)(a w:Int):Me:=x.acc 2 a w true
def eh (x:Me)(a o n:Int):Me:=x.acc 3 a (if x.word a=o then n else x.word a) (decide (x.word a=o))
def add (x:Me)(a n:Int):Me:=x.acc 4 a ((x.word a+n)%18446744073709551616) true
def eq (x:Me)(a o:Int):Prop:=x.has a∧x.word a=o
instance z4 (x:Me)(a o:Int):Decidable (x.eq a o):=inferInstanceAs (Decidable (_∧_))
abbrev ar (w:Int):Prop:=0≤w∧w<18446744073709551616
def gd (x:Me):Prop:=(1≤x.ws.length∧x.ws.length≤4096∧0≤x.n∧x.n≤4611686018427387904)∧∀w∈x.ws,ar w
theorem sw {x:Me}{a:Nat}{w:Int}(h:x.ws[a]?=some w):x.word (a:Int)=w:=by
 have:=(List.getElem?_eq_some_iff.1 h).1
 unfold word
 rw[if_pos (show x.has a from⟨by omega,by omega⟩),Int.toNat_natCast,h];rfl
theorem ai {x:Me}(h:x.gd)(a:Int):ar (x.word a):=by
 unfold word
 split
 ·next hh=>
  have hn:a.toNat<x.ws.length:=by have:=hh.2;have:=hh.1;omega
  rw[List.getElem?_eq_getElem hn]
  exact h.2 _ (List.getElem_mem hn)
 ·unfold ar;omega
theorem yU {x:Me}{a o n:Int}:(x.eh a o n).held=decide (x.eq a o):=by
 unfold eh acc eq
 by_cases h:x.has a
 ·rw[if_pos h]
  show decide _=decide _
  rw[Bool.eq_iff_iff];simp[h]
 ·rw[if_neg h]
  simp[h]
theorem xn {x:Me}{k a w:Int}{h:Bool}:(x.acc k a w h).ws.length=x.ws.length:=by
 unfold acc;split<;>simp
theorem FI {x:Me}{k a w:Int}{h:Bool}:(x.acc k a w h).n=x.n+1:=by
 unfold acc;split<;>rfl
theorem KY {x:Me}{k a w:Int}{h:Bool}(hx:x.gd)(hn:x.n<4611686018427387904)(hw:ar w):(x.acc k a w h).gd:=by
 obtain⟨⟨h1,h2,h3,h4⟩,h5⟩:=hx
 refine⟨⟨by rw[xn];exact h1,by rw[xn];exact h2,by rw[FI];omega,by rw[FI];omega⟩,?_⟩
 unfold acc
 split
 ·intro v hv
  rcases List.mem_or_eq_of_mem_set hv with hv|rfl
  ·exact h5 v hv
  ·exact hw
 ·exact h5
end Me
def ad (m bl:Nat)(x:Me)(rest:List AV):List Own:=[.obj m (.row (x.rW bl)),.obj bl (.row (x.ws.map U++rest))]
def aj (w:Nat)(v:AV)(x:Me):List Own:=[.obj w (.row (x.HY v)),.sl v 1 (bu x.ws)]
section
variable{M:ef}{own ab:List Own}{ro:List aQ}{Φ:pH}{K:List Kf}{k:AV→AC}{S:AH}{B0:AH}{W:List Nat}{Q:hX}
def eD {α:Type}(R:α→List Own→Prop)(ov:α→Bool)(st:α×Me)(mem:Me→List Own)(R0:List Own):AV→List Own→Prop:=fun r ab=>∃l',(R st.1 l'∧r=B (ov st.1))∧ab=l'++(mem st.2++R0)
theorem aa {α:Type}{R:α→List Own→Prop}{ov:α→Bool}{st:α×Me}{mem:Me→List Own}{R0 l':List Own}{b:Bool}{a':α}{x':Me}(e:st=(a',x'))(hR:R a' l')(hb:ov a'=b)(hs:Hs own (l'++(mem x'++R0))):mX ro (eD R ov st mem R0) .ret [cY.B b] own ro:=by
 subst e
 subst hb
 exact⟨rfl,rfl,_,⟨l',⟨hR,rfl⟩,rfl⟩,hs⟩
theorem sx {A l mm R:List Own}:(A++(l++(mm++R))).Perm (l++(mm++(A++R))):=by
 have h1:(A++(l++(mm++R))).Perm ((l++mm)++(A++R)):=by
  rw[←List.append_assoc l,←List.append_assoc A,←List.append_assoc (l++mm)]
  exact List.Perm.append_right R List.perm_append_comm
 rwa[List.append_assoc l] at h1
theorem Vx.fz {α:Type}{Rl:α→List Own→Prop}{ov:α→Bool}{st:α×Me}{mem:Me→List Own}{A l R:List Own}{x:Me}{f:AV}{args:List AV}
  (hc:∀B W S,Cx B W S (l++(mem x++(A++R))) ro→aO M f args S fun r S'=>∃ab,eD Rl ov st mem (A++R) r ab∧Cx B W S' ab ro)
  (h:∀a' x' l',st=(a',x')→Rl a' l'→Zx M false (k (cY.B (ov a'))) K (A++(l'++(mem x'++R))) ro Φ):Vx M (.call f args k) K (A++(l++(mem x++R))) ro Φ:=
 fun B W S H=>b5 (az (hc B W S (H.gw sx)) fun r S' ⟨ab,⟨l',⟨h1,h2⟩,h3⟩,h4⟩=>by
  subst h2 h3
  exact(h st.1 st.2 l' rfl h1).ok B W S' (h4.gw sx.symm))
end
end
section
def idx (size w:Int):Int:=if w%65536-1<size then w%65536-1 else-1
def yV (i w:Int):Int:=i+1+(w/65536+1)%281474976710656*65536
structure Sk where
 top:Int
 fJ:Int
 size:Int
inductive oL
 |a
 |b (w i:Int)
 |c (w i j:Int)
 |d (i:Int)
namespace oL
def over:oL→Bool|.d _=>true|_=>false
def step (s:Sk):oL→Me→oL×Me
 |.a,x=>(if idx s.size (x.word s.top)<0 then .d (-1) else .b (x.word s.top) (idx s.size (x.word s.top)),x.ld s.top)
 |.b w i,x=>(.c w i (idx s.size (x.word (s.fJ+i))),x.ld (s.fJ+i))
 |.c w i j,x=>(if x.eq s.top w then .d i else .a,x.eh s.top w (yV j w))
 |.d i,x=>(.d i,x)
end oL
inductive jK
 |a
 |b (w:Int)
 |c (w:Int)
 |d (e:Int)
namespace jK
def over:jK→Bool|.d _=>true|_=>false
def new (s:Sk)(i:Int):jK:=if i<0∨s.size≤i then .d 3 else .a
def step (s:Sk)(i:Int):jK→Me→jK×Me
 |.a,x=>(.b (x.word s.top),x.ld s.top)
 |.b w,x=>(.c w,x.st (s.fJ+i) (idx s.size w+1))
 |.c w,x=>(if x.eq s.top w then .d 0 else .a,x.eh s.top w (yV i w))
 |.d e,x=>(.d e,x)
end jK
inductive rX
 |a
 |b (w i:Int)
 |d (i:Int)
namespace rX
def over:rX→Bool|.d _=>true|_=>false
def step (s:Sk):rX→Me→rX×Me
 |.a,x=>(if idx s.size (x.word s.top)<0 then .d (-1) else .b (x.word s.top) (idx s.size (x.word s.top)),x.ld s.top)
 |.b w i,x=>(if x.eq s.top w then .d i else .a,x.eh s.top w (yV (-1) w))
 |.d i,x=>(.d i,x)
end rX
structure Ar where
 f:Sk
 ju:Int
 pK:Int
 DN:Int
inductive cR
 |p (s:oL)
 |g (i:Int)
 |w
 |d (r e:Int)
namespace cR
def over:cR→Bool|.d _ _=>true|_=>false
def jL:oL→cR
 |.d i=>if i<0 then .w else .g i
 |s=>.p s
def step (a:Ar):cR→Me→cR×Me
 |.p s,x=>(jL (s.step a.f x).1,(s.step a.f x).2)
 |.g i,x=>(.d (i+1+x.word (a.ju+i)%4294967296*65536) 0,x.ld (a.ju+i))
 |.w,x=>(.d 0 (if a.f.size≤x.word a.pK then 12 else 7),x.ld a.pK)
 |.d r e,x=>(.d r e,x)
end cR
inductive je
 |l
 |r (g:Int)
 |u (s:jK)
 |w
 |d (e:Int)
namespace je
def over:je→Bool|.d _=>true|_=>false
def new (a:Ar)(i:Int):je:=if i<0∨a.f.size≤i then .d 3 else .l
def step (a:Ar)(i:Int):je→Me→je×Me
 |.l,x=>(if a.DN≤x.word (a.ju+i)%4294967296 then .w else .r (x.word (a.ju+i)),x.ld (a.ju+i))
 |.r g,x=>(.u .a,x.st (a.ju+i) ((g+1)%18446744073709551616))
 |.u s,x=>(if(s.step a.f i x).1.over then .d 0 else .u (s.step a.f i x).1,(s.step a.f i x).2)
 |.w,x=>(.d 0,x.add a.pK 1)
 |.d e,x=>(.d e,x)
end je
structure Ep where
 cd:Int
 pins:Int
 ah:Int
inductive oM
 |a
 |b (p:Int)
 |c (p:Int)
 |d (p e:Int)
namespace oM
def over:oM→Bool|.d _ _=>true|_=>false
def new (e:Ep)(c:Int):oM:=if c<0∨e.ah≤c then .d 0 3 else .a
def step (e:Ep)(c:Int):oM→Me→oM×Me
 |.a,x=>(.b (x.word e.cd%4294967296),x.ld e.cd)
 |.b p,x=>(.c p,x.st (e.pins+c) (p+1))
 |.c p,x=>(if x.word e.cd%4294967296=p then .d p 0 else .b (x.word e.cd%4294967296),x.ld e.cd)
 |.d p e,x=>(.d p e,x)
end oM
inductive c_
 |a
 |d (e:Int)
namespace c_
def over:c_→Bool|.d _=>true|_=>false
def new (e:Ep)(c:Int):c_:=if c<0∨e.ah≤c then .d 3 else .a
def step (e:Ep)(c:Int):c_→Me→c_×Me
 |.a,x=>(.d 0,x.st (e.pins+c) 0)
 |.d e,x=>(.d e,x)
end c_
inductive iA
 |a
 |b (w n:Int)
 |c (w:Int)
 |d (e:Int)
namespace iA
def over:iA→Bool|.d _=>true|_=>false
def new (e:Ep)(c:Int):iA:=if c<0∨e.ah≤c then .d 3 else .a
def skip (e:Ep)(c w n:Int):iA:=if e.ah≤(if n=c then n+1 else n) then .c w else .b w (if n=c then n+1 else n)
def step (e:Ep)(c p:Int):iA→Me→iA×Me
 |.a,x=>(if x.word e.cd%4294967296=p then skip e c (x.word e.cd) 0 else .d 14,x.ld e.cd)
 |.b w n,x=>(if x.word (e.pins+n)=0∨x.word (e.pins+n)=p+1 then skip e c w (n+1) else .d 14,x.ld (e.pins+n))
 |.c w,x=>(if x.eq e.cd w then .d 0 else .d 14,x.eh e.cd w (p+1))
 |.d e,x=>(.d e,x)
end iA
structure Lb where
 a:Ar
 e:Ep
 tN:Int
def Lb.wait (l:Lb)(k:Int):Sk:=⟨l.tN+k,l.a.f.fJ,l.a.f.size⟩
inductive gP
 |a
 |b (k:Int)(s:jK)
 |d (e:Int)
namespace gP
def over:gP→Bool|.d _=>true|_=>false
def new (l:Lb)(i:Int):gP:=if i<0∨l.a.f.size≤i then .d 3 else .a
def step (l:Lb)(i:Int):gP→Me→gP×Me
 |.a,x=>(.b (x.word l.e.cd%4294967296%3) .a,x.ld l.e.cd)
 |.b k s,x=>(if(s.step (l.wait k) i x).1.over then .d 0 else .b k (s.step (l.wait k) i x).1,(s.step (l.wait k) i x).2)
 |.d e,x=>(.d e,x)
end gP
inductive eN
 |v (s:iA)
 |t (s:rX)
 |l (i n:Int)
 |f (i j n:Int)(s:je)
 |d (n e:Int)
namespace eN
def over:eN→Bool|.d _ _=>true|_=>false
def new (l:Lb)(c p:Int):eN:=if c<0∨l.e.ah≤c∨p<0 then .d 0 3 else .v .a
def FJ:iA→eN
 |.d e=>if e=0 then .t .a else .d 0 e
 |s=>.v s
def FL:rX→eN
 |.d i=>if i<0 then .d 0 0 else .l i 0
 |s=>.t s
def step (l:Lb)(c p:Int):eN→Me→eN×Me
 |.v s,x=>(FJ (s.step l.e c p x).1,(s.step l.e c p x).2)
 |.t s,x=>(FL (s.step (l.wait ((p+2)%3)) x).1,(s.step (l.wait ((p+2)%3)) x).2)
 |.l i n,x=>(.f i (x.word (l.a.f.fJ+i)%65536-1) n .l,x.ld (l.a.f.fJ+i))
 |.f i j n s,x=>(if(s.step l.a i x).1.over then(if j<0∨l.a.f.size≤j∨l.a.f.size≤n+1 then .d (n+1) 0 else .l j (n+1)) else .f i j n (s.step l.a i x).1,(s.step l.a i x).2)
 |.d n e,x=>(.d n e,x)
end eN
structure Rn where
 head:Int
 tail:Int
 eE:Int
 size:Int
namespace Rn
def place (r:Rn)(t:Int):Int:=r.eE+t%r.size
def rY (r:Rn)(t:Int):Int:=t/r.size%4294967296
end Rn
def kg (w l:Int):Prop:=w/4294967296=l∧w/65536%2=1
def iM (w l:Int):Prop:=w/4294967296=l∧w/65536%2=0
instance z5 (w l:Int):Decidable (kg w l):=inferInstanceAs (Decidable (_∧_))
instance z6 (w l:Int):Decidable (iM w l):=inferInstanceAs (Decidable (_∧_))
inductive dj
 |a
 |b (t:Int)
 |c (t w:Int)
 |l (t:Int)
 |h (t:Int)
 |d (e:Int)
namespace dj
def over:dj→Bool|.d _=>true|_=>false
def step (r:Rn)(v:Int):dj→Me→dj×Me
 |.a,x=>(.b (x.word r.tail),x.ld r.tail)
 |.b t,x=>(if iM (x.word (r.place t)) (r.rY t) then .c t (x.word (r.place t)) else if kg (x.word (r.place t)) ((r.rY t+4294967296-1)%4294967296) then .d 7 else .h t,x.ld (r.place t))
 |.c t w,x=>(if x.eq (r.place t) w then .l t else .h t,x.eh (r.place t) w (r.rY t*4294967296+65536+v))
 |.l t,x=>(.d 0,x.eh r.tail t ((t+1)%18446744073709551616))
 |.h t,x=>(.a,x.eh r.tail t ((t+1)%18446744073709551616))
 |.d e,x=>(.d e,x)
end dj
inductive fj
 |a
 |b (h:Int)
 |d (h v e:Int)
namespace fj
def over:fj→Bool|.d _ _ _=>true|_=>false
def step (r:Rn):fj→Me→fj×Me
 |.a,x=>(.b (x.word r.head),x.ld r.head)
 |.b h,x=>(if kg (x.word (r.place h)) (r.rY h) then .d h (x.word (r.place h)%65536) 0 else .d h 0 15,x.ld (r.place h))
 |.d h v e,x=>(.d h v e,x)
end fj
inductive kN
 |a
 |b
 |d
namespace kN
def over:kN→Bool|.d=>true|_=>false
def step (r:Rn)(h:Int):kN→Me→kN×Me
 |.a,x=>(.b,x.st (r.place h) ((r.rY h+1)%4294967296*4294967296))
 |.b,x=>(.d,x.st r.head ((h+1)%18446744073709551616))
 |.d,x=>(.d,x)
end kN
structure Tw where
 nd:Int
 hd:Int
 ht:Int
 l:Lb
namespace Tw
def size (t:Tw):Int:=t.l.a.f.size
def pt (t:Tw)(i k:Int):Int:=t.nd+i*(4+t.ht)+k
def nx (t:Tw)(i l:Int):Int:=if i=-1 then t.hd+l else t.pt i (4+l)
def ix (t:Tw)(w:Int):Int:=idx t.size w
end Tw
inductive lK
 |s (k:Nat)
 |d (e:Int)
namespace lK
def over:lK→Bool|.d _=>true|_=>false
def step (t:Tw)(ref key aq high:Int):lK→Me→lK×Me
 |.s 0,x=>(.s 1,x.st (t.pt (t.ix ref) 0) key)
 |.s 1,x=>(.s 2,x.st (t.pt (t.ix ref) 1) aq)
 |.s 2,x=>(.s 3,x.st (t.pt (t.ix ref) 2) high)
 |.s _,x=>(.d 0,x.st (t.pt (t.ix ref) 3) 2)
 |.d e,x=>(.d e,x)
end lK
structure Sp where
 pred:Int
 known:Int
 cur:Int
def Sp.z:Sp:=⟨0,0,0⟩
abbrev fL:=List Sp
def fL.cd (T:fL)(l:Nat):Sp:=(T[l]?).getD Sp.z
inductive bJ
 |a (l:Nat)(pred known:Int)(T:fL)
 |b (l:Nat)(pred known cur:Int)(T:fL)
 |c (l:Nat)(pred known cur w:Int)(T:fL)
 |e (l:Nat)(pred known cur w:Int)(T:fL)
 |d (T:fL)
namespace bJ
def over:bJ→Bool|.d _=>true|_=>false
def iq (t:Tw)(T:fL):bJ:=.a (t.ht-1).toNat (-1) 0 T
def new (t:Tw):bJ:=iq t (List.replicate t.ht.toNat Sp.z)
def done (l:Nat)(pred known cur:Int)(T:fL):bJ:=match l with
 |0=>.d (T.set 0 ⟨pred,known,cur⟩)
 |l+1=>.a l pred known (T.set (l+1) ⟨pred,known,cur⟩)
def looks (t:Tw)(l:Nat)(pred known cur:Int)(T:fL):bJ:=if t.ix cur<0 then done l pred known cur T else .b l pred known cur T
def cz:bJ→Int
 |.a _ _ known _=>known
 |.b _ _ _ cur _=>cur
 |.c _ _ known _ _ _=>known
 |.e _ _ _ cur _ _=>cur
 |.d _=>0
def step (t:Tw)(key:Int):bJ→Me→bJ×Me
 |.a l pred known T,x=>(if 9223372036854775808≤x.word (t.nx pred l) then iq t T else looks t l pred known (x.word (t.nx pred l)) T,x.ld (t.nx pred l))
 |.b l pred known cur T,x=>(if 9223372036854775808≤x.word (t.nx (t.ix cur) l) then .c l pred known cur (x.word (t.nx (t.ix cur) l)) T else .e l pred known cur (x.word (t.nx (t.ix cur) l)) T,x.ld (t.nx (t.ix cur) l))
 |.c l pred known cur w T,x=>(if x.eq (t.nx pred l) cur then looks t l pred known (w-9223372036854775808) T else iq t T,x.eh (t.nx pred l) cur (w-9223372036854775808))
 |.e l pred known cur w T,x=>(if x.word (t.pt (t.ix cur) 0)<key then looks t l (t.ix cur) cur w T else done l pred known cur T,x.ld (t.pt (t.ix cur) 0))
 |.d T,x=>(.d T,x)
end bJ
inductive cS
 |f (F:bJ)
 |s (l:Nat)(T:fL)
 |e (T:fL)
 |l (l:Nat)(T:fL)
 |t (l:Nat)(w:Int)(T:fL)
 |k (l:Nat)(T:fL)
 |g (l:Nat)(F:bJ)
 |o (l:Nat)(T:fL)
 |q
 |c (F:bJ)
 |r
 |w (R:gP)
 |d (e:Int)
namespace cS
def over:cS→Bool|.d _=>true|_=>false
def cz (ref:Int):cS→Int
 |.f F=>F.cz
 |.e T=>(T.cd 0).known
 |.k v T=>(T.cd v).known
 |.g _ F=>F.cz
 |.c F=>F.cz
 |.w _=>0
 |.d _=>0
 |_=>ref
def up (high:Int)(v:Nat)(T:fL):cS:=if high≤v then .q else .l v T
def FM:bJ→cS
 |.d T=>.s 0 T
 |F=>.f F
def FN (v:Nat):bJ→cS
 |.d T=>.o v T
 |F=>.g v F
def step (t:Tw)(ref key high:Int):cS→Me→cS×Me
 |.f F,x=>(FM (F.step t key x).1,(F.step t key x).2)
 |.s v T,x=>(if high≤v+1 then .e T else .s (v+1) T,x.st (t.nx (t.ix ref) v) (T.cd v).cur)
 |.e T,x=>(if x.eq (t.nx (T.cd 0).pred 0) (T.cd 0).cur then up high 1 T else .f (.new t),x.eh (t.nx (T.cd 0).pred 0) (T.cd 0).cur ref)
 |.l v T,x=>(if 9223372036854775808≤x.word (t.nx (t.ix ref) v) then .q else if x.word (t.nx (t.ix ref) v)=(T.cd v).cur then .k v T else .t v (x.word (t.nx (t.ix ref) v)) T,x.ld (t.nx (t.ix ref) v))
 |.t v u T,x=>(if x.eq (t.nx (t.ix ref) v) u then .k v T else .q,x.eh (t.nx (t.ix ref) v) u (T.cd v).cur)
 |.k v T,x=>(if x.eq (t.nx (T.cd v).pred v) (T.cd v).cur then up high (v+1) T else .g v (.new t),x.eh (t.nx (T.cd v).pred v) (T.cd v).cur ref)
 |.g v F,x=>(FN v (F.step t key x).1,(F.step t key x).2)
 |.o v T,x=>(if 9223372036854775808≤x.word (t.nx (t.ix ref) 0) then .c (.new t) else .l v T,x.ld (t.nx (t.ix ref) 0))
 |.q,x=>(if 9223372036854775808≤x.word (t.nx (t.ix ref) 0) then .c (.new t) else .r,x.ld (t.nx (t.ix ref) 0))
 |.c F,x=>(if(F.step t key x).1.over then .r else .c (F.step t key x).1,(F.step t key x).2)
 |.r,x=>(if(x.add (t.pt (t.ix ref) 3) 18446744073709551615).new=0 then .w (.new t.l (t.ix ref)) else .d 0,x.add (t.pt (t.ix ref) 3) 18446744073709551615)
 |.w R,x=>(if(R.step t.l (t.ix ref) x).1.over then .d 0 else .w (R.step t.l (t.ix ref) x).1,(R.step t.l (t.ix ref) x).2)
 |.d er,x=>(.d er,x)
end cS
inductive b8
 |a
 |b (A i:Int)
 |c (A w:Int)
 |m (A i:Int)
 |n (A i:Int)(l:Nat)
 |o (A i:Int)(l:Nat)(w:Int)
 |k (A i:Int)
 |h (A i w:Int)
 |r (A i:Int)
 |j (A i key:Int)
 |f (A i key aq:Int)(F:bJ)
 |g (A i key aq:Int)
 |w (i key aq:Int)(R:gP)
 |d (key aq e:Int)
namespace b8
def over:b8→Bool|.d _ _ _=>true|_=>false
def cz:b8→Int
 |.a=>0
 |.b A _=>A
 |.c _ _=>0
 |.m A _=>A
 |.n A _ _=>A
 |.o A _ _ _=>A
 |.k A _=>A
 |.h A _ _=>A
 |.r A _=>A
 |.j A _ _=>A
 |.f _ _ _ _ F=>F.cz
 |.g A _ _ _=>A
 |.w _ _ _ _=>0
 |.d _ _ _=>0
def below (A i:Int)(l:Nat):b8:=if l≤1 then .k A i else .n A i (l-1)
def step (t:Tw)(look:Bool):b8→Me→b8×Me
 |.a,x=>(if t.ix (x.word (t.nx (-1) 0))<0 then .d 0 0 15 else .b (x.word (t.nx (-1) 0)) (t.ix (x.word (t.nx (-1) 0))),x.ld (t.nx (-1) 0))
 |.b A i,x=>(if 9223372036854775808≤x.word (t.nx i 0) then .c A (x.word (t.nx i 0)) else if look then .r A i else .m A i,x.ld (t.nx i 0))
 |.c A u,x=>(.a,x.eh (t.nx (-1) 0) A (u-9223372036854775808))
 |.m A i,x=>(below A i (min (x.word (t.pt i 2)) t.ht).toNat,x.ld (t.pt i 2))
 |.n A i l,x=>(if 9223372036854775808≤x.word (t.nx i l) then below A i l else .o A i l (x.word (t.nx i l)),x.ld (t.nx i l))
 |.o A i l u,x=>(if x.eq (t.nx i l) u then below A i l else .n A i l,x.eh (t.nx i l) u (u+9223372036854775808))
 |.k A i,x=>(if 9223372036854775808≤x.word (t.nx i 0) then .c A (x.word (t.nx i 0)) else .h A i (x.word (t.nx i 0)),x.ld (t.nx i 0))
 |.h A i u,x=>(if x.eq (t.nx i 0) u then .r A i else .k A i,x.eh (t.nx i 0) u (u+9223372036854775808))
 |.r A i,x=>(.j A i (x.word (t.pt i 0)),x.ld (t.pt i 0))
 |.j A i key,x=>(if look then .d key (x.word (t.pt i 1)%65536) 0 else .f A i key (x.word (t.pt i 1)%65536) (.new t),x.ld (t.pt i 1))
 |.f A i key aq F,x=>(if(F.step t key x).1.over then .g A i key aq else .f A i key aq (F.step t key x).1,(F.step t key x).2)
 |.g A i key aq,x=>(if(x.add (t.pt i 3) 18446744073709551615).new=0 then .w i key aq (.new t.l i) else .d key aq 0,x.add (t.pt i 3) 18446744073709551615)
 |.w i key aq R,x=>(if(R.step t.l i x).1.over then .d key aq 0 else .w i key aq (R.step t.l i x).1,(R.step t.l i x).2)
 |.d key aq e,x=>(.d key aq e,x)
end b8
inductive aV
 |p (s:oM)(n:Nat)
 |a (s:cR)(n:Nat)(p:Int)
 |c (s:eN)(n:Nat)(p:Int)
 |l (s:c_)(n:Nat)
 |y (s:lK)(r:Int)
 |i (s:cS)(r:Int)
 |u (s:c_)(e:Int)
 |d (e:Int)
namespace aV
def over:aV→Bool|.d _=>true|_=>false
def cz (t:Tw)(key:Int):aV→Int
 |.y _ r=>r
 |.i s r=>s.cz r
 |_=>0
def AI (n:Nat):oM→aV
 |.d q _=>.a (.p .a) n q
 |s=>.p s n
def h_ (t:Tw)(c:Int)(n:Nat)(q:Int):cR→aV
 |.d r e=>if e=0 then .y (.s 0) r else if e=7∧n<3 then .c (.new t.l c q) (n+1) q else .u (.new t.l.e c) e
 |s=>.a s n q
def step (t:Tw)(c key aq high:Int):aV→Me→aV×Me
 |.p s n,x=>(AI n (s.step t.l.e c x).1,(s.step t.l.e c x).2)
 |.a s n q,x=>(h_ t c n q (s.step t.l.a x).1,(s.step t.l.a x).2)
 |.c s n q,x=>(if(s.step t.l c q x).1.over then .l (.new t.l.e c) n else .c (s.step t.l c q x).1 n q,(s.step t.l c q x).2)
 |.l s n,x=>(if(s.step t.l.e c x).1.over then .p (.new t.l.e c) n else .l (s.step t.l.e c x).1 n,(s.step t.l.e c x).2)
 |.y s r,x=>(if(s.step t r key aq high x).1.over then .i (.f (.new t)) r else .y (s.step t r key aq high x).1 r,(s.step t r key aq high x).2)
 |.i s r,x=>(if(s.step t r key high x).1.over then .u (.new t.l.e c) 0 else .i (s.step t r key high x).1 r,(s.step t r key high x).2)
 |.u s e,x=>(if(s.step t.l.e c x).1.over then .d e else .u (s.step t.l.e c x).1 e,(s.step t.l.e c x).2)
 |.d e,x=>(.d e,x)
end aV
inductive dK
 |p (s:oM)
 |c (s:b8)
 |u (s:c_)(key aq e:Int)
 |d (key aq e:Int)
namespace dK
def over:dK→Bool|.d _ _ _=>true|_=>false
def cz:dK→Int
 |.c s=>s.cz
 |_=>0
def jL (t:Tw)(c:Int):b8→dK
 |.d key aq e=>.u (.new t.l.e c) key aq e
 |s=>.c s
def step (t:Tw)(c:Int)(look:Bool):dK→Me→dK×Me
 |.p s,x=>(if(s.step t.l.e c x).1.over then .c .a else .p (s.step t.l.e c x).1,(s.step t.l.e c x).2)
 |.c s,x=>(jL t c (s.step t look x).1,(s.step t look x).2)
 |.u s key aq e,x=>(if(s.step t.l.e c x).1.over then .d key aq e else .u (s.step t.l.e c x).1 key aq e,(s.step t.l.e c x).2)
 |.d key aq e,x=>(.d key aq e,x)
end dK
def xo (w now apart:Int):Prop:=w≠0∧(now<w-1∨now-(w-1)<apart)
instance z7 (w now apart:Int):Decidable (xo w now apart):=inferInstanceAs (Decidable (_∧_))
inductive iF
 |a
 |b (w:Int)
 |d (e:Int)
namespace iF
def over:iF→Bool|.d _=>true|_=>false
def step (cd apart now:Int):iF→Me→iF×Me
 |.a,x=>(if xo (x.word cd) now apart then .d 13 else .b (x.word cd),x.ld cd)
 |.b w,x=>(if x.eq cd w then .d 0 else .a,x.eh cd w (now+1))
 |.d e,x=>(.d e,x)
end iF
structure Jb where
 bx:Int
 keys:Int
 f:Sk
def jw (s c g:Int):Int:=s+c*256+g*4294967296
inductive dI
 |p (s:oL)
 |l (i:Int)
 |s (i w:Int)
 |d (i e:Int)
namespace dI
def over:dI→Bool|.d _ _=>true|_=>false
def jL:oL→dI
 |.d i=>if i<0 then .d 0 7 else .l i
 |z=>.p z
def step (j:Jb):dI→Me→dI×Me
 |.p z,x=>(jL (z.step j.f x).1,(z.step j.f x).2)
 |.l i,x=>(.s i (x.word (j.bx+i)),x.ld (j.bx+i))
 |.s i w,x=>(if x.eq (j.bx+i) w then .d i 0 else .l i,x.eh (j.bx+i) w (jw 2 0 ((w/4294967296+1)%4294967296)))
 |.d i e,x=>(.d i e,x)
end dI
inductive dm
 |l
 |s (w:Int)
 |p (s:jK)
 |d (e:Int)
namespace dm
def over:dm→Bool|.d _=>true|_=>false
def new (j:Jb)(i:Int):dm:=if i<0∨j.f.size≤i then .d 3 else .l
def step (j:Jb)(i:Int):dm→Me→dm×Me
 |.l,x=>(if x.word (j.bx+i)%256=5∨x.word (j.bx+i)%256=2 then .s (x.word (j.bx+i)) else .d 11,x.ld (j.bx+i))
 |.s w,x=>(if x.eq (j.bx+i) w then .p .a else .l,x.eh (j.bx+i) w (jw 1 0 (w/4294967296)))
 |.p z,x=>(if(z.step j.f i x).1.over then .d 0 else .p (z.step j.f i x).1,(z.step j.f i x).2)
 |.d e,x=>(.d e,x)
end dm
inductive bE
 |l
 |s (w:Int)
 |d (e:Int)
namespace bE
def over:bE→Bool|.d _=>true|_=>false
def new (j:Jb)(i core:Int):bE:=if i<0∨j.f.size≤i then .d 3 else if core<0∨64≤core then .d 3 else .l
def step (j:Jb)(i fr to core:Int):bE→Me→bE×Me
 |.l,x=>(if x.word (j.bx+i)%256=fr∧(fr≠4∨x.word (j.bx+i)/256%256=core) then .s (x.word (j.bx+i)) else .d 11,x.ld (j.bx+i))
 |.s w,x=>(if x.eq (j.bx+i) w then .d 0 else .l,x.eh (j.bx+i) w (jw to (if to=4 then core else 0) (w/4294967296)))
 |.d e,x=>(.d e,x)
end bE
inductive bO
 |a
 |d (w e:Int)
namespace bO
def over:bO→Bool|.d _ _=>true|_=>false
def new (j:Jb)(i:Int):bO:=if i<0∨j.f.size≤i then .d 0 3 else .a
def step (j:Jb)(i w:Int):bO→Me→bO×Me
 |.a,x=>(.d w 0,x.st (j.keys+i) w)
 |.d w e,x=>(.d w e,x)
def stepOf (j:Jb)(i:Int):bO→Me→bO×Me
 |.a,x=>(.d (x.word (j.keys+i)) 0,x.ld (j.keys+i))
 |.d w e,x=>(.d w e,x)
end bO
structure Rs where
 runs:Int
 flags:Int
 ah:Int
def tO:List Int→Nat→Nat→Int→Nat
 |[],_,b,_=>b
 |w::l,k,b,v=>if v<w then tO l (k+1) k w else tO l (k+1) b v
def cW (l:List Int):Nat:=match l with
 |[]=>0
 |w::l=>tO l 1 0 w
inductive cI
 |k (s:dK)
 |r (key:Int)(l:List Int)
 |f (w:Int)
 |d (e:Int)
namespace cI
def over:cI→Bool|.d _=>true|_=>false
def cz:cI→Int
 |.k s=>s.cz
 |_=>0
def jL:dK→cI
 |.d key _ e=>if e=0 then .r key [] else if e=15 then .d 0 else .d e
 |s=>.k s
def step (t:Tw)(r:Rs)(c:Int):cI→Me→cI×Me
 |.k s,x=>(jL (s.step t c true x).1,(s.step t c true x).2)
 |.r key l,x=>(if(l.length:Int)+1=r.ah then(if(l++[x.word (r.runs+l.length)])[cW (l++[x.word (r.runs+l.length)])]?.getD 0≤key then .d 0 else .f (cW (l++[x.word (r.runs+l.length)]))) else .r key (l++[x.word (r.runs+l.length)]),x.ld (r.runs+l.length))
 |.f w,x=>(.d 0,x.st (r.flags+w) 1)
 |.d e,x=>(.d e,x)
end cI
end
section
structure Xc where
 t:Tw
 b9:Int
 many:Int
 j:Jb
 iB:Int
 aH:Int
 room:Int
 r:Rs
 own:Int
 seq:Int
namespace Xc
def ring (x:Xc)(c:Int):Rn:=⟨x.iB+c*(x.room+2),x.iB+c*(x.room+2)+1,x.iB+c*(x.room+2)+2,x.room⟩
def rd (x:Xc)(w:Int):Int:=if w<1∨x.j.f.size<w then-1 else w-1
end Xc
structure Od where
 k:Int
 c:Int
 tk:Int
 prio:Int
 every:Int
 now:Int
 high:Int
def jM (prio seq:Int):Int:=seq*65536+prio*72057594037927936
def bU (w:Int):Prop:=254<w/72057594037927936
instance z8 (w:Int):Decidable (bU w):=inferInstanceAs (Decidable (_<_))
inductive av
 |r1 (z:iF)
 |r2 (z:dI)
 |r3 (i:Int)
 |r4 (i w:Int)(z:bO)
 |r5 (i w:Int)(z:dj)
 |r6 (i w e:Int)(z:dm)
 |t1 (z:fj)
 |t2 (i h:Int)(z:bO)
 |t3 (i h w:Int)(z:bE)
 |t4 (i h w:Int)(z:aV)
 |t5 (i w e:Int)(z:bE)
 |t6 (i h w:Int)(z:kN)
 |oN (i w:Int)(z:cI)
 |p1
 |p2 (z:dK)
 |p3 (i w:Int)(z:bE)
 |p4 (i w:Int)
 |p5 (i w:Int)
 |s1
 |s2
 |s3
 |s4 (i:Int)(z:bO)
 |s5 (i w:Int)(z:bE)
 |s6 (i w:Int)
 |s7 (i w:Int)(z:bO)
 |s8 (i w:Int)(z:aV)
 |s9 (i w:Int)
 |b1 (i w e:Int)(z:bO)
 |b2 (i w e:Int)(z:bE)
 |b3 (i w e:Int)
 |b4 (i w e:Int)
 |c1
 |c2 (i:Int)(z:bO)
 |c3 (i w:Int)(z:bE)
 |c4 (i w:Int)
 |c5 (i w:Int)
 |c6 (i w:Int)(z:dm)
 |d (i w e:Int)(none:Bool)
namespace av
def over:av→Bool|.d _ _ _ _=>true|_=>false
def cz (x:Xc)(o:Od):av→Int
 |.t4 _ _ w z=>z.cz x.t w
 |.s8 _ w z=>z.cz x.t ((w+1)%18446744073709551616)
 |.oN _ _ z=>z.cz
 |.p2 z=>z.cz
 |_=>0
def pick:av:=.p2 (.p .a)
def balance (x:Xc)(i w:Int):av:=.oN i w (.k (.p .a))
def pL (x:Xc)(o:Od):iF→av
 |.d e=>if e=0 then .r2 (.p .a) else .d 0 0 e false
 |z'=>.r1 z'
def pM (x:Xc)(o:Od):dI→av
 |.d i e=>if e=0 then .r3 i else .d 0 0 e false
 |z'=>.r2 z'
def pN (x:Xc)(o:Od)(i:Int)(w:Int):dj→av
 |.d e=>if e=0 then .d i w 0 false else .r6 i w e (.new x.j i)
 |z'=>.r5 i w z'
def l8 (x:Xc)(o:Od):fj→av
 |.d h v e=>if e=0 then(if x.j.f.size≤v then .d 0 0 5 false else .t2 v h (.new x.j v)) else .d 0 0 15 false
 |z'=>.t1 z'
def nW (x:Xc)(o:Od)(i:Int)(h:Int):bO→av
 |.d w _=>if bU w then .d 0 0 5 false else .t3 i h w (.new x.j i o.c)
 |z'=>.t2 i h z'
def pO (x:Xc)(o:Od)(i:Int)(h:Int)(w:Int):aV→av
 |.d e=>if e=0 then .t6 i h w .a else .t5 i w e (.new x.j i o.c)
 |z'=>.t4 i h w z'
def jf (x:Xc)(o:Od):dK→av
 |.d key aq e=>if e=0 then(if aq<0∨x.j.f.size≤aq then .d 0 0 5 false else .p3 aq key (.new x.j aq o.c)) else if o.k=4 then .d 0 0 0 true else .d 0 0 15 false
 |z'=>.p2 z'
def l9 (x:Xc)(o:Od)(i:Int):bO→av
 |.d w _=>if bU w then .d 0 0 5 false else if w%65536=65535 then .d 0 0 12 false else .s5 i w (.new x.j i o.c)
 |z'=>.s4 i z'
def pP (x:Xc)(o:Od)(i:Int)(w:Int):aV→av
 |.d e=>if e=0 then .s9 i w else .b1 i w e (.new x.j i)
 |z'=>.s8 i w z'
def rA (x:Xc)(o:Od)(i:Int):bO→av
 |.d w _=>.c3 i w (.new x.j i o.c)
 |z'=>.c2 i z'
def step (x:Xc)(o:Od):av→Me→av×Me
 |.r1 z,m=>(pL x o (z.step (x.b9+o.tk) o.every o.now m).1,(z.step (x.b9+o.tk) o.every o.now m).2)
 |.r2 z,m=>(pM x o (z.step x.j m).1,(z.step x.j m).2)
 |.r3 i,m=>(if(m.add x.seq 1).new<1∨1099511627775<(m.add x.seq 1).new then .r6 i 0 12 (.new x.j i) else .r4 i (jM o.prio (m.add x.seq 1).new) (.new x.j i),m.add x.seq 1)
 |.r4 i w z,m=>(if(z.step x.j i w m).1.over then .r5 i w .a else .r4 i w (z.step x.j i w m).1,(z.step x.j i w m).2)
 |.r5 i w z,m=>(pN x o i w (z.step (x.ring (o.tk%x.aH)) i m).1,(z.step (x.ring (o.tk%x.aH)) i m).2)
 |.r6 i w e z,m=>(if(z.step x.j i m).1.over then .d i w e false else .r6 i w e (z.step x.j i m).1,(z.step x.j i m).2)
 |.t1 z,m=>(l8 x o (z.step (x.ring o.c) m).1,(z.step (x.ring o.c) m).2)
 |.t2 i h z,m=>(nW x o i h (z.stepOf x.j i m).1,(z.stepOf x.j i m).2)
 |.t3 i h w z,m=>(if(z.step x.j i 2 3 o.c m).1.over then .t4 i h w (.p .a 0) else .t3 i h w (z.step x.j i 2 3 o.c m).1,(z.step x.j i 2 3 o.c m).2)
 |.t4 i h w z,m=>(pO x o i h w (z.step x.t o.c w i o.high m).1,(z.step x.t o.c w i o.high m).2)
 |.t5 i w e z,m=>(if(z.step x.j i 3 2 o.c m).1.over then .d i w e false else .t5 i w e (z.step x.j i 3 2 o.c m).1,(z.step x.j i 3 2 o.c m).2)
 |.t6 i h w z,m=>(if(z.step (x.ring o.c) h m).1.over then balance x i w else .t6 i h w (z.step (x.ring o.c) h m).1,(z.step (x.ring o.c) h m).2)
 |.oN i w z,m=>(if(z.step x.t x.r o.c m).1.over then .d i w 0 false else .oN i w (z.step x.t x.r o.c m).1,(z.step x.t x.r o.c m).2)
 |.p1,m=>(if 0≤x.rd (m.word (x.own+o.c)) then .d 0 0 11 false else pick,m.ld (x.own+o.c))
 |.p2 z,m=>(jf x o (z.step x.t o.c false m).1,(z.step x.t o.c false m).2)
 |.p3 i w z,m=>(if(z.step x.j i 3 4 o.c m).1.over then .p4 i w else .p3 i w (z.step x.j i 3 4 o.c m).1,(z.step x.j i 3 4 o.c m).2)
 |.p4 i w,m=>(.p5 i w,m.st (x.own+o.c) (i+1))
 |.p5 i w,m=>(balance x i w,m.st (x.r.runs+o.c) w)
 |.s1,m=>(if m.word (x.r.flags+o.c)=0 then .d 0 0 15 false else .s2,m.ld (x.r.flags+o.c))
 |.s2,m=>(.s3,m.st (x.r.flags+o.c) 0)
 |.s3,m=>(if x.rd (m.word (x.own+o.c))<0 then pick else .s4 (x.rd (m.word (x.own+o.c))) (.new x.j (x.rd (m.word (x.own+o.c)))),m.ld (x.own+o.c))
 |.s4 i z,m=>(l9 x o i (z.stepOf x.j i m).1,(z.stepOf x.j i m).2)
 |.s5 i w z,m=>(if(z.step x.j i 4 3 o.c m).1.over then .s6 i w else .s5 i w (z.step x.j i 4 3 o.c m).1,(z.step x.j i 4 3 o.c m).2)
 |.s6 i w,m=>(.s7 i w (.new x.j i),m.st (x.r.runs+o.c) 18446744073709551615)
 |.s7 i w z,m=>(if(z.step x.j i ((w+1)%18446744073709551616) m).1.over then .s8 i w (.p .a 0) else .s7 i w (z.step x.j i ((w+1)%18446744073709551616) m).1,(z.step x.j i ((w+1)%18446744073709551616) m).2)
 |.s8 i w z,m=>(pP x o i w (z.step x.t o.c ((w+1)%18446744073709551616) i o.high m).1,(z.step x.t o.c ((w+1)%18446744073709551616) i o.high m).2)
 |.s9 i w,m=>(pick,m.st (x.own+o.c) 0)
 |.b1 i w e z,m=>(if(z.step x.j i w m).1.over then .b2 i w e (.new x.j i o.c) else .b1 i w e (z.step x.j i w m).1,(z.step x.j i w m).2)
 |.b2 i w e z,m=>(if(z.step x.j i 3 4 o.c m).1.over then .b3 i w e else .b2 i w e (z.step x.j i 3 4 o.c m).1,(z.step x.j i 3 4 o.c m).2)
 |.b3 i w e,m=>(.b4 i w e,m.st (x.r.runs+o.c) w)
 |.b4 i w e,m=>(.d i w e false,m.st (x.r.flags+o.c) 1)
 |.c1,m=>(if x.rd (m.word (x.own+o.c))<0 then .d 0 0 15 false else .c2 (x.rd (m.word (x.own+o.c))) (.new x.j (x.rd (m.word (x.own+o.c)))),m.ld (x.own+o.c))
 |.c2 i z,m=>(rA x o i (z.stepOf x.j i m).1,(z.stepOf x.j i m).2)
 |.c3 i w z,m=>(if(z.step x.j i 4 5 o.c m).1.over then .c4 i w else .c3 i w (z.step x.j i 4 5 o.c m).1,(z.step x.j i 4 5 o.c m).2)
 |.c4 i w,m=>(.c5 i w,m.st (x.own+o.c) 0)
 |.c5 i w,m=>(.c6 i w (.new x.j i),m.st (x.r.runs+o.c) 18446744073709551615)
 |.c6 i w z,m=>(if(z.step x.j i m).1.over then balance x i w else .c6 i w (z.step x.j i m).1,(z.step x.j i m).2)
 |.d i w e n,m=>(.d i w e n,m)
def first (k:Int):av:=if k=1 then .r1 .a else if k=2 then .t1 .a else if k=3 then .p1 else if k=4 then .s1 else .c1
end av
end
section
noncomputable def EM:ef:=⟨Tryz.prog,Tryz.iP,⟨RN [(31, .bool true)],KE.x⟩⟩
inductive Zz (M:ef):AC→AH→hX→Prop
 |a {g:Bool}{o k S Q}(h:Zz M (.op o k) S Q):Zz M (.sG (B g) g o k) S Q
 |b {g:Bool}{o k S Q}(h:Zz M (k uv) S Q):Zz M (.sG (B g) (!g) o k) S Q
 |c {g:Bool}{o k S Q}(h:Zz M (k uv) S Q):Zz M (.sG uv g o k) S Q
 |d {g:Bool}{f l k S Q}(h:Zz M (.call f l k) S Q):Zz M (.hG (B g) g f l k) S Q
 |e {g:Bool}{f l k S Q}(h:Zz M (k uv) S Q):Zz M (.hG (B g) (!g) f l k) S Q
 |f {g:Bool}{f l k S Q}(h:Zz M (k uv) S Q):Zz M (.hG uv g f l k) S Q
 |g {x y S Q}(h:Zz M x S Q):Zz M (.ite (B true) x y) S Q
 |h {x y S Q}(h:Zz M y S Q):Zz M (.ite (B false) x y) S Q
 |i {n o f:Nat}{k S Q}(h:Zz M (k (.ptr n (Nat.add o f))) S Q):Zz M (.op (.nN f (.ptr n o)) k) S Q
 |j {n o:Nat}{k S Q}(h:Zz M (k (.ptr n o)) S Q):Zz M (.op (.n_ (.ptr n o)) k) S Q
 |k {x k S Q}(h:Zz M (k x) S Q):Zz M (.op (.mv x) k) S Q
 |l {x y k S Q}(h:Zz M (k x) S Q):Zz M (.op (.pick (B true) x y) k) S Q
 |m {x y k S Q}(h:Zz M (k y) S Q):Zz M (.op (.pick (B false) x y) k) S Q
 |n {x l k S Q}(h:Zz M (k x) S Q):Zz M (.op (.extract 0 (.cP (x::l))) k) S Q
 |o {x y l k S Q}(h:Zz M (k y) S Q):Zz M (.op (.extract 1 (.cP (x::y::l))) k) S Q
 |p {x y z l k S Q}(h:Zz M (k z) S Q):Zz M (.op (.extract 2 (.cP (x::y::z::l))) k) S Q
 |z {x S Q}(h:True→wp M x S Q):Zz M x S Q
theorem zz {M x S Q}(h:Zz M x S Q):wp M x S Q:=by
 induction h with
 |a h ih=>exact dS ih
 |b h ih=>exact dG rfl ih
 |c h ih=>exact dT ih
 |d h ih=>exact cw ih
 |e h ih=>exact cj rfl ih
 |f h ih=>exact cy ih
 |g h ih=>exact cD ih
 |h h ih=>exact cE ih
 |i h ih=>exact dh ih
 |j h ih=>exact dC ih
 |k h ih=>exact ae rfl ih
 |l h ih=>exact ae rfl ih
 |m h ih=>exact ae rfl ih
 |n h ih=>exact ae rfl ih
 |o h ih=>exact ae rfl ih
 |p h ih=>exact ae rfl ih
 |z h=>exact h trivial
def Fv (v:AV):Prop:=ep v=false∧v.cells=[v]
abbrev zF (n:Nat):AV:=.fn (.func n) [] []
theorem Mm {α:Type}{a:α}{l:List α}(h:a∈l:=by repeat (first|exact List.Mem.head _|apply List.Mem.tail)):a∈l:=h
theorem lA {α:Type}{a:α}{x y:List α}:(a::x)++y=a::(x++y):=rfl
theorem lB {α:Type}{x:List α}:[]++x=x:=rfl
theorem lC {α:Type}(x y z:List α):(x++y)++z=x++(y++z):=List.append_assoc x y z
theorem xp {x c}{j:Nat}(hj:j<x.length):aL x j [c]=x.set j c:=by
 apply List.ext_getElem?
 intro i
 rw[lH (by simp;omega),List.getElem?_set]
 by_cases h:j=i
 ·subst h;simp[hj]
 ·rw[if_neg (by simp;omega),if_neg h]
theorem jg {M:ef}{S:AH}{t id off:Nat}{n:Bool}(ht:iI M.P t=1):evalOp M.P (.eq t n (.ptr id off) Np) S=some (B n,S):=by
 show et (DA M.P t n (.ptr id off) Np) S=_
 unfold DA
 rw[FD ht]
 cases n<;>rfl
section
variable{B0 S:AH}{W:List Nat}{own R:List Own}{ro:List aQ}{Q:hX}{k:AV→AC}{v:AV}{m bl w:Nat}{x:Me}{rest:List AV}
theorem bF {M}(H:Cx B0 W S own ro)(n:Nat){id j:Nat}{c v}(hm:own[n]?=some (.obj id (.row c)))(hj:c[j]?=some v)(h:wp M (k v) S Q):wp M (.op (.load 1 false (.ptr id j)) k) S Q:=tI H n hm hj h
theorem gx {M}(H:Cx B0 W S own ro)(n:Nat){id j:Nat}{c v}(hm:own[n]?=some (.obj id (.row c)))(hj:j<c.length)(hv:Fv v)(h:∀S1,Cx B0 W S1 (own.set n (.obj id (.row (c.set j v)))) ro→wp M (k uv) S1 Q):
  wp M (.op (.store 1 (.ptr id j) v) k) S Q:=
 fI H n hm hv.1 (by rw[hv.2];rfl) (by omega) fun S1 H1=>h S1 (by rw[hv.2,xp hj] at H1;exact H1)
theorem FO {M}{len es id o i:Nat}(hi:i<len)(h:wp M (k (.ptr id (o+i*es))) S Q):wp M (.op (.xZ len es (.ptr id o) (I (i:Int))) k) S Q:=by
 refine ae (v:=.ptr id (o+i*es)) ?_ h
 have h3:mq (I (i:Int)) len=some i:=by
  show below i len=some i
  unfold below;rw[dy (by omega)]
 show et (mw len es (.ptr id o) (I (i:Int))) S=_
 unfold mw
 simp only[h3]
 rfl
theorem xq {a:Int}(hx:x.gd)(H:Cx B0 W S (ad m bl x rest++R) ro):aO EM (zF 77) [.ptr m 0,I a] S fun r S'=>r=(if x.has a then .ptr bl a.toNat else Np)∧S'=S:=by
 refine bg (b:=Tryz.a77) rfl rfl ?_
 rw[Tryz.u77]
 have hx:=hx.1
 refine ae (jg (by kernel_rfl)) ?_
 (try(refine zz ?_;(repeat constructor);intro _))
 refine bF (j:=0) H 0 rfl rfl ?_
 (try(refine zz ?_;(repeat constructor);intro _))
 refine ae (jg (by kernel_rfl)) ?_
 (try(refine zz ?_;(repeat constructor);intro _))
 refine fE (fun h0=>?_) (fun h0=>?_)
 ·(try(refine zz ?_;(repeat constructor);intro _))
  exact wp_ret ⟨rfl,by rw[if_neg (fun h=>by have:=h.1;omega)];rfl,rfl⟩
 (try(refine zz ?_;(repeat constructor);intro _))
 refine bF (j:=1) H 0 rfl rfl ?_
 (try(refine zz ?_;(repeat constructor);intro _))
 refine jb (fun h1=>?_) (fun h1=>?_)
 ·(try(refine zz ?_;(repeat constructor);intro _))
  exact wp_ret ⟨rfl,by rw[if_neg (fun h=>by have:=h.2;omega)];rfl,rfl⟩
 (try(refine zz ?_;(repeat constructor);intro _))
 refine bF (j:=0) H 0 rfl rfl ?_
 (try(refine zz ?_;(repeat constructor);intro _))
 obtain⟨n,rfl⟩:∃n:Nat,a=(n:Int):=⟨a.toNat,by omega⟩
 refine FO (i:=n) (by omega) ?_
 refine wp_ret ⟨rfl,?_,rfl⟩
 rw[if_pos ⟨by omega,by omega⟩]
 have e:0+n*1=n:=by omega
 rw[e,Int.toNat_natCast];rfl
theorem pQ {a:Nat}{z:Int}(h:x.ws[a]?=some z):(x.ws.map U++rest)[a]?=some (U z):=by
 have:=(List.getElem?_eq_some_iff.1 h).1
 rw[List.getElem?_append_left (by simpa using this),List.getElem?_map,h];rfl
theorem HZ {a:Nat}{z:Int}(h:a<x.ws.length):(x.ws.map U++rest).set a (U z)=(x.ws.set a z).map U++rest:=by
 rw[List.set_append_left _ _ (by simpa using h),List.map_set]
theorem C4:aO EM (zF 172) [Np] S fun r S'=>r=B false∧S'=S:=by
 refine bg (b:=Tryz.a172) rfl rfl ?_
 rw[Tryz.u172]
 refine ae (S1:=S) (v:=B false) (by kernel_rfl) ?_
 exact wp_ret ⟨rfl,rfl,rfl⟩
theorem C5 {id o:Nat}:aO EM (zF 172) [.ptr id o] S fun r S'=>r=B true∧S'=S:=by
 refine bg (b:=Tryz.a172) rfl rfl ?_
 rw[Tryz.u172]
 refine ae (jg (by kernel_rfl)) ?_
 exact wp_ret ⟨rfl,rfl,rfl⟩
def nO (x:Me)(rest:List AV):List AV:=x.ws.map U++rest
theorem Pe {kind a z:Int}{held:Bool}{WW:AV}(hx:x.gd)(H:Cx B0 W S (ad m bl x rest++R) ro)
  (UG:x.has a→∀{S1:AH} {R1:List Own},Cx B0 W S1 (.obj bl (.row (nO x rest))::R1) ro→aO EM WW [] S1 fun r S'=>r=.cP [U z,B held]∧Cx B0 W S' (.obj bl (.row (nO x rest))::R1) ro):
  aO EM (zF 78) [.ptr m 0,I kind,I a,(if x.has a then .ptr bl a.toNat else Np),WW] S fun r S'=>r=.agg (x.acc kind a z held).last∧Cx B0 W S' (ad m bl (x.acc kind a z held) rest++R) ro:=by
 refine bg (b:=Tryz.a78) rfl rfl ?_
 rw[Tryz.u78]
 have hx:=hx.1
 refine xg ?_
 refine gr H fun q S1 H=>?_
 refine ae (jg (by kernel_rfl)) ?_
 (try(refine zz ?_;(repeat constructor);intro _))
 refine bF (j:=0) H 1 rfl rfl ?_
 (try(refine zz ?_;(repeat constructor);intro _))
 refine ae (jg (by kernel_rfl)) ?_
 (try(refine zz ?_;(repeat constructor);intro _))
 refine bF (j:=7) H 1 rfl rfl ?_
 refine cg (by omega) (by omega) ?_
 (try(refine zz ?_;(repeat constructor);intro _))
 refine gx (j:=7) H 1 rfl (by simp[Me.rW,Me.last]) ⟨rfl,rfl⟩ fun S2 H=>?_
 refine ae (v:=.agg [I kind,I a,U 0,U 0,B false]) rfl ?_
 (try(refine zz ?_;(repeat constructor);intro _))
 refine fI (off:=2) (n:=5) H 1 rfl rfl rfl (Nat.le_of_ble_eq_true rfl) fun S3 H=>?_
 have H:Cx B0 W S3 (.obj q (.row [I 0,I 0,U 0,U 0,B false])::(ad m bl ⟨x.ws,kind,a,0,0,false,x.n+1⟩ rest++R)) ro:=H
 have fin:∀{S4:AH} {y:Me},Cx B0 W S4 (.obj q (.row [I 0,I 0,U 0,U 0,B false])::(ad m bl y rest++R)) ro→wp EM (.op (.n_ (.ptr m 0)) fun Zu=>.op (.nN 2 Zu) fun Zv=>.op (.load 5 true Zv) fun Zw=>.op (.store 5 (.ptr q 0) Zw) fun Zy=>.ret .ret [.ptr q 0]) S4 fun t vs S'=>(t=.normal∨t=.ret)∧wp EM (.op (.load 5 true (nth vs 0)) fun v2=>.ret .ret [v2]) S' fun t vs S'=>t=.ret∧oneOf vs=.agg y.last∧Cx B0 W S' (ad m bl y rest++R) ro:=by
  intro S4 y H
  (try(refine zz ?_;(repeat constructor);intro _))
  refine gN (off:=2) (n:=5) H 1 rfl (Nat.le_of_ble_eq_true rfl) ?_
  refine fI (n:=5) (v:=.agg y.last) H 0 rfl rfl rfl (Nat.le_of_ble_eq_true rfl) fun S5 H=>?_
  have H:Cx B0 W S5 (.obj q (.row y.last)::(ad m bl y rest++R)) ro:=H
  refine wp_ret ⟨.inr rfl,?_⟩
  refine gN (off:=0) (n:=5) H 0 rfl (Nat.le_of_ble_eq_true rfl) ?_
  exact wp_ret ⟨rfl,rfl,H.iz 0⟩
 by_cases hh:x.has a
 ·rw[if_pos hh]
  have FP:x.acc kind a z held=⟨x.ws.set a.toNat z,kind,a,x.word a,z,held,x.n+1⟩:=if_pos hh
  obtain⟨n,rfl⟩:∃n:Nat,a=(n:Int):=⟨a.toNat,by have:=hh.1;omega⟩
  have hn:n<x.ws.length:=by have:=hh.2;omega
  have hw:x.ws[n]?=some x.ws[n]:=List.getElem?_eq_getElem hn
  generalize x.ws[n]=iK at hw
  rw[FP,Me.sw hw]
  rw[Int.toNat_natCast] at*
  refine b5 (az C5 fun r S4 qq=>?_)
  obtain⟨rfl,rfl⟩:=qq
  refine wp_bind ?_
  (try(refine zz ?_;(repeat constructor);intro _))
  have K:=H.gw (ab:=.obj bl (.row (nO x rest))::.obj q (.row [I 0,I 0,U 0,U 0,B false])::.obj m (.row (Me.rW ⟨x.ws,kind,n,0,0,false,x.n+1⟩ bl))::R) (List.perm_middle (l₁:=[_,_]) (l₂:=R))
  refine b5 (az (UG hh K) fun r S5 qq=>?_)
  obtain⟨rfl,K⟩:=qq
  (try(refine zz ?_;(repeat constructor);intro _))
  refine bF (j:=n) K 0 rfl (pQ hw) ?_
  (try(refine zz ?_;(repeat constructor);intro _))
  refine gx (j:=4) K 2 rfl (Nat.le_of_ble_eq_true rfl) ⟨rfl,rfl⟩ fun S6 K=>?_
  (try(refine zz ?_;(repeat constructor);intro _))
  refine gx (j:=5) K 2 rfl (Nat.le_of_ble_eq_true rfl) ⟨rfl,rfl⟩ fun S7 K=>?_
  (try(refine zz ?_;(repeat constructor);intro _))
  refine gx (j:=6) K 2 rfl (Nat.le_of_ble_eq_true rfl) ⟨rfl,rfl⟩ fun S8 K=>?_
  (try(refine zz ?_;(repeat constructor);intro _))
  refine gx (j:=n) K 0 rfl (by simp[nO];omega) ⟨rfl,rfl⟩ fun S9 K=>?_
  refine wp_ret ?_
  show wp EM _ _ _
  have e:(nO x rest).set n (U z)=(x.ws.set n z).map U++rest:=HZ hn
  have K:Cx B0 W S9 (.obj bl (.row ((nO x rest).set n (U z)))::.obj q (.row [I 0,I 0,U 0,U 0,B false])::.obj m (.row (Me.rW ⟨x.ws,kind,n,iK,z,held,x.n+1⟩ bl))::R) ro:=K
  rw[e] at K
  have hp:Me.rW ⟨x.ws.set n z,kind,n,iK,z,held,x.n+1⟩ bl=Me.rW ⟨x.ws,kind,n,iK,z,held,x.n+1⟩ bl:=by unfold Me.rW;rw[List.length_set];rfl
  have K:=K.gw (ab:=.obj q (.row [I 0,I 0,U 0,U 0,B false])::.obj m (.row (Me.rW ⟨x.ws,kind,n,iK,z,held,x.n+1⟩ bl))::.obj bl (.row ((x.ws.set n z).map U++rest))::R) (List.perm_middle (l₁:=[_,_]) (l₂:=R)).symm
  refine fin (y:=⟨x.ws.set n z,kind,n,iK,z,held,x.n+1⟩) ?_
  unfold ad
  rw[hp]
  exact K
 ·rw[if_neg hh]
  have FP:x.acc kind a z held=⟨x.ws,kind,a,0,0,false,x.n+1⟩:=if_neg hh
  rw[FP]
  refine b5 (az C4 fun r S4 qq=>?_)
  obtain⟨rfl,rfl⟩:=qq
  refine wp_bind ?_
  (try(refine zz ?_;(repeat constructor);intro _))
  refine wp_ret ?_
  show wp EM _ _ _
  exact fin H
def Me.at (x:Me)(bl:Nat)(a:Int):AV:=if x.has a then .ptr bl a.toNat else Np
theorem Me.FQ (x:Me)(bl:Nat)(a:Int):x.at bl a=Np∨∃i o,x.at bl a=.ptr i o:=by
 unfold Me.at;split
 ·exact .inr ⟨_,_,rfl⟩
 ·exact .inl rfl
theorem nC {kind a y y' z:Int}{held:Bool}{d:Nat}{kk}(hx:x.gd)
  (hd:x.has a→∀{S1} {R1},Cx B0 W S1 (.obj bl (.row (nO x rest))::R1) ro→aO EM (.fn (.func d) [.agg [x.at bl a,U y,U y']] []) [] S1 fun r S'=>r=.cP [U z,B held]∧Cx B0 W S' (.obj bl (.row (nO x rest))::R1) ro)
  (H:Cx B0 W S (ad m bl x rest++R) ro) {ps} (ZA:∀c:AV,Fv c→fx [Np,U 0,U 0] ((0,1,c)::ps)=some [c,U y,U y'])
  (h:∀S',Cx B0 W S' (ad m bl (x.acc kind a z held) rest++R) ro→wp EM (kk (.agg (x.acc kind a z held).last)) S' Q):
  wp EM (.call (zF 77) [.ptr m 0,I a] fun v1=>.op (.build [Np,U 0,U 0] ((0,1,v1)::ps)) fun v2=>.op (.alloc [Np,U 0,U 0]) fun v3=>.op (.store 3 v3 v2) fun v4=>.op (.nN 0 v3) fun v5=>.op (.load 1 false v5) fun v6=>.op (.load 3 true v3) fun v7=>.call (zF 78) [.ptr m 0,I kind,I a,v6,.fn (.func d) [v7] []] kk) S Q:=by
 refine b5 (az (xq hx H) fun r S1 q=>?_)
 obtain⟨rfl,rfl⟩:=q
 have WX:∀{S:AH},Cx B0 W S (ad m bl x rest++R) ro→aO EM (zF 78) [.ptr m 0,I kind,I a,x.at bl a,.fn (.func d) [.agg [x.at bl a,U y,U y']] []] S fun r S'=>r=.agg (x.acc kind a z held).last∧Cx B0 W S' (ad m bl (x.acc kind a z held) rest++R) ro:=
  fun H=>Pe hx H hd
 change wp EM (.op (.build [Np,U 0,U 0] ((0,1,x.at bl a)::ps)) _) _ _
 have hc:=x.FQ bl a
 generalize x.at bl a=c at hc WX
 have ho:Fv c:=by rcases hc with rfl|⟨i,o,rfl⟩<;>exact⟨rfl,rfl⟩
 refine ae (v:=.agg [c,U y,U y']) (by show et (jX _ _) S1=_;unfold jX;rw[ZA c ho];rfl) ?_
 refine gr H fun q S2 H=>?_
 refine fI (n:=3) H 0 (c:=[Np,U 0,U 0]) rfl rfl rfl (by simp) fun S3 H=>?_
 have H:Cx B0 W S3 (.obj q (.row [c,U y,U y'])::(ad m bl x rest++R)) ro:=H
 (try(refine zz ?_;(repeat constructor);intro _))
 refine bF (j:=0) H 0 rfl rfl ?_
 refine gN (off:=0) (n:=3) H 0 rfl (by simp) ?_
 refine b5 (az (WX (H.iz 0)) fun r S4 qq=>?_)
 obtain⟨rfl,H⟩:=qq
 exact h S4 H
theorem Pf {c}(h:Fv c):fx [Np,U 0,U 0] [(0,1,c)]=some [c,U 0,U 0]:=by
 unfold fx
 rw[h.1,h.2];rfl
theorem Jx {c}{a:Int}(h:Fv c):fx [Np,U 0,U 0] [(0,1,c),(1,1,U a)]=some [c,U a,U 0]:=by
 unfold fx
 rw[h.1,h.2];rfl
theorem Pg {c}{a b:Int}(h:Fv c):fx [Np,U 0,U 0] [(0,1,c),(1,1,U a),(2,1,U b)]=some [c,U a,U b]:=by
 unfold fx
 rw[h.1,h.2];rfl
theorem xr {a:Int}(h:x.has a):∃n:Nat,a=n∧x.ws[n]?=some (x.word a):=by
 obtain⟨n,rfl⟩:∃n:Nat,a=(n:Int):=⟨a.toNat,by have:=h.1;omega⟩
 have hn:n<x.ws.length:=by have:=h.2;omega
 have hw:x.ws[n]?=some x.ws[n]:=List.getElem?_eq_getElem hn
 exact⟨n,rfl,by rw[Me.sw hw];exact hw⟩
theorem KZ {c}{z o:Int}(H:Cx B0 W S own ro):aO EM (.fn (.func 79) [.agg [c,U z,U o]] []) [] S fun r S'=>r=.cP [U z,B true]∧Cx B0 W S' own ro:=by
 refine bg (b:=Tryz.a79) rfl rfl ?_
 rw[Tryz.u79]
 refine fq H rfl fun p S1 H=>?_
 (try(refine zz ?_;(repeat constructor);intro _))
 refine bF (j:=1) H 0 rfl rfl ?_
 exact wp_ret ⟨rfl,rfl,H.iz 0⟩
theorem K0 {n:Nat}{z a b:Int}{c}(hc:c[n]?=some (U z))(H:Cx B0 W S (.obj bl (.row c)::own) ro):aO EM (.fn (.func 422) [.agg [.ptr bl n,U a,U b]] []) [] S fun r S'=>r=.cP [U z,B false]∧Cx B0 W S' (.obj bl (.row c)::own) ro:=by
 refine bg (b:=Tryz.a422) rfl rfl ?_
 rw[Tryz.u422]
 refine fq H rfl fun p S1 H=>?_
 (try(refine zz ?_;(repeat constructor);intro _))
 refine bF (j:=0) H 0 rfl rfl ?_
 (try(refine zz ?_;(repeat constructor);intro _))
 refine bF (j:=n) H 1 rfl hc ?_
 exact wp_ret ⟨rfl,rfl,H.iz 0⟩
theorem H0 {n:Nat}{z a b:Int}{c}(hc:c[n]?=some (U z))(H:Cx B0 W S (.obj bl (.row c)::own) ro):aO EM (.fn (.func 378) [.agg [.ptr bl n,U a,U b]] []) [] S fun r S'=>r=.cP [U ((z+a)%18446744073709551616),B true]∧Cx B0 W S' (.obj bl (.row c)::own) ro:=by
 refine bg (b:=Tryz.a378) rfl rfl ?_
 rw[Tryz.u378]
 refine fq H rfl fun p S1 H=>?_
 (try(refine zz ?_;(repeat constructor);intro _))
 refine bF (j:=0) H 0 rfl rfl ?_
 (try(refine zz ?_;(repeat constructor);intro _))
 refine bF (j:=n) H 1 rfl hc ?_
 (try(refine zz ?_;(repeat constructor);intro _))
 refine bF (j:=1) H 0 rfl rfl ?_
 refine tC (by rw[bo,IntKind.wrap_u64]) ?_
 exact wp_ret ⟨rfl,rfl,H.iz 0⟩
theorem FT {n:Nat}{z a b:Int}{c}(hc:c[n]?=some (U z))(H:Cx B0 W S (.obj bl (.row c)::own) ro):aO EM (.fn (.func 585) [.agg [.ptr bl n,U a,U b]] []) [] S fun r S'=>r=.cP [U (if z=a then b else z),B (decide (z=a))]∧Cx B0 W S' (.obj bl (.row c)::own) ro:=by
 refine bg (b:=Tryz.a585) rfl rfl ?_
 rw[Tryz.u585]
 refine fq H rfl fun p S1 H=>?_
 (try(refine zz ?_;(repeat constructor);intro _))
 refine bF (j:=0) H 0 rfl rfl ?_
 (try(refine zz ?_;(repeat constructor);intro _))
 refine bF (j:=n) H 1 rfl hc ?_
 (try(refine zz ?_;(repeat constructor);intro _))
 refine bF (j:=1) H 0 rfl rfl ?_
 by_cases e:z=a
 ·refine yN e ?_
  (try(refine zz ?_;(repeat constructor);intro _))
  refine bF (j:=2) H 0 rfl rfl ?_
  exact wp_ret ⟨rfl,by rw[if_pos e,decide_eq_true e];rfl,H.iz 0⟩
 ·refine tF e ?_
  (try(refine zz ?_;(repeat constructor);intro _))
  refine bF (j:=0) H 0 rfl rfl ?_
  (try(refine zz ?_;(repeat constructor);intro _))
  refine bF (j:=n) H 1 rfl hc ?_
  exact wp_ret ⟨rfl,by rw[if_neg e,decide_eq_false e];rfl,H.iz 0⟩
end
section
variable{m bl:Nat}{x:Me}{rest:List AV}{R0:List Own}
theorem AJ {a:Int}{n:Nat}(h:x.has a)(e:a=n):x.at bl a=.ptr bl n:=by unfold Me.at;rw[if_pos h,e,Int.toNat_natCast]
instance UH {a z:Int}:SC EM (zF 16) [.ptr m 0,I a,U z] (ad m bl x rest++R0) x.gd uv (ad m bl (x.st a z) rest++R0) where
 ok:=fun hx ro R B W S H=>by
  rw[lC] at H
  refine bg (b:=Tryz.a16) rfl rfl ?_
  rw[Tryz.u16]
  refine nC (y:=z) (y':=0) (z:=z) (held:=true) hx (fun hh S1 R1 H=>KZ H) H (fun c hc=>Jx hc) fun S' H=>?_
  exact wp_ret ⟨rfl,rfl,by rw[lC];exact H⟩
instance WY {a:Int}:SC EM (zF 298) [.ptr m 0,I a] (ad m bl x rest++R0) x.gd (U (x.word a)) (ad m bl (x.ld a) rest++R0) where
 ok:=fun hx ro R B W S H=>by
  rw[lC] at H
  refine bg (b:=Tryz.a298) rfl rfl ?_
  rw[Tryz.u298]
  refine nC (y:=0) (y':=0) (z:=x.word a) (held:=false) hx (fun hh S1 R1 H=>?_) H (fun c hc=>Pf hc) fun S' H=>?_
  ·obtain⟨n,e,hw⟩:=xr hh
   rw[AJ hh e]
   exact K0 (pQ hw) H
  refine ae (v:=U (x.acc 1 a (x.word a) false).new) rfl ?_
  refine wp_ret ⟨rfl,?_,by rw[lC];exact H⟩
  show U _=U _
  congr 2
  unfold Me.acc Me.word
  split<;>rfl
instance ZB {a z:Int}:SC EM (zF 268) [.ptr m 0,I a,U z] (ad m bl x rest++R0) x.gd (U (x.add a z).new) (ad m bl (x.add a z) rest++R0) where
 ok:=fun hx ro R B W S H=>by
  rw[lC] at H
  refine bg (b:=Tryz.a268) rfl rfl ?_
  rw[Tryz.u268]
  refine nC (y:=z) (y':=0) (z:=(x.word a+z)%18446744073709551616) (held:=true) hx (fun hh S1 R1 H=>?_) H (fun c hc=>Jx hc) fun S' H=>?_
  ·obtain⟨n,e,hw⟩:=xr hh
   rw[AJ hh e]
   exact H0 (pQ hw) H
  refine ae (v:=U (x.add a z).new) rfl ?_
  exact wp_ret ⟨rfl,rfl,by rw[lC];exact H⟩
instance ZC {a o z:Int}:SC EM (zF 543) [.ptr m 0,I a,U o,U z] (ad m bl x rest++R0) x.gd (B (decide (x.eq a o))) (ad m bl (x.eh a o z) rest++R0) where
 ok:=fun hx ro R B W S H=>by
  rw[lC] at H
  refine bg (b:=Tryz.a543) rfl rfl ?_
  rw[Tryz.u543]
  refine nC (y:=o) (y':=z) (z:=if x.word a=o then z else x.word a) (held:=decide (x.word a=o)) hx (fun hh S1 R1 H=>?_) H (fun c hc=>Pg hc) fun S' H=>?_
  ·obtain⟨n,e,hw⟩:=xr hh
   rw[AJ hh e]
   exact FT (pQ hw) H
  refine ae (v:=cY.B (x.eh a o z).held) rfl ?_
  exact wp_ret ⟨rfl,by rw[Me.yU];rfl,by rw[lC];exact H⟩
end
end
section
theorem ZD {p:Prop} (h:p:=by first
 |assumption|omega|exact⟨rfl,rfl⟩|(refine Me.ai ?_ _;assumption)|(refine⟨Me.ai ?_ _,?_⟩;assumption;omega)|(show AV.beq _ _=true;simp[AV.beq,o8,aP,fD];(first|done|fail))|(simp only[Int.reducePow] at*;omega)|(show iI _ _=_;kernel_rfl)|(show Program.underlying _ _=_;kernel_rfl)|(refine⟨?_,?_⟩;simp;simp;(first|done|fail))):p:=h
theorem HQ {a b}(h:Hq a b:=by repeat' constructor):Hs a b:=h.hs
theorem ZL {p:Prop} (h:p:=by first
 |assumption|omega|exact⟨rfl,rfl⟩|(refine Me.ai ?_ _;assumption)|(refine⟨Me.ai ?_ _,?_⟩;assumption;omega)|(show AV.beq _ _=true;simp[AV.beq,o8,aP,fD];(first|done|fail))|(simp only[Int.reducePow] at*;omega)|(show iI _ _=_;kernel_rfl)|(show Program.underlying _ _=_;kernel_rfl)|(refine⟨?_,?_⟩;simp;simp;(first|done|fail))):ck p:=ck.of h
class Un (p:Prop)(q:outParam Prop):Prop where
 u:q→p
instance(priority:=10){p:Prop}:Un p p:=⟨id⟩
instance z9 {p:Prop}:Un (ck p) p:=⟨ck.of⟩
theorem zL {p q:Prop}[c:Un p q](h:q):p:=c.u h
theorem ZM {p:Prop}(h:p:=by first|exact ZL|exact ZD):p:=h
theorem zT:ck True:=ck.of trivial
theorem ZE {α:Type}{a b:α}(h:a=b:=by exact ZD):a=b:=h
theorem ZQ {p:Prop}(h:p:=by first|(intro _;exfalso;omega)|assumption|exact zT|exact ZL|exact ZE):p:=h
theorem Ph {a b i:Nat}(hb:b<2^i):a*2^i|||b=a*2^i+b:=by
 have:=Nat.shiftLeft_add_eq_or_of_lt hb a
 rw[Nat.shiftLeft_eq] at this
 exact this.symm
theorem qG {a b:Int}{i:Nat}(ha:0≤a)(hb:0≤b)(h:b<2^i):mj (a*2^i) b=a*2^i+b:=by
 obtain⟨m,rfl⟩:∃m:Nat,a=m:=⟨a.toNat,by omega⟩
 obtain⟨n,rfl⟩:∃n:Nat,b=n:=⟨b.toNat,by omega⟩
 have e:(m:Int)*2^i=((m*2^i:Nat):Int):=by simp
 have hn:n<2^i:=by
  have:((2:Int)^i)=((2^i:Nat):Int):=by simp
  rw[this] at h
  omega
 unfold mj
 rw[e,Int.toNat_natCast,Int.toNat_natCast,Ph hn]
 omega
theorem kh {a b:Int}{i:Nat}(ha:0≤a)(hb:0≤b)(h:b<2^i):mj b (a*2^i)=a*2^i+b:=by
 have:mj b (a*2^i)=mj (a*2^i) b:=by unfold mj;rw[Nat.or_comm]
 rw[this,qG ha hb h]
theorem BX {m n:Nat}(h:m≤n):(2:Int)^m≤2^n:=by
 have:=Nat.pow_le_pow_right (n:=2) (by omega) h
 have e1:((2:Int)^m)=((2^m:Nat):Int):=by simp
 have e2:((2:Int)^n)=((2^n:Nat):Int):=by simp
 omega
theorem xt (n:Nat):(1:Int)≤2^n:=by
 have e1:((2:Int)^n)=((2^n:Nat):Int):=by simp
 have:=Nat.one_le_two_pow (n:=n)
 omega
theorem pR {S}{w:Int}{f n:Nat}(hw:Me.ar w)(hf:f≤63)(hn:n≤62):aO EM (zF 498) [U w,.agg [I (Int.ofNat f),I (Int.ofNat n)]] S fun r S'=>r=I (w/2^f%2^n)∧aY S S':=by
 refine bg (b:=Tryz.a498) rfl rfl ?_
 have H:Cx S [] S [] []:=Cx.enter (by simp)
 rw[Tryz.u498]
 unfold Me.ar at hw
 have h1:=BX (m:=n) (n:=62) hn
 have h2:=xt n
 have h3:=xt f
 have h4:w/2^f≤w:=Int.ediv_le_self _ hw.1
 have h5:0≤w/2^f:=Int.ediv_nonneg hw.1 (by omega)
 have h6:=Int.emod_lt_of_pos (w/2^f) (show(0:Int)<2^n by omega)
 have h7:=Int.emod_nonneg (w/2^f) (show(2:Int)^n≠0 by omega)
 refine fq H rfl fun p S1 H=>?_
 (try(refine zz ?_;(repeat constructor);intro _))
 refine bF (j:=0) H 0 rfl rfl ?_
 refine ae (AF (dy (by show f≤64;omega))) ?_
 (try(refine zz ?_;(repeat constructor);intro _))
 refine bF (j:=1) H 0 rfl rfl ?_
 refine ae (AG (dy (by omega))) ?_
 refine tD (c:=2^n-1) (by rw[bo,IntKind.wrap_u64];omega) ?_
 refine ae (oJ h5 (by omega) (by omega) (by omega)) ?_
 rw[nB h5]
 refine ae (tM (wrap64 (by omega) (by omega))) ?_
 exact wp_ret ⟨rfl,rfl,(H.iz 0).cr⟩
instance WZ {w:Int}:VC EM (zF 498) [U w,.agg [I 0,I 16]] (Me.ar w) (I (w%65536)):=⟨fun h S=>by have:=pR (S:=S) (f:=0) (n:=16) h (by omega) (by omega);simpa using this⟩
instance W0 {w:Int}:VC EM (zF 498) [U w,.agg [I 16,I 48]] (Me.ar w) (I (w/65536)):=⟨fun h S=>by
 have:=pR (S:=S) (f:=16) (n:=48) h (by omega) (by omega)
 have e:w/2^16%2^48=w/65536:=by unfold Me.ar at h;omega
 rw[e] at this;exact this⟩
instance W2 {w:Int}:VC EM (zF 498) [U w,.agg [I 16,I 32]] (Me.ar w) (I (w/65536%4294967296)):=⟨fun h S=>by have:=pR (S:=S) (f:=16) (n:=32) h (by omega) (by omega);simpa using this⟩
instance W3 {w:Int}:VC EM (zF 498) [U w,.agg [I 16,I 40]] (Me.ar w) (I (w/65536%1099511627776)):=⟨fun h S=>by have:=pR (S:=S) (f:=16) (n:=40) h (by omega) (by omega);simpa using this⟩
instance W4 {w:Int}:VC EM (zF 498) [U w,.agg [I 56,I 8]] (Me.ar w) (I (w/72057594037927936)):=⟨fun h S=>by
 have:=pR (S:=S) (f:=56) (n:=8) h (by omega) (by omega)
 have e:w/2^56%2^8=w/72057594037927936:=by unfold Me.ar at h;omega
 rw[e] at this;exact this⟩
instance z10:cF 473 where
instance getTop {w:Int}:VC EM (zF 612) [U w] (Me.ar w) (.cP [.agg [I (w%65536-1),I (w/65536)],I 0]):=.of rfl rfl fun hw=>by
 show Zx EM false (Tryz.a612 _) _ _ _ _
 (repeat' first|constructor|exact ZQ|intro _)
 all_goals apply zL
instance marked {w:Int}:VC EM (zF 642) [U w] (Me.ar w) (B (decide (9223372036854775808≤w))):=.of rfl rfl fun hw=>by
 show Zx EM false (Tryz.a642 _) _ _ _ _
 (repeat' first|constructor|exact ZQ|intro _)
 all_goals apply zL
 ·refine⟨rfl,?_⟩
  rw[decide_eq_true (by simp only[Int.reducePow] at*;omega)];rfl
 ·refine⟨rfl,?_⟩
  rw[decide_eq_false (by simp only[Int.reducePow] at*;omega)];rfl
instance K1 {w:Int}:VC EM (zF 641) [U w,B false] (Me.ar w) (U (w%9223372036854775808)):=.of rfl rfl fun hw=>by
 show Zx EM false (Tryz.a641 _) _ _ _ _
 (repeat' first|constructor|exact ZQ|intro _)
 all_goals apply zL
theorem FU {w:Int}(h0:0≤w)(h1:w<9223372036854775808):mj w 9223372036854775808=w+9223372036854775808:=by
 have:=kh (a:=1) (b:=w) (i:=63) (by omega) h0 (by simpa using h1)
 rw[show(1:Int)*2^63=9223372036854775808 by decide] at this
 omega
instance UI {w:Int}:VC EM (zF 641) [U w,B true] (0≤w∧w<9223372036854775808) (U (w+9223372036854775808)):=.of rfl rfl fun hw=>by
 show Zx EM false (Tryz.a641 _) _ _ _ _
 (repeat' first|constructor|exact ZQ|intro _)
 all_goals apply zL
 exact⟨rfl,by show U (mj w 9223372036854775808)=_;rw[FU hw.1 hw.2]⟩
instance z11 {n:Nat}[Mn n [379,381,485,640,380]]:cF n where
theorem v9 {a:Int}(h:0≤a):mj 0 a=a:=by unfold mj;simp;omega
theorem xu {i g:Int}(h0:0≤i)(h1:i≤65535)(g0:0≤g)(g1:g<281474976710656):mj (mj 0 (i%18446744073709551616*2^0%18446744073709551616)) (g%18446744073709551616*2^16%18446744073709551616)=i+g*65536:=by
 simp only[Int.reducePow]
 rw[v9 (by omega)]
 have e1:i%18446744073709551616*1%18446744073709551616=i:=by omega
 have e2:g%18446744073709551616*65536%18446744073709551616=g*2^16:=by omega
 rw[e1,e2,kh g0 h0 (by omega)];omega
instance UJ {i g:Int}:VC EM (zF 367) [.agg [I i,I g]] ((-1≤i∧i≤65534)∧0≤g∧g<281474976710656) (.cP [U (i+1+g*65536),I 0]):=.of rfl rfl fun⟨h1,h2⟩=>by
 show Zx EM false (Tryz.a367 _) _ _ _ _
 haveI:aS:=⟨⟩
 (repeat' first|constructor|exact ZQ|intro _)
 all_goals apply zL
 ·rw[v9 (by omega)];omega
 ·rw[xu (by omega) (by omega) h2.1 h2.2];exact⟨rfl,rfl⟩
def aC (i g:Int):Int:=i+1+g*65536
def cX (i g:Int):Prop:=(0≤i∧i≤65534)∧0≤g∧g<4294967296
instance UK {i g:Int}:VC EM (zF 628) [.agg [I i,I g,B false]] (cX i g) (.cP [U (aC i g),I 0]):=.of rfl rfl fun⟨h1,h2⟩=>by
 show Zx EM false (Tryz.a628 _) _ _ _ _
 haveI:aS:=⟨⟩
 (repeat' first|constructor|exact ZQ|intro _)
 all_goals apply zL
 ·rw[v9 (by omega)];omega
 ·rw[xu (by omega) (by omega) h2.1 (by omega)];unfold Me.ar;omega
 ·rw[xu (by omega) (by omega) h2.1 (by omega)]
  refine⟨rfl,?_⟩
  unfold aC
  show AV.cP [U ((i+1+g*65536)%9223372036854775808),I 0]=_
  rw[Int.emod_eq_of_lt (by omega) (by omega)]
theorem qH {i g:Int}(h:cX i g):aC i g%65536-1=i:=by unfold cX at h;unfold aC;omega
theorem FV {i g:Int}(h:cX i g):aC i g/65536%4294967296=g:=by unfold cX at h;unfold aC;omega
theorem xw {i g:Int}(h:cX i g):0≤aC i g∧aC i g<9223372036854775808:=by unfold cX at h;unfold aC;omega
theorem ki {i g:Int}(h:cX i g):Me.ar (aC i g):=by have:=xw h;unfold Me.ar;omega
instance getRef {i g:Int}:VC EM (zF 635) [U (aC i g)] (cX i g) (.cP [.agg [I i,I g,B false],I 0]):=.of rfl rfl fun h=>by
 show Zx EM false (Tryz.a635 _) _ _ _ _
 have hw:=ki h
 have hm:=xw h
 (repeat' first|constructor|exact ZQ|intro _)
 all_goals apply zL
 rw[qH h,FV h,decide_eq_false (by omega)]
 refine Zx.ok (n:=false) ?_
 (repeat' first|constructor|exact ZQ|intro _)
 all_goals apply zL
end
section
def Sk.ok (s:Sk):Prop:=(0≤s.top∧s.top<100000)∧(0≤s.fJ∧s.fJ<100000)∧1≤s.size∧s.size≤4096
theorem fk {n w:Int}(h:0≤n):-1≤idx n w∧idx n w<n:=by unfold idx;split<;>omega
instance W5 {a b c w:Int}:VC EM (zF 586) [.agg [I a,I b,I c],U w] (Me.ar w∧0≤c) (I (idx c w)):=.of rfl rfl fun⟨hw,hc⟩=>by
 show Zx EM false (Tryz.a586 _) _ _ _ _
 (repeat' first|constructor|exact ZQ|intro _)
 all_goals apply zL
 ·exact⟨rfl,by unfold idx;rw[if_neg (by omega)];rfl⟩
 ·exact⟨rfl,by unfold idx;rw[if_pos (by omega)];rfl⟩
instance W6 {i:Int}:VC EM (zF 247) [I i] (-1≤i∧i≤65534) (U (i+1)):=.of rfl rfl fun hi=>by
 show Zx EM false (Tryz.a247 _) _ _ _ _
 (repeat' first|constructor|exact ZQ|intro _)
 all_goals apply zL
 exact⟨rfl,by show U (i+1+0*65536)=_;rw[Int.zero_mul,Int.add_zero]⟩
instance z12 {n:Nat}[Mn n [545,613,546,547,588,548,476,544,587,478,371,551,590,614,483,647,653,656,638]]:cF n where
def Sk.row (s:Sk)(w i j:Int)(dn:Bool)(er:Int)(f:Nat):List AV:=[I s.top,I s.fJ,I s.size,U w,I i,I j,B true,B dn,I er,.fn (.func f) [] []]
inductive vi (s:Sk)(q:Nat):oL→List Own→Prop
 |a {w i j:Int}:vi s q .a [.obj q (.row (s.row w i j false 0 476))]
 |b {w i j:Int}(hw:Me.ar w)(hi:0≤i∧i<s.size):vi s q (.b w i) [.obj q (.row (s.row w i j false 0 544))]
 |c {w i j:Int}(hw:Me.ar w)(hi:0≤i∧i<s.size)(hj:-1≤j∧j<s.size):vi s q (.c w i j) [.obj q (.row (s.row w i j false 0 587))]
 |d {w i j:Int}{f:Nat}(hi:0≤i∧i<s.size):vi s q (.d i) [.obj q (.row (s.row w i j true 0 f))]
 |n {w i j:Int}{f:Nat}(hi:i=-1):vi s q (.d (-1)) [.obj q (.row (s.row w i j true 15 f))]
inductive jN (s:Sk)(v:Int)(q:Nat):jK→List Own→Prop
 |a {w j:Int}(hv:0≤v∧v<s.size):jN s v q .a [.obj q (.row (s.row w v j false 0 551))]
 |b {w:Int}(hv:0≤v∧v<s.size)(hw:Me.ar w):jN s v q (.b w) [.obj q (.row (s.row w v (idx s.size w) false 0 590))]
 |c {w:Int}(hv:0≤v∧v<s.size)(hw:Me.ar w):jN s v q (.c w) [.obj q (.row (s.row w v (idx s.size w) false 0 614))]
 |d {w j e:Int}{f:Nat}:jN s v q (.d e) [.obj q (.row (s.row w v j true e f))]
inductive xy (s:Sk)(q:Nat):rX→List Own→Prop
 |a {w i j:Int}:xy s q .a [.obj q (.row (s.row w i j false 0 647))]
 |b {w i j:Int}(hw:Me.ar w)(hi:0≤i∧i<s.size):xy s q (.b w i) [.obj q (.row (s.row w i j false 0 653))]
 |d {w i j:Int}{f:Nat}(hi:0≤i∧i<s.size):xy s q (.d i) [.obj q (.row (s.row w i j true 0 f))]
 |n {w i j:Int}{f:Nat}(hi:i=-1):xy s q (.d (-1)) [.obj q (.row (s.row w i j true 15 f))]
section
variable{B0 S:AH}{W:List Nat}{own R l:List Own}{ro:List aQ}{m bl q:Nat}{x:Me}{rest:List AV}{s:Sk}
theorem bC {o1 own:List Own}(e:o1=own:=by conv=>lhs;try simp only[lA,lB,lC]):o1=own:=e
theorem BY {σ:oL}(hs:s.ok)(hx:x.gd)(h:vi s q σ l)(H:Cx B0 W S (l++(ad m bl x rest++R)) ro):
  aO EM (zF 477) [.ptr q 0,.ptr m 0] S fun r S'=>∃ab,eD (vi s q) oL.over (σ.step s x) (ad m bl · rest) R r ab∧Cx B0 W S' ab ro:=by
 have bn:=hs
 unfold Sk.ok at bn
 have hi:=fk (n:=s.size) (w:=x.word s.top) (by omega)
 cases h with
 |a=>
  refine Vx.fm H bC (b:=Tryz.a477) ?_;(repeat' first|constructor|exact ZQ|intro _);all_goals apply zL
  ·next h=>
   exact aa (Prod.ext (if_pos h) rfl) (.n (by omega)) rfl .rfl'
  ·next h=>exact aa (Prod.ext (if_neg h) rfl) (.b (Me.ai hx _) ⟨by omega,hi.2⟩) rfl .rfl'
 |b hw hi=>
  refine Vx.fm H bC (b:=Tryz.a477) ?_;(repeat' first|constructor|exact ZQ|intro _);all_goals apply zL
  exact aa rfl (.c hw hi (fk (by omega))) rfl .rfl'
 |c hw hi hj=>
  refine Vx.fm H bC (b:=Tryz.a477) ?_;(repeat' first|constructor|exact ZQ|intro _);all_goals apply zL
  ·next h=>exact aa (Prod.ext (if_pos h) rfl) (.d hi) rfl (.drop .rfl')
  ·next h=>exact aa (Prod.ext (if_neg h) rfl) .a rfl (.drop .rfl')
 |d hi=>
  refine Vx.fm H bC (b:=Tryz.a477) ?_;(repeat' first|constructor|exact ZQ|intro _);all_goals apply zL
  exact aa rfl (.d hi) rfl .rfl'
 |n hi=>
  refine Vx.fm H bC (b:=Tryz.a477) ?_;(repeat' first|constructor|exact ZQ|intro _);all_goals apply zL
  exact aa rfl (.n hi) rfl .rfl'
theorem tQ {v:Int}{σ:jK}(hs:s.ok)(hx:x.gd)(h:jN s v q σ l)(H:Cx B0 W S (l++(ad m bl x rest++R)) ro):
  aO EM (zF 615) [.ptr q 0,.ptr m 0] S fun r S'=>∃ab,eD (jN s v q) jK.over (σ.step s v x) (ad m bl · rest) R r ab∧Cx B0 W S' ab ro:=by
 have bn:=hs
 unfold Sk.ok at bn
 cases h with
 |a hv=>
  refine Vx.fm H bC (b:=Tryz.a615) ?_;(repeat' first|constructor|exact ZQ|intro _);all_goals apply zL
  exact aa rfl (.b hv (Me.ai hx _)) rfl .rfl'
 |@b w hv hw=>
  have hi:=fk (n:=s.size) (w:=w) (by omega)
  refine Vx.fm H bC (b:=Tryz.a615) ?_;(repeat' first|constructor|exact ZQ|intro _);all_goals apply zL
  exact aa rfl (.c hv hw) rfl .rfl'
 |c hv hw=>
  refine Vx.fm H bC (b:=Tryz.a615) ?_;(repeat' first|constructor|exact ZQ|intro _);all_goals apply zL
  ·next h=>exact aa (Prod.ext (if_pos h) rfl) .d rfl (.drop .rfl')
  ·next h=>exact aa (Prod.ext (if_neg h) rfl) (.a hv) rfl (.drop .rfl')
 |d=>
  refine Vx.fm H bC (b:=Tryz.a615) ?_;(repeat' first|constructor|exact ZQ|intro _);all_goals apply zL
  exact aa rfl .d rfl .rfl'
theorem H3 {σ:rX}(hs:s.ok)(hx:x.gd)(h:xy s q σ l)(H:Cx B0 W S (l++(ad m bl x rest++R)) ro):
  aO EM (zF 655) [.ptr q 0,.ptr m 0] S fun r S'=>∃ab,eD (xy s q) rX.over (σ.step s x) (ad m bl · rest) R r ab∧Cx B0 W S' ab ro:=by
 have bn:=hs
 unfold Sk.ok at bn
 have hi:=fk (n:=s.size) (w:=x.word s.top) (by omega)
 cases h with
 |a=>
  refine Vx.fm H bC (b:=Tryz.a655) ?_;(repeat' first|constructor|exact ZQ|intro _);all_goals apply zL
  ·next h=>
   exact aa (Prod.ext (if_pos h) rfl) (.n (by omega)) rfl .rfl'
  ·next h=>exact aa (Prod.ext (if_neg h) rfl) (.b (Me.ai hx _) ⟨by omega,hi.2⟩) rfl .rfl'
 |b hw hi=>
  refine Vx.fm H bC (b:=Tryz.a655) ?_;(repeat' first|constructor|exact ZQ|intro _);all_goals apply zL
  ·next h=>exact aa (Prod.ext (if_pos h) rfl) (.d hi) rfl (.drop .rfl')
  ·next h=>exact aa (Prod.ext (if_neg h) rfl) .a rfl (.drop .rfl')
 |d hi=>
  refine Vx.fm H bC (b:=Tryz.a655) ?_;(repeat' first|constructor|exact ZQ|intro _);all_goals apply zL
  exact aa rfl (.d hi) rfl .rfl'
 |n hi=>
  refine Vx.fm H bC (b:=Tryz.a655) ?_;(repeat' first|constructor|exact ZQ|intro _);all_goals apply zL
  exact aa rfl (.n hi) rfl .rfl'
end
end
section
def Ar.ok (a:Ar):Prop:=a.f.ok∧(0≤a.ju∧a.ju<100000)∧(0≤a.pK∧a.pK<100000)∧1≤a.DN∧a.DN≤4294967295
def Ar.cs (a:Ar):List AV:=[I a.f.top,I a.f.fJ,I a.f.size,I a.ju,I a.pK,I a.DN]
instance z13 {n:Nat}[Mn n [629,601,618,619,564,602,659,662,665,666,667]]:cF n where
def Ar.kj (a:Ar)(qp:Nat)(nx:AV)(i r e:Int):List AV:=.ptr qp 0::(a.cs++[B true,nx,I i,U r,I e])
inductive mY (a:Ar)(q:Nat):cR→List Own→Prop
 |p {i:Int}{qp:Nat}{σ l}(h:vi a.f qp σ l)(ho:σ.over=false):mY a q (.p σ) ([.obj q (.row (a.kj qp (zF 601) i 0 0))]++l)
 |g {i:Int}{qp:Nat}(hi:0≤i∧i<a.f.size):mY a q (.g i) [.obj q (.row (a.kj qp (zF 618) i 0 0))]
 |w {i:Int}{qp:Nat}:mY a q .w [.obj q (.row (a.kj qp (zF 619) i 0 0))]
 |d {i r e:Int}{qp:Nat}(hr:e=0→∃i' g,(cX i' g∧i'<a.f.size)∧r=aC i' g):mY a q (.d r e) [.obj q (.row (a.kj qp Nf i r e))]
inductive pS (a:Ar)(v:Int)(q:Nat):je→List Own→Prop
 |l {g:Int}{qp:Nat}{l}(hv:0≤v∧v<a.f.size)(h:jN a.f v qp .a l):pS a v q .l ([.obj q (.row (a.kj qp (zF 662) v g 0))]++l)
 |r {g:Int}{qp:Nat}{l}(hv:0≤v∧v<a.f.size)(hg:Me.ar g)(h:jN a.f v qp .a l):pS a v q (.r g) ([.obj q (.row (a.kj qp (zF 665) v g 0))]++l)
 |u {g:Int}{qp:Nat}{σ l}(hv:0≤v∧v<a.f.size)(h:jN a.f v qp σ l)(ho:σ.over=false):pS a v q (.u σ) ([.obj q (.row (a.kj qp (zF 667) v g 0))]++l)
 |w {g:Int}{qp:Nat}:pS a v q .w [.obj q (.row (a.kj qp (zF 666) v g 0))]
 |d {g e:Int}{qp:Nat}:pS a v q (.d e) [.obj q (.row (a.kj qp Nf v g e))]
section
variable{B0 S:AH}{W:List Nat}{own R l:List Own}{ro:List aQ}{m bl q:Nat}{x:Me}{rest:List AV}{a:Ar}
theorem v_ {σ}(hs:a.ok)(hx:x.gd)(h:mY a q σ l)(H:Cx B0 W S (l++(ad m bl x rest++R)) ro):
  aO EM (zF 745) [.ptr q 0,.ptr m 0] S fun r S'=>∃ab,eD (mY a q) cR.over (σ.step a x) (ad m bl · rest) R r ab∧Cx B0 W S' ab ro:=by
 have bn:=hs
 unfold Ar.ok Sk.ok at bn
 have h0:=hs.1
 have hg:=fun i=>Me.ai hx i
 cases h with
 |@p i qp σ l h ho=>
  refine Vx.fm H bC (b:=Tryz.a745) ?_;(repeat' first|constructor|exact ZQ|intro _);all_goals apply zL
  refine Vx.fz (A:=[_]) (fun B W S H=>BY h0 hx h H) fun a' x' l' e hl=>?_
  have e2:(cR.p σ).step a x=(cR.jL a',x'):=by
   show(cR.jL _,_)=_
   rw[e]
  cases ho:a'.over
  ·(repeat' first|constructor|exact ZQ|intro _)
   all_goals apply zL
   have e3:(cR.p σ).step a x=(.p a',x'):=e2.trans (Prod.ext (by cases hl<;>first|rfl|cases ho) rfl)
   exact aa e3 (.p hl ho) rfl .rfl'
  ·cases hl with
   |a=>cases ho
   |b=>cases ho
   |c=>cases ho
   |d hi=>
    (repeat' first|constructor|exact ZQ|intro _)
    all_goals apply zL
    exact aa (e2.trans (Prod.ext (if_neg (by omega)) rfl)) (.g hi) rfl (.cons (.drop .rfl'))
   |n hi=>
    subst hi
    (repeat' first|constructor|exact ZQ|intro _)
    all_goals apply zL
    exact aa e2 .w rfl (.cons (.drop .rfl'))
 |@g i qp hi=>
  have hg:=hg (a.ju+i)
  refine Vx.fm H bC (b:=Tryz.a745) ?_;(repeat' first|constructor|exact ZQ|intro _);all_goals apply zL
  ·unfold cX;omega
  ·exact aa rfl (.d fun _=>⟨i,x.word (a.ju+i)%4294967296,⟨by unfold cX;omega,hi.2⟩,rfl⟩) rfl .rfl'
 |w=>
  refine Vx.fm H bC (b:=Tryz.a745) ?_;(repeat' first|constructor|exact ZQ|intro _);all_goals apply zL
  ·next h=>exact aa (Prod.ext (congrArg (cR.d 0) (if_pos (by omega))) rfl) (.d fun h=>absurd h (by decide)) rfl .rfl'
  ·next h=>exact aa (Prod.ext (congrArg (cR.d 0) (if_neg (by omega))) rfl) (.d fun h=>absurd h (by decide)) rfl .rfl'
 |d hr=>
  refine Vx.fm H bC (b:=Tryz.a745) ?_;(repeat' first|constructor|exact ZQ|intro _);all_goals apply zL
  exact aa rfl (.d hr) rfl .rfl'
theorem FW {v:Int}{σ}(hs:a.ok)(hx:x.gd)(h:pS a v q σ l)(H:Cx B0 W S (l++(ad m bl x rest++R)) ro):
  aO EM (zF 663) [.ptr q 0,.ptr m 0] S fun r S'=>∃ab,eD (pS a v q) je.over (σ.step a v x) (ad m bl · rest) R r ab∧Cx B0 W S' ab ro:=by
 have bn:=hs
 unfold Ar.ok Sk.ok at bn
 have h0:=hs.1
 cases h with
 |@l g qp l hv h=>
  have hg:=Me.ai hx (a.ju+v)
  refine Vx.fm H bC (b:=Tryz.a663) ?_;(repeat' first|constructor|exact ZQ|intro _);all_goals apply zL
  ·next e=>exact aa (Prod.ext (if_pos (by omega)) rfl) .w rfl (.cons (.perm (.of (g:=l) (List.perm_append_comm)) (.refl _)))
  ·next e=>exact aa (Prod.ext (if_neg (by omega)) rfl) (.r hv hg h) rfl .rfl'
 |@r g qp l hv hg h=>
  refine Vx.fm H bC (b:=Tryz.a663) ?_;(repeat' first|constructor|exact ZQ|intro _);all_goals apply zL
  exact aa rfl (.u hv h rfl) rfl .rfl'
 |@u g qp σ l hv h ho=>
  refine Vx.fm H bC (b:=Tryz.a663) ?_;(repeat' first|constructor|exact ZQ|intro _);all_goals apply zL
  refine Vx.fz (A:=[_]) (fun B W S H=>tQ h0 hx h H) fun a' x' l' e hl=>?_
  have e2:(je.u σ).step a v x=(if a'.over then .d 0 else .u a',x'):=by
   show(_,_)=_
   rw[e]
  cases ho:a'.over
  ·(repeat' first|constructor|exact ZQ|intro _)
   all_goals apply zL
   have e3:(je.u σ).step a v x=(.u a',x'):=e2.trans (Prod.ext (if_neg (by rw[ho];simp)) rfl)
   exact aa e3 (.u hv hl ho) rfl .rfl'
  ·(repeat' first|constructor|exact ZQ|intro _)
   all_goals apply zL
   exact aa (e2.trans (Prod.ext (if_pos ho) rfl)) .d rfl (.cons (.perm (.of (g:=l') (List.perm_append_comm)) (.refl _)))
 |w=>
  refine Vx.fm H bC (b:=Tryz.a663) ?_;(repeat' first|constructor|exact ZQ|intro _);all_goals apply zL
  exact aa rfl .d rfl .rfl'
 |d=>
  refine Vx.fm H bC (b:=Tryz.a663) ?_;(repeat' first|constructor|exact ZQ|intro _);all_goals apply zL
  exact aa rfl .d rfl .rfl'
end
def Ep.ok (e:Ep):Prop:=(0≤e.cd∧e.cd<100000)∧(0≤e.pins∧e.pins<100000)∧1≤e.ah∧e.ah≤64
def Ep.cs (e:Ep):List AV:=[I e.cd,I e.pins,I e.ah]
instance z14 {n:Nat}[Mn n [595,596,654,600,560,562,597,598,599,575,610,637,644,645,646,649,366,472]]:cF n where
def Jy (h:List AV)(ln er:Int):List AV:=h++[I ln,B true,I er]
def Ep.ga (e:Ep)(q:Nat)(c ln n:Int):List AV:=Jy [.fn (.func 597) [.ptr q 0] [],.fn (.func 598) [.ptr q 0] [],.fn (.func 599) [.ptr q 0] []] ln 0++(e.cs++[I (e.pins+c),Z .u32 n])
inductive vj (e:Ep)(c:Int)(q:Nat):oM→List Own→Prop
 |a {n:Int}(hc:0≤c∧c<e.ah):vj e c q .a [.obj q (.row (e.ga q c 0 n))]
 |b {p:Int}(hc:0≤c∧c<e.ah)(hp:0≤p∧p<4294967296):vj e c q (.b p) [.obj q (.row (e.ga q c 1 p))]
 |c {p:Int}(hc:0≤c∧c<e.ah)(hp:0≤p∧p<4294967296):vj e c q (.c p) [.obj q (.row (e.ga q c 2 p))]
 |d {p:Int}(hp:0≤p∧p<4294967296):vj e c q (.d p 0) [.obj q (.row (e.ga q c (-1) p))]
inductive lM (e:Ep)(c:Int)(q:Nat):c_→List Own→Prop
 |a (hc:0≤c∧c<e.ah):lM e c q .a [.obj q (.row (Jy [.fn (.func 610) [.ptr q 0] [],Nf,Nf] 0 0++[I (e.pins+c)]))]
 |d {er:Int}:lM e c q (.d er) [.obj q (.row (Jy [.fn (.func 610) [.ptr q 0] [],Nf,Nf] (-1) er++[I (e.pins+c)]))]
def Ep.kj (e:Ep)(q:Nat)(c p ln er w k:Int):List AV:=Jy [.fn (.func 644) [.ptr q 0] [],.fn (.func 645) [.ptr q 0] [],.fn (.func 646) [.ptr q 0] []] ln er++(e.cs++[I c,I p,U w,I k])
inductive xz (e:Ep)(c p:Int)(q:Nat):iA→List Own→Prop
 |a {w k:Int}(hc:0≤c∧c<e.ah):xz e c p q .a [.obj q (.row (e.kj q c p 0 0 w k))]
 |b {w n:Int}(hc:0≤c∧c<e.ah)(hw:Me.ar w)(hp:w%4294967296=p)(hn:0≤n∧n<e.ah):xz e c p q (.b w n) [.obj q (.row (e.kj q c p 1 0 w n))]
 |c {w k:Int}(hc:0≤c∧c<e.ah)(hw:Me.ar w)(hp:w%4294967296=p):xz e c p q (.c w) [.obj q (.row (e.kj q c p 2 0 w k))]
 |d {er w k:Int}:xz e c p q (.d er) [.obj q (.row (e.kj q c p (-1) er w k))]
section
variable{B0 S:AH}{W:List Nat}{own R l:List Own}{ro:List aQ}{m bl q:Nat}{x:Me}{rest:List AV}{e:Ep}{c p:Int}
theorem nD {σ}(hs:e.ok)(hx:x.gd)(h:vj e c q σ l)(H:Cx B0 W S (l++(ad m bl x rest++R)) ro):
  aO EM (zF 743) [.ptr q 0,.ptr m 0] S fun r S'=>∃ab,eD (vj e c q) oM.over (σ.step e c x) (ad m bl · rest) R r ab∧Cx B0 W S' ab ro:=by
 have bn:=hs
 unfold Ep.ok at bn
 have hb:=Me.ai hx e.cd
 cases h with
 |a hc=>
  refine Vx.fm H bC (b:=Tryz.a743) ?_;(repeat' first|constructor|exact ZQ|intro _);all_goals apply zL
  exact aa rfl (.b hc (by omega)) rfl .rfl'
 |@b p hc hp=>
  refine Vx.fm H bC (b:=Tryz.a743) ?_;(repeat' first|constructor|exact ZQ|intro _);all_goals apply zL
  refine aa rfl (.c hc hp) rfl ?_
  rw[show p%18446744073709551616=p by omega,show(p+1)%18446744073709551616=p+1 by omega]
  exact .rfl'
 |@c p hc hp=>
  refine Vx.fm H bC (b:=Tryz.a743) ?_;(repeat' first|constructor|exact ZQ|intro _);all_goals apply zL
  ·next h=>exact aa (Prod.ext (if_pos h) rfl) (.d hp) rfl .rfl'
  ·next h=>exact aa (Prod.ext (if_neg h) rfl) (.b hc (by omega)) rfl .rfl'
 |d hp=>
  refine Vx.fm H bC (b:=Tryz.a743) ?_;(repeat' first|constructor|exact ZQ|intro _);all_goals apply zL
  exact aa rfl (.d hp) rfl .rfl'
theorem fX {σ}(hs:e.ok)(hx:x.gd)(h:lM e c q σ l)(H:Cx B0 W S (l++(ad m bl x rest++R)) ro):
  aO EM (zF 755) [.ptr q 0,.ptr m 0] S fun r S'=>∃ab,eD (lM e c q) c_.over (σ.step e c x) (ad m bl · rest) R r ab∧Cx B0 W S' ab ro:=by
 have bn:=hs
 unfold Ep.ok at bn
 cases h with
 |a hc=>
  refine Vx.fm H bC (b:=Tryz.a755) ?_;(repeat' first|constructor|exact ZQ|intro _);all_goals apply zL
  exact aa rfl .d rfl .rfl'
 |d=>
  refine Vx.fm H bC (b:=Tryz.a755) ?_;(repeat' first|constructor|exact ZQ|intro _);all_goals apply zL
  exact aa rfl .d rfl .rfl'
theorem BZ {f:Int}{w k ln:Int}(hs:e.ok)(hc:0≤c∧c<e.ah)(hf:0≤f)(H:Cx B0 W S (.obj q (.row (e.kj q c p ln 0 w k))::R) ro):
  aO EM (zF 652) [.ptr q 0,I f] S fun r S'=>∃ab,(∃wa k',r=uv∧ab=.obj q (.row (e.kj q c p wa 0 w k'))::R∧((wa=2∧iA.skip e c w f=.c w)∨(wa=1∧iA.skip e c w f=.b w k'∧0≤k'∧k'<e.ah)))∧Cx B0 W S' ab ro:=by
 have bn:=hs
 unfold Ep.ok at bn
 refine Vx.fm H bC (b:=Tryz.a652) ?_;(repeat' first|constructor|exact ZQ|intro _);all_goals apply zL
 refine Vx.Pc e.ah.toNat (fun i=>∀j:Int,f≤j→j<i→j=c) (fun j h1 h2=>by omega) ?_ ?_
 ·intro i hi hp hn
  (repeat' first|constructor|exact ZQ|intro _)
  all_goals apply zL
  ·next h1 h2 h3=>
   refine⟨rfl,rfl,_,⟨1,i,rfl,rfl,.inr ⟨rfl,?_,by omega,by omega⟩⟩,.drop (.drop (.drop .rfl'))⟩
   have h4:(if f=c then f+1 else f)=i:=by
    by_cases h5:f=(i:Int)
    ·rw[if_neg (by omega)];exact h5
    ·have h6:=hp f (Int.le_refl _) (by omega)
     rw[if_pos h6]
     by_cases h7:f+1=(i:Int)
     ·exact h7
     ·have:=hp (f+1) (by omega) (by omega);omega
   unfold iA.skip
   rw[h4,if_neg (by omega)]
  ·next h1 h2 h3=>
   exact hn fun j h4 h5=>by
    by_cases h6:j=(i:Int)
    ·omega
    ·exact hp j h4 (by omega)
  ·next h1 h2=>exact hn fun j h4 h5=>hp j h4 (by omega)
 ·intro hp
  (repeat' first|constructor|exact ZQ|intro _)
  all_goals apply zL
  refine⟨rfl,rfl,_,⟨2,k,rfl,rfl,.inl ⟨rfl,?_⟩⟩,.drop (.drop (.drop .rfl'))⟩
  unfold iA.skip
  rw[if_pos]
  by_cases h5:f=c
  ·rw[if_pos h5]
   by_cases h7:f+1<e.ah
   ·have:=hp (f+1) (by omega) (by omega);omega
   ·omega
  ·rw[if_neg h5]
   by_cases h7:f<e.ah
   ·have:=hp f (by omega) (by omega);omega
   ·omega
theorem H4 {σ}(hs:e.ok)(hx:x.gd)(h:xz e c p q σ l)(H:Cx B0 W S (l++(ad m bl x rest++R)) ro):
  aO EM (zF 648) [.ptr q 0,.ptr m 0] S fun r S'=>∃ab,eD (xz e c p q) iA.over (σ.step e c p x) (ad m bl · rest) R r ab∧Cx B0 W S' ab ro:=by
 have bn:=hs
 unfold Ep.ok at bn
 have hb:=Me.ai hx e.cd
 cases h with
 |a hc=>
  refine Vx.fm H bC (b:=Tryz.a648) ?_;(repeat' first|constructor|exact ZQ|intro _);all_goals apply zL
  ·next h=>exact aa (Prod.ext (if_neg h) rfl) .d rfl .rfl'
  ·next h=>
   have h:x.word e.cd%4294967296=p:=by omega
   refine Vx.spec (fun B W S H=>BZ (f:=0) hs hc (by omega) H) fun r ab q=>?_
   obtain⟨wa,k',rfl,rfl,q|q⟩:=q
   ·obtain⟨rfl,q⟩:=q
    (repeat' first|constructor|exact ZQ|intro _)
    all_goals apply zL
    exact aa (Prod.ext ((if_pos h).trans q) rfl) (.c hc hb h) rfl .rfl'
   ·obtain⟨rfl,q,q1,q2⟩:=q
    (repeat' first|constructor|exact ZQ|intro _)
    all_goals apply zL
    exact aa (Prod.ext ((if_pos h).trans q) rfl) (.b hc hb h ⟨q1,q2⟩) rfl .rfl'
 |@b w n hc hw hp hn=>
  have zM:=Me.ai hx (e.pins+n)
  have go:∀{K Φ},(∀wa k',(wa=2∧iA.skip e c w (n+1)=.c w)∨(wa=1∧iA.skip e c w (n+1)=.b w k'∧0≤k'∧k'<e.ah)→Zx EM false (.ret .ret []) K (.obj q (.row (e.kj q c p wa 0 w k'))::(ad m bl (x.ld (e.pins+n)) rest++R)) ro Φ)→
    Vx EM (.call (zF 652) [.ptr q 0,I (n+1)] fun Zy=>.ret .ret []) K (.obj q (.row (e.kj q c p 1 0 w n))::(ad m bl (x.ld (e.pins+n)) rest++R)) ro Φ:=by
   intro K Φ h
   refine Vx.spec (fun B W S H=>BZ (f:=n+1) hs hc (by omega) H) fun r ab q=>?_
   obtain⟨wa,k',rfl,rfl,q⟩:=q
   exact h wa k' q
  have fin:∀{wa k'},(x.word (e.pins+n)=0∨x.word (e.pins+n)=p+1)→(wa=2∧iA.skip e c w (n+1)=.c w)∨(wa=1∧iA.skip e c w (n+1)=.b w k'∧0≤k'∧k'<e.ah)→
    mX ro (eD (xz e c p q) iA.over (iA.step e c p (.b w n) x) (ad m bl · rest) R) .ret [B (decide (wa=-1))] (.obj q (.row (e.kj q c p wa 0 w k'))::(ad m bl (x.ld (e.pins+n)) rest++R)) ro:=by
   intro wa k' h q
   rcases q with⟨rfl,q⟩|⟨rfl,q,q1⟩
   ·exact aa (Prod.ext ((if_pos h).trans q) rfl) (.c hc hw hp) rfl .rfl'
   ·exact aa (Prod.ext ((if_pos h).trans q) rfl) (.b hc hw hp q1) rfl .rfl'
  refine Vx.fm H bC (b:=Tryz.a648) ?_;(repeat' first|constructor|exact ZQ|intro _);all_goals apply zL
  ·next h1 h2=>exact aa (Prod.ext (if_neg (by omega)) rfl) .d rfl .rfl'
  ·next h1 h2=>
   refine go fun wa k' q=>?_
   have hl:wa≠-1:=by omega
   (repeat' first|constructor|exact ZQ|intro _)
   all_goals apply zL
   have:=fin (by omega) q
   rwa[decide_eq_false hl] at this
  ·next h1=>
   refine go fun wa k' q=>?_
   have hl:wa≠-1:=by omega
   (repeat' first|constructor|exact ZQ|intro _)
   all_goals apply zL
   have:=fin (by omega) q
   rwa[decide_eq_false hl] at this
 |@c w k hc hw hp=>
  have h1:(w%4294967296%18446744073709551616+1)%18446744073709551616=p+1:=by omega
  refine Vx.fm H bC (b:=Tryz.a648) ?_;(repeat' first|constructor|exact ZQ|intro _);all_goals apply zL
  ·next h=>
   rw[h1]
   exact aa (Prod.ext (if_pos h) rfl) .d rfl .rfl'
  ·next h=>
   rw[h1]
   exact aa (Prod.ext (if_neg h) rfl) .d rfl .rfl'
 |d=>
  refine Vx.fm H bC (b:=Tryz.a648) ?_;(repeat' first|constructor|exact ZQ|intro _);all_goals apply zL
  exact aa rfl .d rfl .rfl'
end
end
section
def Lb.ok (l:Lb):Prop:=l.a.ok∧l.e.ok∧0≤l.tN∧l.tN<50000
def Lb.cs (l:Lb):List AV:=l.a.cs++(l.e.cs++[I l.tN])
theorem Lb.jO {l:Lb}(h:l.ok){k:Int}(h0:0≤k)(h1:k<3):(l.wait k).ok:=by
 unfold Lb.ok Ar.ok Sk.ok at h
 unfold Sk.ok Lb.wait
 dsimp only
 omega
instance z15 {n:Nat}[Mn n [245,740,734,739,741,627,639,650,657,660]]:cF n where
def Lb.K3 (l:Lb)(nx:AV)(er v:Int)(pp:AV):List AV:=nx::B true::I er::(l.cs++[I v,pp])
inductive yW (l:Lb)(v:Int)(q:Nat):gP→List Own→Prop
 |a (hv:0≤v∧v<l.a.f.size):yW l v q .a [.obj q (.row (l.K3 (.fn (.func 739) [.ptr q 0] []) 0 v Np))]
 |b {k:Int}{qp:Nat}{σ lp}(hk:0≤k∧k<3)(h:jN (l.wait k) v qp σ lp)(ho:σ.over=false):yW l v q (.b k σ) ([.obj q (.row (l.K3 (.fn (.func 741) [.ptr q 0] []) 0 v (.ptr qp 0)))]++lp)
 |d {er:Int}{qp:Nat}:yW l v q (.d er) [.obj q (.row (l.K3 Nf er v (.ptr qp 0)))]
def Lb.jh (l:Lb)(nx:AV)(er:Int)(on all:AV)(i:Int)(one:AV)(j n:Int):List AV:=nx::B true::I er::(l.cs++[on,all,I i,one,I j,I n])
inductive xA (l:Lb)(c p:Int)(q:Nat):eN→List Own→Prop
 |v {i:Int}{qa qb:Nat}{σ la lb}(hp:0≤p∧p<4294967296)(h:xz l.e c p qa σ la)(ho:σ.over=false)(h2:xy (l.wait ((p+2)%3)) qb .a lb):xA l c p q (.v σ) ([.obj q (.row (l.jh (.fn (.func 639) [.ptr q 0] []) 0 (.ptr qa 0) (.ptr qb 0) i Np 0 0))]++(lb++la))
 |t {i:Int}{qa qb:Nat}{σ lb}(hp:0≤p∧p<4294967296)(h:xy (l.wait ((p+2)%3)) qb σ lb)(ho:σ.over=false):xA l c p q (.t σ) ([.obj q (.row (l.jh (.fn (.func 650) [.ptr q 0] []) 0 (.ptr qa 0) (.ptr qb 0) i Np 0 0))]++lb)
 |l {i j n:Int}{qa qb:Nat}{one}(hi:0≤i∧i<l.a.f.size)(hn:0≤n∧n<l.a.f.size):xA l c p q (.l i n) [.obj q (.row (l.jh (.fn (.func 657) [.ptr q 0] []) 0 (.ptr qa 0) (.ptr qb 0) i one j n))]
 |f {i j n:Int}{qa qb qf:Nat}{σ lf}(hi:0≤i∧i<l.a.f.size)(hn:0≤n∧n<l.a.f.size)(hj:-1≤j∧j≤65534)(h:pS l.a i qf σ lf)(ho:σ.over=false):xA l c p q (.f i j n σ) ([.obj q (.row (l.jh (.fn (.func 660) [.ptr q 0] []) 0 (.ptr qa 0) (.ptr qb 0) i (.ptr qf 0) j n))]++lf)
 |d {i j n er:Int}{qa qb:Nat}{one}:xA l c p q (.d n er) [.obj q (.row (l.jh Nf er (.ptr qa 0) (.ptr qb 0) i one j n))]
section
variable{B0 S:AH}{W:List Nat}{own R lo:List Own}{ro:List aQ}{m bl q:Nat}{x:Me}{rest:List AV}{l:Lb}{c p v:Int}
theorem B2 {σ:gP}(hs:l.ok)(hx:x.gd)(h:yW l v q σ lo)(H:Cx B0 W S (lo++(ad m bl x rest++R)) ro):
  aO EM (zF 735) [.ptr q 0,.ptr m 0] S fun r S'=>∃ab,eD (yW l v q) gP.over (σ.step l v x) (ad m bl · rest) R r ab∧Cx B0 W S' ab ro:=by
 have bn:=hs
 unfold Lb.ok Ar.ok Sk.ok Ep.ok at bn
 have hb:=Me.ai hx l.e.cd
 cases h with
 |a hv=>
  refine Vx.fm H bC (b:=Tryz.a735) ?_;(repeat' first|constructor|exact ZQ|intro _);all_goals apply zL
  exact aa rfl (.b ⟨by omega,by omega⟩ (.a hv) rfl) rfl HQ
 |@b k qp σ lp hk h ho=>
  refine Vx.fm H bC (b:=Tryz.a735) ?_;(repeat' first|constructor|exact ZQ|intro _);all_goals apply zL
  refine Vx.fz (A:=[_]) (fun B W S H=>tQ (l.jO hs hk.1 hk.2) hx h H) fun a' x' l' e hl=>?_
  have e2:(gP.b k σ).step l v x=(if a'.over then .d 0 else .b k a',x'):=by
   show(_,_)=_
   rw[e]
  cases ho:a'.over
  ·(repeat' first|constructor|exact ZQ|intro _)
   all_goals apply zL
   have e3:(gP.b k σ).step l v x=(.b k a',x'):=e2.trans (Prod.ext (if_neg (by rw[ho];simp)) rfl)
   exact aa e3 (.b hk hl ho) rfl .rfl'
  ·(repeat' first|constructor|exact ZQ|intro _)
   all_goals apply zL
   exact aa (e2.trans (Prod.ext (if_pos ho) rfl)) .d rfl (.cons (.perm (.of (g:=l') (List.perm_append_comm)) (.refl _)))
 |d=>
  refine Vx.fm H bC (b:=Tryz.a735) ?_;(repeat' first|constructor|exact ZQ|intro _);all_goals apply zL
  exact aa rfl .d rfl .rfl'
theorem B3 {σ:eN}(hs:l.ok)(hx:x.gd)(h:xA l c p q σ lo)(H:Cx B0 W S (lo++(ad m bl x rest++R)) ro):
  aO EM (zF 785) [.ptr q 0,.ptr m 0] S fun r S'=>∃ab,eD (xA l c p q) eN.over (σ.step l c p x) (ad m bl · rest) R r ab∧Cx B0 W S' ab ro:=by
 have bn:=hs
 unfold Lb.ok Ar.ok Sk.ok Ep.ok at bn
 cases h with
 |@v i qa qb σ la lb hp h ho h2=>
  refine Vx.fm H bC (b:=Tryz.a785) ?_;(repeat' first|constructor|exact ZQ|intro _);all_goals apply zL
  refine Vx.fz (A:=_::lb) (fun B W S H=>H4 hs.2.1 hx h H) fun a' x' l' e hl=>?_
  have e2:(eN.v σ).step l c p x=(eN.FJ a',x'):=by
   show(eN.FJ _,_)=_
   rw[e]
  cases ho:a'.over
  ·(repeat' first|constructor|exact ZQ|intro _)
   all_goals apply zL
   have e3:(eN.v σ).step l c p x=(.v a',x'):=e2.trans (Prod.ext (by cases hl<;>first|rfl|cases ho) rfl)
   exact aa e3 (.v hp hl ho h2) rfl HQ
  ·cases hl with
   |a=>cases ho
   |b=>cases ho
   |c=>cases ho
   |@d er w k=>
    (repeat' first|constructor|exact ZQ|intro _)
    all_goals apply zL
    ·next h=>exact aa (e2.trans (Prod.ext (if_neg h) rfl)) .d rfl HQ
    ·next h=>
     obtain rfl:er=0:=by omega
     exact aa e2 (.t hp h2 rfl) rfl HQ
 |@t i qa qb σ lb hp h ho=>
  refine Vx.fm H bC (b:=Tryz.a785) ?_;(repeat' first|constructor|exact ZQ|intro _);all_goals apply zL
  refine Vx.fz (A:=[_]) (fun B W S H=>H3 (l.jO hs (by omega) (by omega)) hx h H) fun a' x' l' e hl=>?_
  have e2:(eN.t σ).step l c p x=(eN.FL a',x'):=by
   show(eN.FL _,_)=_
   rw[e]
  cases ho:a'.over
  ·(repeat' first|constructor|exact ZQ|intro _)
   all_goals apply zL
   have e3:(eN.t σ).step l c p x=(.t a',x'):=e2.trans (Prod.ext (by cases hl<;>first|rfl|cases ho) rfl)
   exact aa e3 (.t hp hl ho) rfl HQ
  ·cases hl with
   |a=>cases ho
   |b=>cases ho
   |d hi=>
    (repeat' first|constructor|exact ZQ|intro _)
    all_goals apply zL
    obtain⟨h3,h4⟩:=hi
    exact aa (e2.trans (Prod.ext (if_neg (by omega)) rfl)) (.l ⟨h3,h4⟩ ⟨by omega,by omega⟩) rfl HQ
   |n hi=>
    subst hi
    (repeat' first|constructor|exact ZQ|intro _)
    all_goals apply zL
    exact aa e2 .d rfl HQ
 |@l i j n qa qb one hi hn=>
  have hb:=Me.ai hx (l.a.f.fJ+i)
  refine Vx.fm H bC (b:=Tryz.a785) ?_;(repeat' first|constructor|exact ZQ|intro _);all_goals apply zL
  exact aa rfl (.f hi hn (by omega) (.l hi (.a hi)) rfl) rfl HQ
 |@f i j n qa qb qf σ lf hi hn hj h ho=>
  refine Vx.fm H bC (b:=Tryz.a785) ?_;(repeat' first|constructor|exact ZQ|intro _);all_goals apply zL
  refine Vx.fz (A:=[_]) (fun B W S H=>FW hs.1 hx h H) fun a' x' l' e hl=>?_
  have e2:(eN.f i j n σ).step l c p x=(if a'.over then(if j<0∨l.a.f.size≤j∨l.a.f.size≤n+1 then .d (n+1) 0 else .l j (n+1)) else .f i j n a',x'):=by
   show(_,_)=_
   rw[e]
  cases ho:a'.over
  ·(repeat' first|constructor|exact ZQ|intro _)
   all_goals apply zL
   have e3:(eN.f i j n σ).step l c p x=(.f i j n a',x'):=e2.trans (Prod.ext (if_neg (by rw[ho];simp)) rfl)
   exact aa e3 (.f hi hn hj hl ho) rfl HQ
  ·(repeat' first|constructor|exact ZQ|intro _)
   all_goals apply zL
   ·exact aa (e2.trans (Prod.ext ((if_pos ho).trans (if_pos (by omega))) rfl)) .d rfl HQ
   ·exact aa (e2.trans (Prod.ext ((if_pos ho).trans (if_pos (by omega))) rfl)) .d rfl HQ
   ·exact aa (e2.trans (Prod.ext ((if_pos ho).trans (if_pos (by omega))) rfl)) .d rfl HQ
   ·exact aa (e2.trans (Prod.ext ((if_pos ho).trans (if_neg (by omega))) rfl)) (.l ⟨by omega,by omega⟩ ⟨by omega,by omega⟩) rfl HQ
 |d=>
  refine Vx.fm H bC (b:=Tryz.a785) ?_;(repeat' first|constructor|exact ZQ|intro _);all_goals apply zL
  exact aa rfl .d rfl .rfl'
end
end
section
def Rn.ok (r:Rn):Prop:=(0≤r.head∧r.head<100000)∧(0≤r.tail∧r.tail<100000)∧(0≤r.eE∧r.eE<100000)∧1≤r.size∧r.size≤4096
def Rn.cs (r:Rn):List AV:=[I r.head,I r.tail,I r.eE,I r.size]
instance UM {a b c d t:Int}:VC EM (zF 353) [.agg [I a,I b,I c,I d],U t] (Me.ar t∧(0≤c∧c<100000)∧1≤d∧d≤4096) (I (c+t%d)):=.of rfl rfl fun⟨h1,h2,h3,h4⟩=>by
 show Zx EM false (Tryz.a353 _) _ _ _ _
 have h5:=Int.emod_lt_of_pos t (show 0<d by omega)
 have h6:=Int.emod_nonneg t (show d≠0 by omega)
 have e1:d%18446744073709551616=d:=by omega
 (repeat' first|constructor|exact ZQ|intro _)
 all_goals apply zL
 all_goals(try rw[e1] at*)
 all_goals first|omega|exact⟨rfl,rfl⟩
instance ZF {a b c d t:Int}:VC EM (zF 468) [.agg [I a,I b,I c,I d],U t] (Me.ar t∧1≤d∧d≤4096) (Z .u32 (t/d%4294967296)):=.of rfl rfl fun⟨h1,h2,h3⟩=>by
 show Zx EM false (Tryz.a468 _) _ _ _ _
 have e1:d%18446744073709551616=d:=by omega
 (repeat' first|constructor|exact ZQ|intro _)
 all_goals apply zL
 rw[e1];exact⟨rfl,rfl⟩
theorem FX {w:Int}(h:0≤w):(xl w 65536≠0)↔w/65536%2=1:=by
 obtain⟨n,rfl⟩:∃n:Nat,w=n:=⟨w.toNat,by omega⟩
 have hb:n.testBit 16=decide (n/65536%2=1):=Nat.testBit_eq_decide_div_mod_eq
 have e:xl (n:Int) 65536=((n&&&65536:Nat):Int):=rfl
 have h2:n&&&65536=if n.testBit 16 then 65536 else 0:=by
  apply Nat.eq_of_testBit_eq
  intro i
  have h6:(65536:Nat).testBit i=decide (16=i):=Nat.testBit_two_pow (n:=16)
  rw[Nat.testBit_and,h6]
  by_cases ht:n.testBit 16=true
  ·rw[if_pos ht,h6]
   by_cases hi:16=i
   ·subst hi;rw[ht];rfl
   ·simp[hi]
  ·rw[if_neg ht,Nat.zero_testBit]
   by_cases hi:16=i
   ·subst hi;simpa using ht
   ·simp[hi]
 rw[e,h2,hb]
 by_cases h3:n/65536%2=1
 ·simp only[h3,decide_true,if_true];omega
 ·simp only[h3,decide_false];simp;omega
theorem Pj {w l:Int}(hw:Me.ar w):w/2^32%4294967296=l↔w/4294967296=l:=by
 simp only[Int.reducePow]
 rw[Int.emod_eq_of_lt (by omega) (by omega)]
instance W7 {w l:Int}:VC EM (zF 467) [U w,Z .u32 l] (Me.ar w) (B (decide (kg w l))):=.of rfl rfl fun h=>by
 show Zx EM false (Tryz.a467 _) _ _ _ _
 have hu:=FX h.1
 have hh:=Pj (l:=l) h
 (repeat' first|constructor|exact ZQ|intro _)
 all_goals apply zL
 ·next h1 h2=>exact⟨rfl,by rw[decide_eq_true (show kg w l from⟨hh.1 h1,hu.1 h2⟩)];rfl⟩
 ·next h1 h2=>exact⟨rfl,by rw[decide_eq_false (fun(q:kg w l)=>h2 (hu.2 q.2))];rfl⟩
 ·next h1=>exact⟨rfl,by rw[decide_eq_false (fun(q:kg w l)=>h1 (hh.2 q.1))];rfl⟩
instance UN {w l:Int}:VC EM (zF 592) [U w,Z .u32 l] (Me.ar w) (B (decide (iM w l))):=.of rfl rfl fun h=>by
 show Zx EM false (Tryz.a592 _) _ _ _ _
 have hu:=FX h.1
 have hh:=Pj (l:=l) h
 (repeat' first|constructor|exact ZQ|intro _)
 all_goals apply zL
 ·next h1 h2=>exact⟨rfl,by rw[decide_eq_true (show iM w l from⟨hh.1 h1,by have:=mt hu.2 (fun h3=>h3 h2);omega⟩)];rfl⟩
 ·next h1 h2=>exact⟨rfl,by rw[decide_eq_false (fun(q:iM w l)=>by have:=hu.1 h2;have:=q.2;omega)];rfl⟩
 ·next h1=>exact⟨rfl,by rw[decide_eq_false (fun(q:iM w l)=>h1 (hh.2 q.1))];rfl⟩
instance UO {w:Int}:VC EM (zF 354) [U w] (Me.ar w) (I (w%65536)):=.of rfl rfl fun h=>by
 show Zx EM false (Tryz.a354 _) _ _ _ _
 (repeat' first|constructor|exact ZQ|intro _)
 all_goals apply zL
instance rOf {l:Int}:VC EM (zF 504) [Z .u32 l] (0≤l∧l<4294967296) (U (l*4294967296)):=.of rfl rfl fun h=>by
 show Zx EM false (Tryz.a504 _) _ _ _ _
 (repeat' first|constructor|exact ZQ|intro _)
 all_goals apply zL
 refine⟨rfl,?_⟩
 show U _=U _
 congr 2
 simp only[Int.reducePow]
 omega
theorem W8 {l v:Int}(h:0≤l∧l<4294967296)(hv:0≤v∧v<65536):mj (mj (l*4294967296) 65536) v=l*4294967296+65536+v:=by
 have e1:mj (l*4294967296) 65536=(l*65536+1)*2^16:=by
  have:=qG (a:=l) (b:=65536) (i:=32) h.1 (by omega) (by omega)
  simp only[Int.reducePow] at this
  rw[this];omega
 rw[e1,qG (by omega) hv.1 (by omega)];omega
instance W9 {l v:Int}:VC EM (zF 616) [U (l*4294967296),I v] ((0≤l∧l<4294967296)∧0≤v∧v<65536) (U (l*4294967296+65536+v)):=.of rfl rfl fun⟨h,hv⟩=>by
 show Zx EM false (Tryz.a616 _) _ _ _ _
 have e1:l*4294967296-l*4294967296%65536=l*4294967296:=by omega
 have e2:v%18446744073709551616=v:=by omega
 have e3:mj (l*4294967296) 65536=l*4294967296+65536:=by
  have:=qG (a:=l) (b:=65536) (i:=32) h.1 (by omega) (by omega)
  simpa only[Int.reducePow] using this
 (repeat' first|constructor|exact ZQ|intro _)
 all_goals apply zL
 ·rw[e1,e3,e2];omega
 ·rw[e1,e2,W8 h hv];exact⟨rfl,rfl⟩
instance z16 {n:Nat}[Mn n [249,409,488,695,495,387,489,553,593,617,594,694,393,494,558,395,396,289,410,505]]:cF n where
def Rn.row (r:Rn)(nx:AV)(er:Int):List AV:=r.cs++[nx,B true,I er]
theorem Rn.lN (r:Rn)(t:Int):0≤r.rY t∧r.rY t<4294967296:=by unfold Rn.rY;omega
inductive kl (r:Rn)(v:Int)(q:Nat):dj→List Own→Prop
 |a {t w:Int}(hv:0≤v∧v<65536):kl r v q .a [.obj q (.row (r.row (.fn (.func 489) [.ptr q 0] []) 0++[I v,U t,U w]))]
 |b {t w:Int}(hv:0≤v∧v<65536)(ht:Me.ar t):kl r v q (.b t) [.obj q (.row (r.row (.fn (.func 553) [.ptr q 0] []) 0++[I v,U t,U w]))]
 |c {t w:Int}(hv:0≤v∧v<65536)(ht:Me.ar t)(hw:Me.ar w):kl r v q (.c t w) [.obj q (.row (r.row (.fn (.func 593) [.ptr q 0] []) 0++[I v,U t,U w]))]
 |l {t w:Int}(hv:0≤v∧v<65536)(ht:Me.ar t):kl r v q (.l t) [.obj q (.row (r.row (.fn (.func 617) [.ptr q 0] []) 0++[I v,U t,U w]))]
 |h {t w:Int}(hv:0≤v∧v<65536)(ht:Me.ar t):kl r v q (.h t) [.obj q (.row (r.row (.fn (.func 594) [.ptr q 0] []) 0++[I v,U t,U w]))]
 |d {t w e:Int}:kl r v q (.d e) [.obj q (.row (r.row Nf e++[I v,U t,U w]))]
inductive ji (r:Rn)(q:Nat):fj→List Own→Prop
 |a {h:Int}:ji r q .a [.obj q (.row (r.row (.fn (.func 494) [.ptr q 0] []) 0++[U h,I 0]))]
 |b {h:Int}(hh:Me.ar h):ji r q (.b h) [.obj q (.row (r.row (.fn (.func 558) [.ptr q 0] []) 0++[U h,I 0]))]
 |d {h v e:Int}(hh:Me.ar h)(hv:0≤v∧v<65536):ji r q (.d h v e) [.obj q (.row (r.row Nf e++[U h,I v]))]
inductive pT (r:Rn)(h:Int)(q:Nat):kN→List Own→Prop
 |a (hh:Me.ar h):pT r h q .a [.obj q (.row (r.row (.fn (.func 410) [.ptr q 0] []) 0++[U h]))]
 |b (hh:Me.ar h):pT r h q .b [.obj q (.row (r.row (.fn (.func 505) [.ptr q 0] []) 0++[U h]))]
 |d:pT r h q .d [.obj q (.row (r.row Nf 0++[U h]))]
section
variable{B0 S:AH}{W:List Nat}{own R lo:List Own}{ro:List aQ}{m bl q:Nat}{x:Me}{rest:List AV}{r:Rn}{v g:Int}
theorem C6 {σ}(hs:r.ok)(hx:x.gd)(h:kl r v q σ lo)(H:Cx B0 W S (lo++(ad m bl x rest++R)) ro):
  aO EM (zF 693) [.ptr q 0,.ptr m 0] S fun u S'=>∃ab,eD (kl r v q) dj.over (σ.step r v x) (ad m bl · rest) R u ab∧Cx B0 W S' ab ro:=by
 have bn:=hs
 unfold Rn.ok at bn
 cases h with
 |a hv=>
  refine Vx.fm H bC (b:=Tryz.a693) ?_;(repeat' first|constructor|exact ZQ|intro _);all_goals apply zL
  exact aa rfl (.b hv (Me.ai hx _)) rfl HQ
 |@b t w hv ht=>
  have hb:=r.lN t
  have el:(t/r.size%4294967296-1)%4294967296=(r.rY t+4294967296-1)%4294967296:=by unfold Rn.rY;omega
  refine Vx.fm H bC (b:=Tryz.a693) ?_;(repeat' first|constructor|exact ZQ|intro _);all_goals apply zL
  ·next e=>exact aa (Prod.ext (if_pos e) rfl) (.c hv ht (Me.ai hx _)) rfl HQ
  ·next e e2=>exact aa (Prod.ext ((if_neg e).trans (if_pos (by rw[←el];exact e2))) rfl) .d rfl HQ
  ·next e e2=>exact aa (Prod.ext ((if_neg e).trans (if_neg (by rw[←el];exact e2))) rfl) (.h hv ht) rfl HQ
 |@c t w hv ht hw=>
  have hb:=r.lN t
  refine Vx.fm H bC (b:=Tryz.a693) ?_;(repeat' first|constructor|exact ZQ|intro _);all_goals apply zL
  ·next e=>exact aa (Prod.ext (if_pos e) rfl) (.l hv ht) rfl HQ
  ·next e=>exact aa (Prod.ext (if_neg e) rfl) (.h hv ht) rfl HQ
 |l hv ht=>
  refine Vx.fm H bC (b:=Tryz.a693) ?_;(repeat' first|constructor|exact ZQ|intro _);all_goals apply zL
  exact aa rfl .d rfl HQ
 |h hv ht=>
  refine Vx.fm H bC (b:=Tryz.a693) ?_;(repeat' first|constructor|exact ZQ|intro _);all_goals apply zL
  exact aa rfl (.a hv) rfl HQ
 |d=>
  refine Vx.fm H bC (b:=Tryz.a693) ?_;(repeat' first|constructor|exact ZQ|intro _);all_goals apply zL
  exact aa rfl .d rfl HQ
theorem wb {σ}(hs:r.ok)(hx:x.gd)(h:ji r q σ lo)(H:Cx B0 W S (lo++(ad m bl x rest++R)) ro):
  aO EM (zF 703) [.ptr q 0,.ptr m 0] S fun u S'=>∃ab,eD (ji r q) fj.over (σ.step r x) (ad m bl · rest) R u ab∧Cx B0 W S' ab ro:=by
 have bn:=hs
 unfold Rn.ok at bn
 cases h with
 |a=>
  refine Vx.fm H bC (b:=Tryz.a703) ?_;(repeat' first|constructor|exact ZQ|intro _);all_goals apply zL
  exact aa rfl (.b (Me.ai hx _)) rfl HQ
 |@b h hh=>
  refine Vx.fm H bC (b:=Tryz.a703) ?_;(repeat' first|constructor|exact ZQ|intro _);all_goals apply zL
  ·next e=>exact aa (Prod.ext (if_pos e) rfl) (.d hh (by omega)) rfl HQ
  ·next e=>exact aa (Prod.ext (if_neg e) rfl) (.d hh (by omega)) rfl HQ
 |d hh hv=>
  refine Vx.fm H bC (b:=Tryz.a703) ?_;(repeat' first|constructor|exact ZQ|intro _);all_goals apply zL
  exact aa rfl (.d hh hv) rfl HQ
theorem yX {σ}(hs:r.ok)(hx:x.gd)(h:pT r g q σ lo)(H:Cx B0 W S (lo++(ad m bl x rest++R)) ro):
  aO EM (zF 697) [.ptr q 0,.ptr m 0] S fun u S'=>∃ab,eD (pT r g q) kN.over (σ.step r g x) (ad m bl · rest) R u ab∧Cx B0 W S' ab ro:=by
 have bn:=hs
 unfold Rn.ok at bn
 cases h with
 |a hh=>
  have hb:=r.lN g
  refine Vx.fm H bC (b:=Tryz.a697) ?_;(repeat' first|constructor|exact ZQ|intro _);all_goals apply zL
  exact aa rfl (.b hh) rfl HQ
 |b hh=>
  refine Vx.fm H bC (b:=Tryz.a697) ?_;(repeat' first|constructor|exact ZQ|intro _);all_goals apply zL
  exact aa rfl .d rfl HQ
 |d=>
  refine Vx.fm H bC (b:=Tryz.a697) ?_;(repeat' first|constructor|exact ZQ|intro _);all_goals apply zL
  exact aa rfl .d rfl HQ
end
end
section
instance W_ {w n a:Int}:VC EM (zF 475) [U w,U n,U a] (Me.ar w∧(0≤n∧n≤1099511627776)∧0≤a∧a≤1099511627776) (B (decide (xo w n a))):=.of rfl rfl fun⟨h1,h2,h3⟩=>by
 show Zx EM false (Tryz.a475 _) _ _ _ _
 (repeat' first|constructor|exact ZQ|intro _)
 all_goals apply zL
 ·exact⟨rfl,by rw[decide_eq_false (fun(q:xo w n a)=>q.1 (by assumption))];rfl⟩
 ·exact⟨rfl,by rw[decide_eq_true (show xo w n a from⟨by omega,by omega⟩)];rfl⟩
 ·exact⟨rfl,by rw[decide_eq_true (show xo w n a from⟨by omega,by omega⟩)];rfl⟩
 ·exact⟨rfl,by rw[decide_eq_false (fun(q:xo w n a)=>by have:=q.2;omega)];rfl⟩
instance Xa {w:Int}:VC EM (zF 557) [U w] (Me.ar w) (.agg [I (w%256),I (w/256%256),I (w/4294967296)]):=.of rfl rfl fun h=>by
 show Zx EM false (Tryz.a557 _) _ _ _ _
 (repeat' first|constructor|exact ZQ|intro _)
 all_goals apply zL
theorem Xb {s c g:Int}(hs:0≤s∧s<256)(hc:0≤c∧c<256)(hg:0≤g∧g<4294967296):mj (mj s (c*256)) (g*4294967296)=jw s c g:=by
 have e1:=kh (a:=c) (b:=s) (i:=8) hc.1 hs.1 (by simpa using hs.2)
 have e2:=kh (a:=g) (b:=c*256+s) (i:=32) hg.1 (by omega) (by simp only[Int.reducePow];omega)
 simp only[Int.reducePow] at e1 e2
 rw[e1,e2];unfold jw;omega
instance ZG {s c g:Int}:VC EM (zF 160) [.agg [I s,I c,I g]] ((0≤s∧s<256)∧(0≤c∧c<256)∧0≤g∧g<4294967296) (U (jw s c g)):=.of rfl rfl fun⟨h1,h2,h3⟩=>by
 show Zx EM false (Tryz.a160 _) _ _ _ _
 have e1:s%18446744073709551616=s:=by omega
 have e2:c%18446744073709551616*2^8%18446744073709551616=c*256:=by simp only[Int.reducePow];omega
 have e3:g%18446744073709551616*2^32%18446744073709551616=g*4294967296:=by simp only[Int.reducePow];omega
 have e4:=kh (a:=c) (b:=s) (i:=8) h2.1 h1.1 (by simpa using h1.2)
 simp only[Int.reducePow] at e4
 (repeat' first|constructor|exact ZQ|intro _)
 all_goals apply zL
 all_goals(try rw[e1,e2] at*)
 all_goals(try rw[e3] at*)
 all_goals first|omega|skip
 rw[Xb h1 h2 h3];exact⟨rfl,rfl⟩
instance z17:cF 554 where
instance z18:cF 555 where
theorem yY {a b:ByteArray}(h:(a.toList==b.toList)=true)(hn:a.data.toList≠b.data.toList):False:=by
 have h2:=eq_of_beq h
 rw[ByteArray.toList_eq,ByteArray.toList_eq] at h2
 exact hn h2
instance UP:VC EM (zF 491) [I 2,I 3] True (B true):=.of rfl rfl fun _=>by
 show Zx EM false (Tryz.a491 _) _ _ _ _
 ((repeat' first|constructor|exact ZQ|intro _);all_goals apply zL;all_goals(exact absurd (by assumption) (fun h=>yY h (by decide))))
instance UQ:VC EM (zF 491) [I 3,I 2] True (B true):=.of rfl rfl fun _=>by
 show Zx EM false (Tryz.a491 _) _ _ _ _
 ((repeat' first|constructor|exact ZQ|intro _);all_goals apply zL;all_goals(exact absurd (by assumption) (fun h=>yY h (by decide))))
instance UR:VC EM (zF 491) [I 3,I 4] True (B true):=.of rfl rfl fun _=>by
 show Zx EM false (Tryz.a491 _) _ _ _ _
 ((repeat' first|constructor|exact ZQ|intro _);all_goals apply zL;all_goals(exact absurd (by assumption) (fun h=>yY h (by decide))))
instance US:VC EM (zF 491) [I 4,I 3] True (B true):=.of rfl rfl fun _=>by
 show Zx EM false (Tryz.a491 _) _ _ _ _
 ((repeat' first|constructor|exact ZQ|intro _);all_goals apply zL;all_goals(exact absurd (by assumption) (fun h=>yY h (by decide))))
instance UT:VC EM (zF 491) [I 4,I 5] True (B true):=.of rfl rfl fun _=>by
 show Zx EM false (Tryz.a491 _) _ _ _ _
 ((repeat' first|constructor|exact ZQ|intro _);all_goals apply zL;all_goals(exact absurd (by assumption) (fun h=>yY h (by decide))))
end
section
instance z19 {n:Nat}[Mn n [256,369,474,258,482,689,690,691,480,373,549,589,262,372,479,550,264,376,484,552,591,390,492,556,384,487,399,497,401]]:cF n where
inductive mZ (a e n:Int)(q:Nat):iF→List Own→Prop
 |a {w:Int}:mZ a e n q .a [.obj q (.row [B true,I a,U e,U n,U w,.fn (.func 369) [.ptr q 0] [],I 0])]
 |b {w:Int}(hw:Me.ar w):mZ a e n q (.b w) [.obj q (.row [B true,I a,U e,U n,U w,.fn (.func 474) [.ptr q 0] [],I 0])]
 |d {w er:Int}:mZ a e n q (.d er) [.obj q (.row [B true,I a,U e,U n,U w,Nf,I er])]
def Jb.ok (j:Jb):Prop:=j.f.ok∧(0≤j.bx∧j.bx<100000)∧(0≤j.keys∧j.keys<100000)
def Jb.row (j:Jb)(i w:Int)(nx th:AV)(er:Int):List AV:=[I j.bx,I j.keys,I j.f.top,I j.f.fJ,I j.f.size,I i,U w,nx,th,B true,I er]
inductive jP (j:Jb)(q:Nat):dI→List Own→Prop
 |p {i w:Int}{th}{qp:Nat}{σ l}(h:vi j.f qp σ l)(ho:σ.over=false):jP j q (.p σ) (.obj q (.row (j.row i w (.fn (.func 372) [.ptr q 0] []) th 0++[.ptr qp 0]))::l)
 |l {i w:Int}{th}{qp:Nat}(hi:0≤i∧i<j.f.size):jP j q (.l i) [.obj q (.row (j.row i w (.fn (.func 479) [.ptr q 0] []) th 0++[.ptr qp 0]))]
 |s {i w:Int}{th}{qp:Nat}(hi:0≤i∧i<j.f.size)(hw:Me.ar w):jP j q (.s i w) [.obj q (.row (j.row i w (.fn (.func 550) [.ptr q 0] []) th 0++[.ptr qp 0]))]
 |d {i w:Int}{th}{qp:Nat}(hi:0≤i∧i<j.f.size):jP j q (.d i 0) [.obj q (.row (j.row i w Nf th 0++[.ptr qp 0]))]
 |n {i w:Int}{th}{qp:Nat}:jP j q (.d 0 7) [.obj q (.row (j.row i w Nf th 7++[.ptr qp 0]))]
inductive nX (j:Jb)(i:Int)(q:Nat):dm→List Own→Prop
 |l {w:Int}{th}{qp:Nat}{l}(hi:0≤i∧i<j.f.size)(h:jN j.f i qp .a l):nX j i q .l (.obj q (.row (j.row i w (.fn (.func 484) [.ptr q 0] []) th 0++[.ptr qp 0]))::l)
 |s {w:Int}{th}{qp:Nat}{l}(hi:0≤i∧i<j.f.size)(hw:Me.ar w)(h:jN j.f i qp .a l):nX j i q (.s w) (.obj q (.row (j.row i w (.fn (.func 552) [.ptr q 0] []) th 0++[.ptr qp 0]))::l)
 |p {w:Int}{th}{qp:Nat}{σ l}(hi:0≤i∧i<j.f.size)(h:jN j.f i qp σ l)(ho:σ.over=false):nX j i q (.p σ) (.obj q (.row (j.row i w (.fn (.func 591) [.ptr q 0] []) th 0++[.ptr qp 0]))::l)
 |d {w er:Int}{th qp}:nX j i q (.d er) [.obj q (.row (j.row i w Nf th er++[qp]))]
inductive pU (j:Jb)(i fr to c:Int)(q:Nat):bE→List Own→Prop
 |l {w:Int}{th}(hi:0≤i∧i<j.f.size):pU j i fr to c q .l [.obj q (.row (j.row i w (.fn (.func 492) [.ptr q 0] []) th 0++[I fr,I to,I c]))]
 |s {w:Int}{th}(hi:0≤i∧i<j.f.size)(hw:Me.ar w):pU j i fr to c q (.s w) [.obj q (.row (j.row i w (.fn (.func 556) [.ptr q 0] []) th 0++[I fr,I to,I c]))]
 |d {w er:Int}{th}:pU j i fr to c q (.d er) [.obj q (.row (j.row i w Nf th er++[I fr,I to,I c]))]
inductive vk (j:Jb)(i k:Int)(q:Nat):bO→List Own→Prop
 |a {w:Int}{th}(hi:0≤i∧i<j.f.size):vk j i k q .a [.obj q (.row (j.row i w (.fn (.func 487) [.ptr q 0] []) th 0++[U k]))]
 |d {w v er:Int}{th}:vk j i k q (.d v er) [.obj q (.row (j.row i w Nf th er++[U k]))]
inductive iC (j:Jb)(i:Int)(q:Nat):bO→List Own→Prop
 |a {w:Int}{th}(hi:0≤i∧i<j.f.size):iC j i q .a [.obj q (.row (j.row i w (.fn (.func 497) [.ptr q 0] []) th 0))]
 |d {w:Int}{th}(hw:Me.ar w):iC j i q (.d w 0) [.obj q (.row (j.row i w Nf th 0))]
section
variable{B0 S:AH}{W:List Nat}{own R lo:List Own}{ro:List aQ}{m bl q:Nat}{x:Me}{rest:List AV}{j:Jb}{a e n i k fr to c:Int}
theorem yZ {σ}(hs:(0≤e∧e≤1099511627776)∧0≤n∧n≤1099511627776)(hx:x.gd)(h:mZ a e n q σ lo)(H:Cx B0 W S (lo++(ad m bl x rest++R)) ro):
  aO EM (zF 687) [.ptr q 0,.ptr m 0] S fun u S'=>∃ab,eD (mZ a e n q) iF.over (σ.step a e n x) (ad m bl · rest) R u ab∧Cx B0 W S' ab ro:=by
 cases h with
 |a=>
  refine Vx.fm H bC (b:=Tryz.a687) ?_;(repeat' first|constructor|exact ZQ|intro _);all_goals apply zL
  ·next h=>exact aa (Prod.ext (if_pos h) rfl) .d rfl HQ
  ·next h=>exact aa (Prod.ext (if_neg h) rfl) (.b (Me.ai hx _)) rfl HQ
 |@b w hw=>
  have e1:(n+1)%18446744073709551616=n+1:=by omega
  refine Vx.fm H bC (b:=Tryz.a687) ?_;(repeat' first|constructor|exact ZQ|intro _);all_goals apply zL
  all_goals rw[e1]
  ·next h=>exact aa (Prod.ext (if_neg (show¬x.eq a w by simpa using h)) rfl) .a rfl HQ
  ·next h=>exact aa (Prod.ext (if_pos (show x.eq a w by simpa using h)) rfl) .d rfl HQ
 |d=>
  refine Vx.fm H bC (b:=Tryz.a687) ?_;(repeat' first|constructor|exact ZQ|intro _);all_goals apply zL
  exact aa rfl .d rfl HQ
theorem nE {σ}(hs:j.ok)(hx:x.gd)(h:vk j i k q σ lo)(H:Cx B0 W S (lo++(ad m bl x rest++R)) ro):
  aO EM (zF 701) [.ptr q 0,.ptr m 0] S fun u S'=>∃ab,eD (vk j i k q) bO.over (σ.step j i k x) (ad m bl · rest) R u ab∧Cx B0 W S' ab ro:=by
 have bn:=hs
 unfold Jb.ok Sk.ok at bn
 cases h with
 |a hi=>
  refine Vx.fm H bC (b:=Tryz.a701) ?_;(repeat' first|constructor|exact ZQ|intro _);all_goals apply zL
  exact aa rfl .d rfl HQ
 |d=>
  refine Vx.fm H bC (b:=Tryz.a701) ?_;(repeat' first|constructor|exact ZQ|intro _);all_goals apply zL
  exact aa rfl .d rfl HQ
theorem iV {σ}(hs:j.ok)(hx:x.gd)(h:iC j i q σ lo)(H:Cx B0 W S (lo++(ad m bl x rest++R)) ro):
  aO EM (zF 704) [.ptr q 0,.ptr m 0] S fun u S'=>∃ab,eD (iC j i q) bO.over (σ.stepOf j i x) (ad m bl · rest) R u ab∧Cx B0 W S' ab ro:=by
 have bn:=hs
 unfold Jb.ok Sk.ok at bn
 cases h with
 |a hi=>
  refine Vx.fm H bC (b:=Tryz.a704) ?_;(repeat' first|constructor|exact ZQ|intro _);all_goals apply zL
  exact aa rfl (.d (Me.ai hx _)) rfl HQ
 |d hw=>
  refine Vx.fm H bC (b:=Tryz.a704) ?_;(repeat' first|constructor|exact ZQ|intro _);all_goals apply zL
  exact aa rfl (.d hw) rfl HQ
theorem y5 {σ}(hs:j.ok)(hf:0≤fr∧fr<6)(ht:0≤to∧to<6)(hc:0≤c∧c<64)(hx:x.gd)(h:pU j i fr to c q σ lo)(H:Cx B0 W S (lo++(ad m bl x rest++R)) ro):
  aO EM (zF 702) [.ptr q 0,.ptr m 0] S fun u S'=>∃ab,eD (pU j i fr to c q) bE.over (σ.step j i fr to c x) (ad m bl · rest) R u ab∧Cx B0 W S' ab ro:=by
 have bn:=hs
 unfold Jb.ok Sk.ok at bn
 cases h with
 |l hi=>
  have hb:=Me.ai hx (j.bx+i)
  refine Vx.fm H bC (b:=Tryz.a702) ?_;(repeat' first|constructor|exact ZQ|intro _);all_goals apply zL
  ·next h=>exact aa (Prod.ext (if_neg (fun q=>h q.1)) rfl) .d rfl HQ
  ·next h3 h4 h=>
   have ZH:fr=4:=by omega
   exact aa (Prod.ext (if_neg (fun q=>q.2.elim (fun z=>z ZH) h)) rfl) .d rfl HQ
  ·next h3 h4 h=>exact aa (Prod.ext (if_pos ⟨Decidable.not_not.1 h3,.inr (Decidable.not_not.1 h)⟩) rfl) (.s hi hb) rfl HQ
  ·next h3 h=>exact aa (Prod.ext (if_pos ⟨Decidable.not_not.1 h3,.inl (by omega)⟩) rfl) (.s hi hb) rfl HQ
 |@s w th hi hw=>
  have e1:(w/4294967296+0)%4294967296=w/4294967296:=by omega
  have e2:(bE.s w).step j i fr to c x=(if x.eq (j.bx+i) w then .d 0 else .l,x.eh (j.bx+i) w (jw to (if to=4 then c else 0) (w/4294967296))):=rfl
  refine Vx.fm H bC (b:=Tryz.a702) ?_;(repeat' first|constructor|exact ZQ|intro _);all_goals apply zL
  all_goals rw[e1]
  all_goals rw[e2]
  ·next h4 h=>
   rw[if_pos h4,if_pos h]
   exact aa rfl .d rfl HQ
  ·next h4 h=>
   rw[if_pos h4,if_neg h]
   exact aa rfl (.l hi) rfl HQ
  ·next h4 h=>
   rw[if_neg h4,if_pos h]
   exact aa rfl .d rfl HQ
  ·next h4 h=>
   rw[if_neg h4,if_neg h]
   exact aa rfl (.l hi) rfl HQ
 |d=>
  refine Vx.fm H bC (b:=Tryz.a702) ?_;(repeat' first|constructor|exact ZQ|intro _);all_goals apply zL
  exact aa rfl .d rfl HQ
theorem y6 {σ}(hs:j.ok)(hx:x.gd)(h:nX j i q σ lo)(H:Cx B0 W S (lo++(ad m bl x rest++R)) ro):
  aO EM (zF 700) [.ptr q 0,.ptr m 0] S fun u S'=>∃ab,eD (nX j i q) dm.over (σ.step j i x) (ad m bl · rest) R u ab∧Cx B0 W S' ab ro:=by
 have bn:=hs
 unfold Jb.ok Sk.ok at bn
 cases h with
 |@l w th qp l hi h=>
  have hb:=Me.ai hx (j.bx+i)
  refine Vx.fm H bC (b:=Tryz.a700) ?_;(repeat' first|constructor|exact ZQ|intro _);all_goals apply zL
  ·next h5 h2=>exact aa (Prod.ext (if_neg (fun q=>q.elim h5 h2)) rfl) .d rfl HQ
  ·next h5 h2=>exact aa (Prod.ext (if_pos (.inr (Decidable.not_not.1 h2))) rfl) (.s hi hb h) rfl HQ
  ·next h5=>exact aa (Prod.ext (if_pos (.inl (Decidable.not_not.1 h5))) rfl) (.s hi hb h) rfl HQ
 |@s w th qp l hi hw h=>
  have e1:(w/4294967296+0)%4294967296=w/4294967296:=by omega
  have e2:(dm.s w).step j i x=(if x.eq (j.bx+i) w then .p .a else .l,x.eh (j.bx+i) w (jw 1 0 (w/4294967296))):=rfl
  refine Vx.fm H bC (b:=Tryz.a700) ?_;(repeat' first|constructor|exact ZQ|intro _);all_goals apply zL
  all_goals rw[e1,e2]
  ·next h3=>
   rw[if_pos h3]
   exact aa rfl (.p hi h rfl) rfl HQ
  ·next h3=>
   rw[if_neg h3]
   exact aa rfl (.l hi h) rfl HQ
 |@p w th qp σ l hi h ho=>
  refine Vx.fm H bC (b:=Tryz.a700) ?_;(repeat' first|constructor|exact ZQ|intro _);all_goals apply zL
  refine Vx.fz (A:=[_,_,_]) (fun B W S H=>tQ hs.1 hx h H) fun a' x' l' e hl=>?_
  have e2:(dm.p σ).step j i x=(if a'.over then .d 0 else .p a',x'):=by
   show(_,_)=_
   rw[e]
  cases ho:a'.over
  ·(repeat' first|constructor|exact ZQ|intro _)
   all_goals apply zL
   have e3:(dm.p σ).step j i x=(.p a',x'):=e2.trans (Prod.ext (if_neg (by rw[ho];simp)) rfl)
   exact aa e3 (.p hi hl ho) rfl HQ
  ·cases hl with
   |a=>cases ho
   |b=>cases ho
   |c=>cases ho
   |d=>
    (repeat' first|constructor|exact ZQ|intro _)
    all_goals apply zL
    exact aa e2 .d rfl HQ
 |d=>
  refine Vx.fm H bC (b:=Tryz.a700) ?_;(repeat' first|constructor|exact ZQ|intro _);all_goals apply zL
  exact aa rfl .d rfl HQ
theorem y7 {σ}(hs:j.ok)(hx:x.gd)(h:jP j q σ lo)(H:Cx B0 W S (lo++(ad m bl x rest++R)) ro):
  aO EM (zF 688) [.ptr q 0,.ptr m 0] S fun u S'=>∃ab,eD (jP j q) dI.over (σ.step j x) (ad m bl · rest) R u ab∧Cx B0 W S' ab ro:=by
 have bn:=hs
 unfold Jb.ok Sk.ok at bn
 cases h with
 |@p i w th qp σ l h ho=>
  refine Vx.fm H bC (b:=Tryz.a688) ?_;(repeat' first|constructor|exact ZQ|intro _);all_goals apply zL
  refine Vx.fz (A:=[_,_,_]) (fun B W S H=>BY hs.1 hx h H) fun a' x' l' e hl=>?_
  have e2:(dI.p σ).step j x=(dI.jL a',x'):=by
   show(dI.jL _,_)=_
   rw[e]
  cases ho:a'.over
  ·(repeat' first|constructor|exact ZQ|intro _)
   all_goals apply zL
   have e3:(dI.p σ).step j x=(.p a',x'):=e2.trans (Prod.ext (by cases hl<;>first|rfl|cases ho) rfl)
   exact aa e3 (.p hl ho) rfl HQ
  ·cases hl with
   |a=>cases ho
   |b=>cases ho
   |c=>cases ho
   |d hi=>
    (repeat' first|constructor|exact ZQ|intro _)
    all_goals apply zL
    exact aa (e2.trans (Prod.ext (if_neg (by omega)) rfl)) (.l hi) rfl HQ
   |n hi=>
    (repeat' first|constructor|exact ZQ|intro _)
    all_goals apply zL
    exact aa e2 .n rfl HQ
 |@l i w th qp hi=>
  have hb:=Me.ai hx (j.bx+i)
  refine Vx.fm H bC (b:=Tryz.a688) ?_;(repeat' first|constructor|exact ZQ|intro _);all_goals apply zL
  exact aa rfl (.s hi hb) rfl HQ
 |@s i w th qp hi hw=>
  have e2:(dI.s i w).step j x=(if x.eq (j.bx+i) w then .d i 0 else .l i,x.eh (j.bx+i) w (jw 2 0 ((w/4294967296+1)%4294967296))):=rfl
  refine Vx.fm H bC (b:=Tryz.a688) ?_;(repeat' first|constructor|exact ZQ|intro _);all_goals apply zL
  all_goals rw[e2]
  ·next h=>
   rw[if_pos h]
   exact aa rfl (.d hi) rfl HQ
  ·next h=>
   rw[if_neg h]
   exact aa rfl (.l hi) rfl HQ
 |d hi=>
  refine Vx.fm H bC (b:=Tryz.a688) ?_;(repeat' first|constructor|exact ZQ|intro _);all_goals apply zL
  exact aa rfl (.d hi) rfl HQ
 |n=>
  refine Vx.fm H bC (b:=Tryz.a688) ?_;(repeat' first|constructor|exact ZQ|intro _);all_goals apply zL
  exact aa rfl .n rfl HQ
end
end
section
def Tw.ok (t:Tw):Prop:=(0≤t.nd∧t.nd<4096)∧(0≤t.hd∧t.hd<4096)∧(1≤t.ht∧t.ht≤4)∧t.l.a.f.size≤128∧t.l.ok
def Tw.cs (t:Tw):List AV:=I t.nd::I t.hd::I t.ht::t.l.cs
def oX (nd ht i k:Int):Int:=nd+i*(4+ht)+k
def AK (nd hd ht i l:Int):Int:=if i=-1 then hd+l else oX nd ht i (4+l)
instance z20 {n:Nat}[Mn n [136,150,149,151,137,684]]:cF n where
section
variable{nd hd ht c3 c4 n c6 c7 c8 c9 dz cT dx i k l:Int}
instance RT:VC EM (zF 133) [.agg [I nd,I hd,I ht,I c3,I c4,I n,I c6,I c7,I c8,I c9,I dz,I cT,I dx]] ((0≤nd∧nd<4096)∧(0≤hd∧hd<4096)∧(1≤ht∧ht≤4)∧1≤n∧n≤128) (B true):=.of rfl rfl fun h=>by
 show Zx EM false (Tryz.a133 _) _ _ _ _
 (repeat' first|constructor|exact ZQ|intro _)
 all_goals apply zL
instance RU:mi EM 219 "coxswain/tower.cells" 137:=⟨fun _=>by kernel_rfl⟩
instance RV:mi EM 232 "coxswain/tower.cells" 684:=⟨fun _=>by kernel_rfl⟩
instance z21:cF 61 where
instance UU:VC EM (zF 609) [.agg [I nd,I hd,I ht,I c3,I c4,I n,I c6,I c7,I c8,I c9,I dz,I cT,I dx],I i,I l] (((0≤nd∧nd<4096)∧(0≤hd∧hd<4096)∧(1≤ht∧ht≤4)∧1≤n∧n≤128)∧(-1≤i∧i<n)∧0≤l∧l<ht) (I (AK nd hd ht i l)):=.of rfl rfl fun⟨h,hi,hk⟩=>by
 by_cases h0:i=-1
 ·subst h0
  show Zx EM false (Tryz.a609 _) _ _ _ _
  (repeat' first|constructor|exact ZQ|intro _)
  all_goals apply zL
  have e:hd+0*ht+(4+l-4)=hd+l:=by omega
  exact⟨rfl,by rw[e];unfold AK;rw[if_pos rfl];rfl⟩
 ·have e:AK nd hd ht i l=oX nd ht i (4+l):=if_neg h0
  rw[e]
  show Zx EM false (Tryz.a609 _) _ _ _ _
  have h1:0≤i*(4+ht):=Int.mul_nonneg (by omega) (by omega)
  have h2:i*(4+ht)≤128*8:=Int.mul_le_mul (by omega) (by omega) (by omega) (by omega)
  (repeat' first|constructor|exact ZQ|intro _)
  all_goals apply zL
instance Xd:VC EM (zF 61) [.agg [I nd,I hd,I ht,I c3,I c4,I n,I c6,I c7,I c8,I c9,I dz,I cT,I dx],I i,I k] (((0≤nd∧nd<4096)∧(0≤hd∧hd<4096)∧(1≤ht∧ht≤4)∧1≤n∧n≤128)∧(0≤i∧i<n)∧0≤k∧k<4+ht) (I (oX nd ht i k)):=.of rfl rfl fun⟨h,hi,hk⟩=>by
 show Zx EM false (Tryz.a61 _) _ _ _ _
 have h1:0≤i*(4+ht):=Int.mul_nonneg hi.1 (by omega)
 have h2:i*(4+ht)≤128*8:=Int.mul_le_mul (by omega) (by omega) (by omega) (by omega)
 (repeat' first|constructor|exact ZQ|intro _)
 all_goals apply zL
end
end
section
def Tw.rf (t:Tw)(i g:Int):Prop:=cX i g∧i<t.l.a.f.size
theorem Tw.wc {t:Tw}{i g:Int}(h:t.rf i g):t.ix (aC i g)=i:=by
 have h1:=qH h.1
 unfold Tw.ix idx Tw.size
 rw[h1,if_pos h.2]
section
variable{nd hd ht c3 c4 n c6 c7 c8 c9 dz cT dx i k l g aq high:Int}
instance Nq:VC EM (zF 630) [.agg [I nd,I hd,I ht,I c3,I c4,I n,I c6,I c7,I c8,I c9,I dz,I cT,I dx],U (aC i g),I aq,I high] (((0≤nd∧nd<4096)∧(0≤hd∧hd<4096)∧(1≤ht∧ht≤4)∧1≤n∧n≤128)∧(cX i g∧i<n)∧(0≤aq∧aq≤65534)∧1≤high∧high≤ht) (I 0):=.of rfl rfl fun⟨h,hi,hj,hh⟩=>by
 have jq:=hi
 unfold cX at jq
 show Zx EM false (Tryz.a630 _) _ _ _ _
 (repeat' first|constructor|exact ZQ|intro _)
 all_goals apply zL
 exact hi.1
instance RW:VC EM (zF 631) [.agg [I nd,I hd,I ht,I c3,I c4,I n,I c6,I c7,I c8,I c9,I dz,I cT,I dx],U (aC i g)] (cX i g∧i<n) (I i):=.of rfl rfl fun⟨hi,hn⟩=>by
 have jq:=hi
 unfold cX at jq
 have hw:=ki hi
 have hx:=qH hi
 show Zx EM false (Tryz.a631 _) _ _ _ _
 (repeat' first|constructor|exact ZQ|intro _)
 all_goals apply zL
 exact⟨rfl,by rw[hx];rfl⟩
end
instance z22 {n:Nat}[Mn n [758,621,632,633]]:cF n where
def B4 (pt pi a b:Nat):AV:=.fn (.func 633) [] [.ptr pt 0,.ptr pi 0,.ptr a 0,.ptr b 0]
inductive y8 (t:Tw)(i g key aq high:Int)(q:Nat):lK→List Own→Prop
 |s {k:Nat}{pt pi a0 b0 a1 b1 a2 b2 a3 b3:Nat}(hk:k<4):y8 t i g key aq high q (.s k) [.obj q (.row [B true,U (aC i g),B4 pt pi a0 b0,B4 pt pi a1 b1,B4 pt pi a2 b2,B4 pt pi a3 b3,I k,I 0]),.obj pt (.row t.cs),.obj pi (.row [I i]),.obj a0 (.row [I 0]),.obj b0 (.row [U key]),.obj a1 (.row [I 1]),.obj b1 (.row [U aq]),.obj a2 (.row [I 2]),.obj b2 (.row [U high]),.obj a3 (.row [I 3]),.obj b3 (.row [U 2])]
 |d {f0 f1 f2 f3}:y8 t i g key aq high q (.d 0) [.obj q (.row [B true,U (aC i g),f0,f1,f2,f3,I 4,I 0])]
section
variable{B0 S:AH}{W:List Nat}{own R lo:List Own}{ro:List aQ}{m bl q:Nat}{x:Me}{rest:List AV}{t:Tw}{i g key aq high:Int}
theorem B5 {σ:lK}(hs:t.ok)(hr:t.rf i g)(hx:x.gd)(h:y8 t i g key aq high q σ lo)(H:Cx B0 W S (lo++(ad m bl x rest++R)) ro):
  aO EM (zF 757) [.ptr q 0,.ptr m 0] S fun u S'=>∃ab,eD (y8 t i g key aq high q) lK.over (σ.step t (aC i g) key aq high x) (ad m bl · rest) R u ab∧Cx B0 W S' ab ro:=by
 have bn:=hs
 unfold Tw.ok Lb.ok Ar.ok Sk.ok Ep.ok at bn
 have ox:=hr
 unfold Tw.rf cX at ox
 have kZ:=Tw.wc hr
 haveI:aS:=⟨⟩
 cases h with
 |@s k pt pi a0 b0 a1 b1 a2 b2 a3 b3 hk=>
  match k,hk with
  |0,_=>
   have e:(lK.s 0).step t (aC i g) key aq high x=(.s 1,x.st (t.pt i 0) key):=by
    show(_,x.st (t.pt (t.ix _) 0) key)=_;rw[kZ]
   refine Vx.fm H bC (b:=Tryz.a757) ?_;(repeat' first|constructor|exact ZQ|intro _);all_goals apply zL
   exact aa e (.s (by omega)) rfl HQ
  |1,_=>
   have e:(lK.s 1).step t (aC i g) key aq high x=(.s 2,x.st (t.pt i 1) aq):=by
    show(_,x.st (t.pt (t.ix _) 1) aq)=_;rw[kZ]
   refine Vx.fm H bC (b:=Tryz.a757) ?_;(repeat' first|constructor|exact ZQ|intro _);all_goals apply zL
   exact aa e (.s (by omega)) rfl HQ
  |2,_=>
   have e:(lK.s 2).step t (aC i g) key aq high x=(.s 3,x.st (t.pt i 2) high):=by
    show(_,x.st (t.pt (t.ix _) 2) high)=_;rw[kZ]
   refine Vx.fm H bC (b:=Tryz.a757) ?_;(repeat' first|constructor|exact ZQ|intro _);all_goals apply zL
   exact aa e (.s (by omega)) rfl HQ
  |3,_=>
   have e:(lK.s 3).step t (aC i g) key aq high x=(.d 0,x.st (t.pt i 3) 2):=by
    show(_,x.st (t.pt (t.ix _) 3) 2)=_;rw[kZ]
   refine Vx.fm H bC (b:=Tryz.a757) ?_;(repeat' first|constructor|exact ZQ|intro _);all_goals apply zL
   exact aa e .d rfl HQ
 |d=>
  refine Vx.fm H bC (b:=Tryz.a757) ?_;(repeat' first|constructor|exact ZQ|intro _);all_goals apply zL
  exact aa rfl .d rfl HQ
end
def gQ:List Int→fL→List AV
 |v::L,s::T=>I v::I s.pred::U s.known::U s.cur::gQ L T
 |_,_=>[]
def Sp.ok (t:Tw)(s:Sp):Prop:=(-1≤s.pred∧s.pred<t.l.a.f.size)∧Me.ar s.known∧Me.ar s.cur
def fL.ok (t:Tw)(T:fL):Prop:=(T.length:Int)=t.ht∧∀s∈T,s.ok t
instance z23 {n:Nat}[Mn n [661,664,658,736,733]]:cF n where
def AL:Nat→Int|0=>9|_+1=>1
def Jz:Nat→Int|0=>0|l+1=>l
def JA:Nat→Int→Int|0,c=>c|_+1,_=>0
theorem rZ {α:Type}{l:List α}(h:l.length=1):∃a,l=[a]:=match l,h with|[a],_=>⟨a,rfl⟩
theorem r7 {α:Type}{l:List α}(h:l.length=2):∃a b,l=[a,b]:=match l,h with|[a,b],_=>⟨a,b,rfl⟩
theorem r8 {α:Type}{l:List α}(h:l.length=3):∃a b c,l=[a,b,c]:=match l,h with|[a,b,c],_=>⟨a,b,c,rfl⟩
theorem r9 {α:Type}{l:List α}(h:l.length=4):∃a b c d,l=[a,b,c,d]:=match l,h with|[a,b,c,d],_=>⟨a,b,c,d,rfl⟩
section
variable{nd hd ht c3 c4 n c6 c7 c8 c9 dz cT dx key ln lv pred known cur w cz er:Int}{told:AV}{q qt k:Nat}{R0:List Own}{L:List Int}{T:fL}
instance Pl:SC EM (zF 651) [.ptr q 0] (.obj q (.row [I nd,I hd,I ht,I c3,I c4,I n,I c6,I c7,I c8,I c9,I dz,I cT,I dx,U key,I ln,I lv,I pred,U known,U cur,U w,.sl qt 0 k k,U cz,B true,I er])::R0) (1≤ht∧ht≤4) uv
  (.obj q (.row [I nd,I hd,I ht,I c3,I c4,I n,I c6,I c7,I c8,I c9,I dz,I cT,I dx,U key,I 1,I (ht-1),I (-1),U 0,U 0,U w,.sl qt 0 k k,U cz,B true,I er])::R0):=.of rfl rfl fun h ro R=>by
 show Zx EM false (Tryz.a651 _) _ _ _ _
 haveI:aS:=⟨⟩
 (repeat' first|constructor|exact ZQ|intro _)
 all_goals apply zL
 exact⟨rfl,rfl,_,⟨rfl,rfl⟩,HQ⟩
instance Pm {l:Nat}:SC EM (zF 737) [.ptr q 0] (.obj q (.row [I nd,I hd,I ht,I c3,I c4,I n,I c6,I c7,I c8,I c9,I dz,I cT,I dx,U key,I ln,I l,I pred,U known,U cur,U w,.sl qt 0 k k,U cz,B true,I er])::.obj qt (.row (gQ L T))::R0)
  ((1≤ht∧ht≤4)∧(k:Int)=ht∧l<k∧T.length=k∧L.length=k) uv
  (.obj q (.row [I nd,I hd,I ht,I c3,I c4,I n,I c6,I c7,I c8,I c9,I dz,I cT,I dx,U key,I (AL l),I (Jz l),I pred,U known,U (JA l cur),U w,.sl qt 0 k k,U cz,B true,I er])::.obj qt (.row (gQ (L.set l l) (T.set l ⟨pred,known,cur⟩)))::R0):=.of rfl rfl fun⟨h,hk,hl,hT,hL⟩ ro R=>by
 have:k=1∨k=2∨k=3∨k=4:=by omega
 rcases this with rfl|rfl|rfl|rfl
 ·obtain⟨a,rfl⟩:=rZ hT
  obtain⟨a',rfl⟩:=rZ hL
  obtain rfl:ht=1:=by omega
  match l,hl with
  |0,_=>(show Zx EM false (Tryz.a737 _) _ _ _ _;haveI:aS:=⟨⟩;(repeat' first|constructor|exact ZQ|intro _);all_goals apply zL;exact⟨rfl,rfl,_,⟨rfl,rfl⟩,HQ⟩)
 ·obtain⟨a,b,rfl⟩:=r7 hT
  obtain⟨a',b',rfl⟩:=r7 hL
  obtain rfl:ht=2:=by omega
  match l,hl with
  |0,_=>(show Zx EM false (Tryz.a737 _) _ _ _ _;haveI:aS:=⟨⟩;(repeat' first|constructor|exact ZQ|intro _);all_goals apply zL;exact⟨rfl,rfl,_,⟨rfl,rfl⟩,HQ⟩)
  |1,_=>(show Zx EM false (Tryz.a737 _) _ _ _ _;haveI:aS:=⟨⟩;(repeat' first|constructor|exact ZQ|intro _);all_goals apply zL;exact⟨rfl,rfl,_,⟨rfl,rfl⟩,HQ⟩)
 ·obtain⟨a,b,c,rfl⟩:=r8 hT
  obtain⟨a',b',c',rfl⟩:=r8 hL
  obtain rfl:ht=3:=by omega
  match l,hl with
  |0,_=>(show Zx EM false (Tryz.a737 _) _ _ _ _;haveI:aS:=⟨⟩;(repeat' first|constructor|exact ZQ|intro _);all_goals apply zL;exact⟨rfl,rfl,_,⟨rfl,rfl⟩,HQ⟩)
  |1,_=>(show Zx EM false (Tryz.a737 _) _ _ _ _;haveI:aS:=⟨⟩;(repeat' first|constructor|exact ZQ|intro _);all_goals apply zL;exact⟨rfl,rfl,_,⟨rfl,rfl⟩,HQ⟩)
  |2,_=>(show Zx EM false (Tryz.a737 _) _ _ _ _;haveI:aS:=⟨⟩;(repeat' first|constructor|exact ZQ|intro _);all_goals apply zL;exact⟨rfl,rfl,_,⟨rfl,rfl⟩,HQ⟩)
 ·obtain⟨a,b,c,d,rfl⟩:=r9 hT
  obtain⟨a',b',c',d',rfl⟩:=r9 hL
  obtain rfl:ht=4:=by omega
  match l,hl with
  |0,_=>(show Zx EM false (Tryz.a737 _) _ _ _ _;haveI:aS:=⟨⟩;(repeat' first|constructor|exact ZQ|intro _);all_goals apply zL;exact⟨rfl,rfl,_,⟨rfl,rfl⟩,HQ⟩)
  |1,_=>(show Zx EM false (Tryz.a737 _) _ _ _ _;haveI:aS:=⟨⟩;(repeat' first|constructor|exact ZQ|intro _);all_goals apply zL;exact⟨rfl,rfl,_,⟨rfl,rfl⟩,HQ⟩)
  |2,_=>(show Zx EM false (Tryz.a737 _) _ _ _ _;haveI:aS:=⟨⟩;(repeat' first|constructor|exact ZQ|intro _);all_goals apply zL;exact⟨rfl,rfl,_,⟨rfl,rfl⟩,HQ⟩)
  |3,_=>(show Zx EM false (Tryz.a737 _) _ _ _ _;haveI:aS:=⟨⟩;(repeat' first|constructor|exact ZQ|intro _);all_goals apply zL;exact⟨rfl,rfl,_,⟨rfl,rfl⟩,HQ⟩)
end
end
end Go.cY
