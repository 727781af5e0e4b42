/- Contracts. Conditions: in each theorem. -/
import Derived.Test.YtdfgboafnklioaaGreatM81
import Derived.Test.YtdfgboafnklioaaGreatM80
set_option linter.all false
set_option maxRecDepth 100000
set_option maxHeartbeats 4000000
noncomputable section
namespace Go.cO
open Go.Proofs
def E0:Option xD->Bool
 |none=>false
 |some s=>decide (s.σ.err=14)
def fB:Nat->List (Option xD)->List Int
 |_,[]=>[]
 |k,s::l=>if E0 s then(k:Int)::fB (k+1) l else fB (k+1) l
theorem iZ (k:Nat)(s:Option xD)(l:List (Option xD)):fB k (s::l)=if E0 s then(k:Int)::fB (k+1) l else fB (k+1) l:=rfl
theorem xF {s:xD}(h:s.σ.err=14):E0 (some s)=true:=decide_eq_true h
theorem IA {s:xD}(h:s.σ.err≠14):E0 (some s)=false:=decide_eq_false h
theorem oG {i:Int}:∀{k:Nat} {l:List (Option xD)},i∈fB k l->∃j s,i=((k+j:Nat):Int)/\l[j]?=some (some s)/\s.σ.err=14
 |_,[],h=>by cases h
 |k,none::l,h=>by
  obtain⟨j,s,h1,h2,h3⟩:=oG (k:=k+1) (l:=l) h;exact⟨j+1,s,am,h2,h3⟩
 |k,some s::l,h=>by
  rw[iZ] at h;by_cases e:s.σ.err=14
  .rw[xF e] at h;rcases List.mem_cons.1 h with h|h;.exact⟨0,s,am,rfl,e⟩
   .obtain⟨j,s,h1,h2,h3⟩:=oG (k:=k+1) (l:=l) h;exact⟨j+1,s,am,h2,h3⟩
  .rw[IA e] at h;obtain⟨j,s,h1,h2,h3⟩:=oG (k:=k+1) (l:=l) h;exact⟨j+1,s,am,h2,h3⟩
theorem tW:∀(k:Nat) (l:List (Option xD)),(fB k l).length<=l.length
 |_,[]=>Nat.le_refl _
 |k,s::l=>by
  have:=tW (k+1) l;rw[iZ];split<;>simp only[List.length_cons]<;>omega
theorem rA:∀(k:Nat) (a b:List (Option xD)),fB k (a++b)=fB k a++fB (k+a.length) b
 |k,[],b=>rfl
 |k,s::a,b=>by
  have h:=rA (k+1) a b;rw[lA,iZ,iZ,h,show k+1+a.length=k+(s::a).length from by rw[List.length_cons];omega];split<;>rfl
theorem KS {s t:Option xD}{l:List (Option xD)}{j:Nat}(hj:l[j]?=some s)(hb:E0 t=E0 s):fB 0 (l.set j t)=fB 0 l:=by
 have hl:=(List.getElem?_eq_some_iff.1 hj).1;have e1:l=l.take j++(s::l.drop (j+1)):=by rw[<-(List.getElem?_eq_some_iff.1 hj).2,<-List.drop_eq_getElem_cons hl,List.take_append_drop]
 have e2:l.set j t=l.take j++(t::l.drop (j+1)):=List.set_eq_take_append_cons_drop ..|>.trans (if_pos hl)
 rw[e2];conv=>rhs;rw[e1]
 rw[rA,rA];congr 1;rw[iZ,iZ,hb]
structure TS where
 y:Me
 l:List (Option xD)
def xG (x:Xc)(i:Nat)(z:TS):TS:=match z.l[i]? with
 |some (some s)=>⟨(i4.mb x s.o ⟨s.σ,z.y,s.b⟩).y,z.l.set i (some ⟨s.o,(i4.mb x s.o ⟨s.σ,z.y,s.b⟩).σ,(i4.mb x s.o ⟨s.σ,z.y,s.b⟩).b⟩)⟩
 |_=>z
def o9 (p:List Int)(n:Nat)(z:TS):Nat:=((fB 0 z.l)[(pick (p[n%p.length]?.getD 0) (fB 0 z.l).length).toNat]?.getD 0).toNat
def sj (x:Xc)(p:List Int):Nat->Nat->TS->Nat×Int×TS
 |0,n,z=>(n,-1,z)
 |f+1,n,z=>if fB 0 z.l=[] then(n,-1,z) else
  if E0 ((xG x (o9 p n z) z).l[o9 p n z]?.getD none) then sj x p f (n+1) (xG x (o9 p n z) z) else(n+1,(o9 p n z:Nat),xG x (o9 p n z) z)
def dm (x:Xc)(p:List Int)(most:Int)(z:TS):Nat×Int×TS:=if p=[] then(0,-1,z) else sj x p most.toNat 0 z
theorem IB {p:List Int}{n:Nat}{z:TS}(h:fB 0 z.l≠[]):∃s,z.l[o9 p n z]?=some (some s)/\s.σ.err=14/\(fB 0 z.l)[(pick (p[n%p.length]?.getD 0) (fB 0 z.l).length).toNat]?=some ((o9 p n z:Nat):Int):=by
 have hl:0<(fB 0 z.l).length:=List.length_pos_iff.2 h;have hp:=ry (a:=p[n%p.length]?.getD 0) (n:=(fB 0 z.l).length) am;obtain⟨i,hi⟩:∃i,(fB 0 z.l)[(pick (p[n%p.length]?.getD 0) (fB 0 z.l).length).toNat]?=some i:=⟨_,List.getElem?_eq_getElem am⟩;obtain⟨j,s,h1,h2,h3⟩:=oG (List.mem_of_getElem? hi);have e:o9 p n z=j:=by unfold o9;rw[hi];simp only[Option.getD_some];omega
 rw[e];exact⟨s,h2,h3,by rw[hi,h1];simp⟩
def eE.fC:eE->Prop|.d e=>e≠14|_=>True
def cw.fC:cw->Prop|.d _ e=>e≠14|_=>True
def b7.fC:b7->Prop|.d e=>e≠14|_=>True
def bN.fC:bN->Prop|.d _ e=>e≠14|_=>True
def aI.fC:aI->Prop|.d e|.u _ e=>e≠14|.a s _ _=>s.fC|_=>True
def an.fC:an->Prop
 |.r1 z=>z.fC
 |.r2 z=>z.fC
 |.r5 _ _ z=>z.fC
 |.t4 _ _ _ z=>z.fC
 |.s8 _ _ z=>z.fC
 |.r6 _ _ e _|.t5 _ _ e _|.b1 _ _ e _|.b2 _ _ e _|.b3 _ _ e|.b4 _ _ e|.d _ _ e _=>e≠14
 |_=>True
theorem eE.tz {a b c:Int}{z:eE}{m:Me}(h:z.fC):(z.step a b c m).1.fC:=by
 cases z with
 |a=>unfold eE.step;dsimp only;split<;>simp[eE.fC]
 |b w=>unfold eE.step;dsimp only;split<;>simp[eE.fC]
 |d e=>exact h
theorem cw.tz {j:Jb}{z:cw}{m:Me}(h:z.fC):(z.step j m).1.fC:=by
 cases z with
 |p z=>
  unfold cw.step;dsimp only;cases(z.step j.f m).1<;>simp only[cw.kh]<;>first|trivial|(split<;>simp[cw.fC])
 |l i=>trivial
 |s i w=>unfold cw.step;dsimp only;split<;>simp[cw.fC]
 |d i e=>exact h
theorem b7.tz {r:Rn}{v:Int}{z:b7}{m:Me}(h:z.fC):(z.step r v m).1.fC:=by
 cases z with
 |a=>trivial
 |b t=>unfold b7.step;dsimp only;split<;>first|trivial|(split<;>simp[b7.fC])
 |c t w=>unfold b7.step;dsimp only;split<;>trivial
 |l t=>unfold b7.step;simp[b7.fC]
 |h t=>trivial
 |d e=>exact h
theorem bN.tz {a:Ar}{z:bN}{m:Me}(h:z.fC):(z.step a m).1.fC:=by
 cases z with
 |p z=>
  unfold bN.step;dsimp only;cases(z.step a.f m).1<;>simp only[bN.kh]<;>first|trivial|(split<;>trivial)
 |g i=>unfold bN.step;simp[bN.fC]
 |w=>unfold bN.step;dsimp only[bN.fC];split<;>decide
 |d r e=>exact h
theorem aI.tz {t:Tw}{c key aq high:Int}{z:aI}{m:Me}(h:z.fC):(z.step t c key aq high m).1.fC:=by
 cases z with
 |p s n=>unfold aI.step;dsimp only;cases(s.step t.l.e c m).1<;>trivial
 |a s n q=>
  have h1:=bN.tz (a:=t.l.a) (m:=m) h;unfold aI.step;dsimp only;generalize(s.step t.l.a m).1=w at h1;cases w with
  |d r e=>
   simp only[aI.iz];split
   .trivial
   .split
    .trivial
    .exact h1
  |_=>exact h1
 |c s n q=>unfold aI.step;dsimp only;split<;>trivial
 |l s n=>unfold aI.step;dsimp only;split<;>trivial
 |y s r=>unfold aI.step;dsimp only;split<;>trivial
 |i s r=>unfold aI.step;dsimp only;split<;>simp[aI.fC]
 |u s e=>unfold aI.step;dsimp only;split<;>exact h
 |d e=>exact h
theorem an.tz {x:Xc}{o:Od}{σ:an}{m:Me}(h:σ.fC):(σ.step x o m).1.fC:=by
 cases σ with
 |r1 z=>
  have h1:=eE.tz (a:=x.cn+o.tk) (b:=o.every) (c:=o.now) (m:=m) h;simp only[an.step];generalize(z.step _ _ _ m).1=w at h1;cases w<;>simp only[an.oY]<;>first|exact h1|(split<;>first|trivial|exact h1)
 |r2 z=>
  have h1:=cw.tz (j:=x.j) (m:=m) h;simp only[an.step];generalize(z.step _ m).1=w at h1;cases w<;>simp only[an.oZ]<;>first|exact h1|(split<;>first|trivial|exact h1)
 |r5 i w z=>
  have h1:=b7.tz (r:=x.ring (o.tk%x.aJ)) (v:=i) (m:=m) h;simp only[an.step];generalize(z.step _ _ m).1=w at h1;cases w<;>simp only[an.o0]<;>first|exact h1|(split<;>first|(simp[an.fC];done)|exact h1)
 |t4 i hh w z=>
  have h1:=aI.tz (t:=x.t) (c:=o.c) (key:=w) (aq:=i) (high:=o.high) (m:=m) h;simp only[an.step];generalize(z.step _ _ _ _ _ m).1=w at h1;cases w<;>simp only[an.o4]<;>first|exact h1|(split<;>first|trivial|exact h1)
 |s8 i w z=>
  have h1:=aI.tz (t:=x.t) (c:=o.c) (key:=(w+1)%18446744073709551616) (aq:=i) (high:=o.high) (m:=m) h;simp only[an.step];generalize(z.step _ _ _ _ _ m).1=w at h1;cases w<;>simp only[an.o5]<;>first|exact h1|(split<;>first|trivial|exact h1)
 |t1 z=>simp only[an.step];cases(z.step _ m).1<;>simp only[an.lX]<;>first|trivial|(split<;>first|(split<;>simp[an.fC];done)|simp[an.fC])
 |t2 i hh z=>simp only[an.step];cases(z.stepOf _ _ m).1<;>simp only[an.nR]<;>first|trivial|(split<;>simp[an.fC])
 |p2 z=>simp only[an.step];cases(z.step _ _ _ m).1<;>simp only[an.jl]<;>first|trivial|(split<;>split<;>simp[an.fC])
 |s4 i z=>simp only[an.step];cases(z.stepOf _ _ m).1<;>simp only[an.lY]<;>first|trivial|(split<;>first|(split<;>simp[an.fC];done)|simp[an.fC])
 |c2 i z=>simp only[an.step];cases(z.stepOf _ _ m).1<;>simp only[an.qR]<;>trivial
 |oX i w z=>simp only[an.step];split<;>simp[an.fC]
 |r3 i=>simp only[an.step];split<;>simp[an.fC]
 |p1=>simp only[an.step];split<;>simp[an.fC,an.pick]
 |s1=>simp only[an.step];split<;>simp[an.fC]
 |s3=>simp only[an.step];split<;>simp[an.fC,an.pick]
 |c1=>simp only[an.step];split<;>simp[an.fC]
 |r6 i w e z=>simp only[an.step];split<;>exact h
 |t5 i w e z=>simp only[an.step];split<;>exact h
 |b1 i w e z=>simp only[an.step];split<;>exact h
 |b2 i w e z=>simp only[an.step];split<;>exact h
 |b3 i w e=>exact h
 |b4 i w e=>exact h
 |d i w e n=>exact h
 |_=>simp only[an.step]<;>first|trivial|(split<;>trivial)
theorem an.L7 {σ:an}(h:σ.fC):σ.err=14↔σ.over=false:=by
 cases σ with
 |d i w e n=>exact⟨λg=>absurd g h,λg=>by cases g⟩
 |_=>exact⟨λ_=>rfl,λ_=>rfl⟩
theorem an.KT {k:Int}:(an.first k).fC:=by
 unfold an.first;repeat' split
 all_goals trivial
theorem gx {l:List Int}{i:Nat}{a:Int}(h:l[i]?=some a):(ints l)[i]?=some [I a]:=by unfold ints;rw[List.getElem?_map,h];rfl
theorem IC {l:List Int}:∀y∈ints l,y.length=1:=λy hy=>by unfold ints at hy;obtain⟨a,_,rfl⟩:=List.mem_map.1 hy;rfl
theorem ID (a b:List Int):ints (a++b)=ints a++ints b:=List.map_append ..
theorem IE:∀c:List AV,(c.map λx=>[x]).flatten=c
 |[]=>rfl
 |a::c=>by rw[List.map_cons,List.flatten_cons,IE c];rfl
section
variable{ro:List aB}{K:List Kf}{R:List Own}{Φ:gn}{M:cQ}{v:AV}{L:List (List AV)}
theorem Vx.Za {bytes q n:Nat}{c:List AV}{k:AV->AC}(hc:c.length=n)(hb:(L.length+n)*bytes<=140737488355328)(hl:L.length+n<=9223372036854775807)(h:∀v',odd v'=false->v'.cells=[v']->AV.beq v' v'=true->Zx M false (k v') K (.sl v' 1 (L++c.map λx=>[x])::R) ro Φ):Vx M (.op (.append 1 bytes v (.sl q 0 n n)) k) K (.obj q (.row c)::.sl v 1 L::R) ro Φ:=
 Vx.Y9 (n:=n) (L:=c.map λx=>[x]) (IE c).symm (by simpa using hc) ac (Vx.apR (List.Mem.head _) ac (by simpa[hc] using hb) (by simpa[hc] using hl) λv' g1 g2 g3=>.z (.of (Vx.tl (Vx.tl (h v' g1 g2 g3).ok))))
end
theorem gX {l:List (Option Sd)}{i:Nat}{s:Option Sd}(h:l[i]?=some s):eF l=eF (l.take i)++(so s++eF (l.drop (i+1))):=by
 obtain⟨hi,h2⟩:=List.getElem?_eq_some_iff.1 h;have e:l=l.take i++(s::l.drop (i+1)):=by rw[<-h2,<-List.drop_eq_getElem_cons hi,List.take_append_drop]
 unfold eF;conv=>lhs;rw[e]
 simp
theorem rB {l:List (Option Sd)}{i:Nat}{s:Option Sd}(h:i<l.length):eF (l.set i s)=eF (l.take i)++(so s++eF (l.drop (i+1))):=by rw[gX (l:=l.set i s) (i:=i) (s:=s) (by rw[List.getElem?_set];simp[h])];rw[List.take_set_of_le (Nat.le_refl i),List.drop_set_of_lt (Nat.lt_succ_self i)]
theorem y8 {l:List (Option Sd)}{i:Nat}{s t:Option Sd}(h:l[i]?=some s)(e:pv t=pv s):dj (l.set i t)=dj l:=by
 unfold dj;rw[List.map_set];apply List.ext_getElem?;intro j;rw[List.getElem?_set];split
 .next g=>subst g;have hi:=(List.getElem?_eq_some_iff.1 h).1;rw[if_pos (by rw[List.length_map];exact hi),List.getElem?_map,h];simp[e]
 .rfl
theorem fS.set {x:Xc}{v:AV}{ro:List aB}{l:List (Option Sd)}{i:Nat}{s:Sd}(h:fS x v ro l)(hs:eP x s.s.o s.q s.s.b s.s.σ s.lo/\si x v ro s.s):fS x v ro (l.set i (some s)):=λt ht=>by
 rcases List.mem_or_eq_of_mem_set ht with ht|ht;.exact h t ht
 .cases ht;exact hs
theorem mP.set {x:Xc}{v:AV}{ro:List aB}{l:List (Option Sd)}{i:Nat}{s:Sd}(h:mP x v ro l)(hs:bU x s.s.o v s.h s.q s.s.b s.s.σ s.lo/\si x v ro s.s):mP x v ro (l.set i (some s)):=λt ht=>by
 rcases List.mem_or_eq_of_mem_set ht with ht|ht;.exact h t ht
 .cases ht;exact hs
theorem Zx.E1 {M:cQ}{own:List Own}{ro:List aB}{Φ:gn}{K:List Kf}{v w:AV}{L:List (List AV)}{i:Int}{g:Bool}{k:AV->AC}(hm:Own.sl v 1 L∈own)(hi:0<=i)(hc:L[i.toNat]?=some [w])(h:Zx M false (k w) K own ro Φ):Zx M false (.op (.da 1 v (I i)) λp=>.hZ (B g) g (.load 1 false p) k) K own ro Φ:=.z (.of λB W S H=>by
 obtain⟨n,rfl⟩:∃n:Nat,i=n:=⟨i.toNat,am⟩;obtain⟨j,hj⟩:=List.getElem?_of_mem hm;exact jI H j hj (by simpa using hc) λid off hp=>cI (Ai (j:=0) hp rfl (h.ok B W S H)))
section
variable{B0 S:AH}{W:List Nat}{R:List Own}{ro:List aB}{x:Xc}{v u:AV}{l:List (Option Sd)}
theorem KU (hl:l.length<=100000)(hD:mP x v ro l)(H:Cx B0 W S (.sl u 1 (dj l)::(eF l++R)) ro):
  aG EM (zF 132) [u] S λr S'=>∃ab,(ab=.sl r 1 (ints (fB 0 (l.map co)))::.sl u 1 (dj l)::(eF l++R))/\Cx B0 W S' ab ro:=by
 refine Vx.fm H rfl (b:=Tryz.a132) ?_;repeat' first|refine Zx.DL ?_|constructor|exact ZQ|intro _
 all_goals apply zL
 refine Vx.Y_ ?_;refine Vx.inv (α:=Nat×AV) (P:=λz n=>n+z.1=l.length) (λz=>[I (z.1:Int),z.2])
  (λz=>.sl z.2 1 (ints (fB 0 ((l.take z.1).map co)))::.sl u 1 (dj l)::(eF l++R)) ?_ (a0:=(0,Ns)) (n0:=l.length) (by rfl)
 rintro⟨i,w⟩ n hn ih;dsimp only at hn ih⊢;refine Zx.ok (n:=false) ?_;repeat' first|refine Zx.aA (v:=u) ?_|constructor|exact ZQ|intro _
 all_goals apply zL
 .next cA=>
  replace cA:(i:Int)<((dj l).length:Int):=cA;rw[jC] at cA;obtain⟨s,hs⟩:∃s,l[i]?=some s:=⟨_,List.getElem?_eq_getElem am⟩;have PZ:(l.take (i+1)).map co=(l.take i).map co++[co s]:=by rw[List.take_add_one,hs,List.map_append];rfl
  have hbx:fB 0 ((l.take (i+1)).map co)=fB 0 ((l.take i).map co)++(if E0 (co s) then [(i:Int)] else []):=by rw[PZ,rA,iZ];congr 1;rw[List.length_map,List.length_take,Nat.min_eq_left am,Nat.zero_add];rfl
  have hbN:E0 (co s)=false->fB 0 ((l.take (i+1)).map co)=fB 0 ((l.take i).map co):=λh=>by rw[hbx,h,if_neg dl];exact List.append_nil _
  have LU:(ints (fB 0 ((l.take i).map co))).length<=100000:=by rw[bJ];have:=tW 0 ((l.take i).map co);rw[List.length_map,List.length_take] at this;omega
  refine Zx.ok (n:=false) (Zx.y6 (List.Mem.tail _ (List.Mem.head _)) am (by rw[Int.toNat_natCast];exact jk hs) ?_);cases s with
  |none=>
   have h2:=ih (i+1,w) (n-1) am (by dsimp only;omega);dsimp only at h2;rw[hbN rfl] at h2;show Zx EM false (.op (.eq _ true Np Np) _) _ _ _ _
   (repeat' first|constructor|exact ZQ|intro _)
   all_goals apply zL
  |some s=>
   show Zx EM false (.op (.eq _ true (.ptr s.q 0) Np) _) _ _ _ _;repeat' first|refine Zx.aA (v:=u) ?_|constructor|exact ZQ|intro _
   all_goals apply zL
   refine Zx.ok (n:=false) (Zx.E1 (List.Mem.tail _ (List.Mem.head _)) am (by rw[Int.toNat_natCast];exact jk hs) ?_);have h2:=λw'=>ih (i+1,w') (n-1) am (by dsimp only;omega);dsimp only at h2;rw[gX hs] at h2⊢;simp only[@List.append_assoc Own,so] at h2⊢;refine .G8 (.z (.of (Vx.bB (own:=s.lo++(.sl w 1 (ints (fB 0 ((l.take i).map co)))::.sl u 1 (dj l)::(eF (l.take i)++(eF (l.drop (i+1))++R)))) HQ ?_)));refine Vx.spec (λB1 W1 S1 H=>DH (hD s (List.mem_of_getElem? hs)).1 H) ?_;rintro _ _ ⟨rfl,rfl⟩;by_cases he:s.s.σ.err=14
   .rw[he];rw[hbx,show co (some s)=some s.s from rfl,xF he,if_pos rfl] at h2;repeat' first|refine Zx.DL ?_|constructor|exact ZQ|intro _
    all_goals apply zL
    show Vx EM (.op (.append 1 8 w (.sl _ 0 1 1)) _) _ _ _ _;refine Vx.bB (own:=.obj _ (.row [I (i:Int)])::.sl w 1 (ints (fB 0 ((l.take i).map co)))::.sl u 1 (dj l)::(eF (l.take i)++(s.lo++(eF (l.drop (i+1))++R)))) HQ ?_;refine Vx.Za rfl am am λv' o1 o2 o3=>?_;have h3:=h2 v';rw[ID] at h3
    (repeat' first|constructor|exact ZQ|intro _)
    all_goals apply zL
   .rw[hbN (IA he)] at h2;have h3:=h2 w
    (repeat' first|constructor|exact ZQ|intro _)
    all_goals apply zL
    all_goals first|(exfalso;omega)|exact Vx.bB HQ h3
 .next cA=>replace cA:¬(i:Int)<((dj l).length:Int):=cA;rw[jC] at cA;rw[List.take_of_length_le am];exact⟨rfl,rfl,_,rfl,HQ⟩
structure LS (x:Xc)(p:List Int)(l0:List (Option Sd))(e:Nat×Int×TS)(N:Int)(Ln:Nat)(f n:Nat)(l:List (Option Sd))(y:Me):Prop where
 e:e=sj x p f n ⟨y,l.map co⟩
 v:dj l=dj l0
 g:y.gd
 n:y.n<=N+n
 w:y.ws.length=Ln
 z:∀s,some s∈l->s.s.σ.fC
theorem LS.len {p:List Int}{l0:List (Option Sd)}{e:Nat×Int×TS}{N:Int}{Ln f n:Nat}{y:Me}(h:LS x p l0 e N Ln f n l y):l.length=l0.length:=by
 have:=congrArg List.length h.v
 rwa[jC,jC] at this
theorem pX {i:Nat}{s:Sd}:(l.set i (some s)).map co=(l.map co).set i (some s.s):=by rw[List.map_set];rfl
theorem LS.step {p:List Int}{l0:List (Option Sd)}{e:Nat×Int×TS}{N:Int}{Ln f n:Nat}{y:Me}(h:LS x p l0 e N Ln (f+1) n l y)(hb:fB 0 (l.map co)≠[]):
  ∃(i:Nat) (s:Sd),l[i]?=some (some s)/\(fB 0 (l.map co))[(pick (p[n%p.length]?.getD 0) (fB 0 (l.map co)).length).toNat]?=some (i:Int)/\s.s.σ.err=14/\
   ∀lo,(if(i4.mb x s.s.o ⟨s.s.σ,y,s.s.b⟩).σ.over=true then e=(n+1,(i:Int),⟨(i4.mb x s.s.o ⟨s.s.σ,y,s.s.b⟩).y,(l.set i (some ⟨⟨s.s.o,(i4.mb x s.s.o ⟨s.s.σ,y,s.s.b⟩).σ,(i4.mb x s.s.o ⟨s.s.σ,y,s.s.b⟩).b⟩,s.q,s.h,lo⟩)).map co⟩) else
    ((i4.mb x s.s.o ⟨s.s.σ,y,s.s.b⟩).y.gd->(i4.mb x s.s.o ⟨s.s.σ,y,s.s.b⟩).y.n<=N+(n+1:Nat)->(i4.mb x s.s.o ⟨s.s.σ,y,s.s.b⟩).y.ws.length=Ln->LS x p l0 e N Ln f (n+1) (l.set i (some ⟨⟨s.s.o,(i4.mb x s.s.o ⟨s.s.σ,y,s.s.b⟩).σ,(i4.mb x s.s.o ⟨s.s.σ,y,s.s.b⟩).b⟩,s.q,s.h,lo⟩)) (i4.mb x s.s.o ⟨s.s.σ,y,s.s.b⟩).y))/\(i4.mb x s.s.o ⟨s.s.σ,y,s.s.b⟩).σ.fC:=by
 obtain⟨t,h1,h2,h3⟩:=IB (p:=p) (n:=n) (z:=⟨y,l.map co⟩) hb;generalize hi:o9 p n ⟨y,l.map co⟩=i at h1 h3;dsimp only at h1 h3;rw[List.getElem?_map] at h1;cases hl:l[i]? with
 |none=>rw[hl] at h1;cases h1
 |some s=>
  rw[hl] at h1;cases s with
  |none=>cases h1
  |some s=>
   have h1:some (some s.s)=some (some t):=h1;injection h1 with h1;injection h1 with h1;subst h1;have fC:(i4.mb x s.s.o ⟨s.s.σ,y,s.s.b⟩).σ.fC:=an.tz (h.z s (List.mem_of_getElem? hl));refine⟨i,s,hl,h3,h2,λlo=>⟨?_,fC⟩⟩;have ec:(l.map co)[i]?=some (some s.s):=by rw[List.getElem?_map,hl];rfl
   have et:xG x i ⟨y,l.map co⟩=⟨(i4.mb x s.s.o ⟨s.s.σ,y,s.s.b⟩).y,(l.set i (some ⟨⟨s.s.o,(i4.mb x s.s.o ⟨s.s.σ,y,s.s.b⟩).σ,(i4.mb x s.s.o ⟨s.s.σ,y,s.s.b⟩).b⟩,s.q,s.h,lo⟩)).map co⟩:=by unfold xG;dsimp only;rw[ec,pX]
   have cA:=(List.getElem?_eq_some_iff.1 hl).1;have eb:E0 ((xG x i ⟨y,l.map co⟩).l[i]?.getD none)=!(i4.mb x s.s.o ⟨s.s.σ,y,s.s.b⟩).σ.over:=by
    rw[et];dsimp only;rw[pX,List.getElem?_set,if_pos rfl,if_pos (by rw[List.length_map];exact cA)];show decide ((i4.mb x s.s.o ⟨s.s.σ,y,s.s.b⟩).σ.err=14)=_;have:=an.L7 fC;cases ho:(i4.mb x s.s.o ⟨s.s.σ,y,s.s.b⟩).σ.over with
    |false=>exact decide_eq_true (this.2 ho)
    |true=>exact decide_eq_false λg=>by rw[this.1 g] at ho;cases ho
   have e0:=h.e;unfold sj at e0;rw[if_neg hb,hi,eb] at e0;cases ho:(i4.mb x s.s.o ⟨s.s.σ,y,s.s.b⟩).σ.over with
   |true=>
    rw[ho,et] at e0;rw[if_pos rfl];exact e0
   |false=>
    rw[ho,et] at e0;rw[if_neg dl];intro q1 q2 q3;refine⟨e0,?_,q1,q2,q3,λt ht=>?_⟩
    .rw[y8 hl (by rfl)];exact h.v
    .rcases List.mem_or_eq_of_mem_set ht with ht|ht;.exact h.z t ht
     .cases ht;exact fC
end
section
variable{B0 S:AH}{W:List Nat}{R:List Own}{ro:List aB}{x:Xc}{v u pk:AV}{l:List (Option Sd)}{p:List Int}{y:Me}{N most:Int}{Ln m vm:Nat}
def Zb (e:Nat×Int×TS)(N most:Int)(Ln:Nat):Prop:=e.2.2.y.gd/\e.2.2.y.n<=N+most.toNat/\e.2.2.y.ws.length=Ln
theorem E2 {vw:AV}(hx:x.ok)(hl:l.length<=100000)(hD:mP x v ro l)(xE:∀s,some s∈l->s.s.σ.fC)(hg:y.gd)(hn:y.n<=N)(hw:y.ws.length=Ln)(hN:0<=N/\N+most<4611686018427387904/\most<=1000)(hp:aB.sl pk 1 (ints p)∈ro)(oP:p.length<=100000)
  (H:Cx B0 W S (.sl u 1 (dj l)::(eF l++(ai m vw y++R))) ro):
  aG EM (zF 50) [u,.ptr m 0,pk,I most] S λr S'=>∃ab,(∃l',r=.dD [I ((dm x p most ⟨y,l.map co⟩).1:Int),I (dm x p most ⟨y,l.map co⟩).2.1]/\l'.map co=(dm x p most ⟨y,l.map co⟩).2.2.l/\mP x v ro l'/\(∀s,some s∈l'->s.s.σ.fC)/\dj l'=dj l/\Zb (dm x p most ⟨y,l.map co⟩) N most Ln/\ab=.sl u 1 (dj l)::(eF l'++(ai m vw (dm x p most ⟨y,l.map co⟩).2.2.y++R)))/\Cx B0 W S' ab ro:=by
 refine Vx.fm H rfl (b:=Tryz.a50) ?_
 (repeat' first|constructor|exact ZQ|intro _)
 all_goals apply zL
 generalize he:dm x p most ⟨y,l.map co⟩=e;by_cases Pl:p=[]
 .subst Pl;obtain rfl:e=(0,-1,⟨y,l.map co⟩):=by rw[<-he];exact if_pos rfl
  refine Vx.loop (Zx.ok (n:=false) ?_)
  (repeat' first|refine Zx.bV (v:=pk) ?_|refine Zx.aA (v:=pk) ?_|constructor|exact ZQ|intro _)
  all_goals apply zL
  .refine Vx.A1 hp ?_
   (repeat' first|constructor|exact ZQ|intro _)
   all_goals apply zL
   exact⟨rfl,rfl,_,⟨l,rfl,rfl,hD,xE,rfl,⟨hg,by dsimp only;omega,hw⟩,rfl⟩,HQ⟩
  .exact⟨rfl,rfl,_,⟨l,rfl,rfl,hD,xE,rfl,⟨hg,by dsimp only;omega,hw⟩,rfl⟩,HQ⟩
 have Zc:0<p.length:=List.length_pos_iff.2 Pl;unfold dm at he;rw[if_neg Pl] at he;refine Vx.inv (α:=Nat×List (Option Sd)×Me) (P:=λz k=>k+z.1=most.toNat/\LS x p l e N Ln (most.toNat-z.1) z.1 z.2.1 z.2.2/\mP x v ro z.2.1) (λz=>[I 0,I 0,I (z.1:Int)])
  (λz=>.sl u 1 (dj l)::(eF z.2.1++(ai m vw z.2.2++R))) ?_ (a0:=(0,l,y)) (n0:=most.toNat) ⟨am,⟨he.symm,rfl,hg,by dsimp only;omega,hw,xE⟩,hD⟩
 rintro⟨n,l1,y1⟩ k ⟨hk,ht,wK⟩ ih;dsimp only at hk ht wK ih⊢;have Q3:=ht.len;refine Zx.ok (n:=false) ?_
 (repeat' first|refine Zx.bV (v:=pk) ?_|refine Zx.aA (v:=pk) ?_|constructor|exact ZQ|intro _)
 all_goals apply zL
 .next cA=>
  refine Vx.A1 hp ?_;rw[bJ]
  (repeat' first|refine Zx.bV (v:=pk) ?_|refine Zx.aA (v:=pk) ?_|constructor|exact ZQ|intro _)
  all_goals apply zL
  rw[<-ht.v];refine Vx.spec (λB1 W1 S1 H=>KU (l:=l1) am wK H) ?_;rintro w _ rfl;rw[show most.toNat-n=(most.toNat-n-1)+1 by omega] at ht;repeat' first|refine Zx.bV (v:=pk) ?_|refine Zx.aA (v:=pk) ?_|refine Zx.aA (v:=w) ?_|constructor|exact ZQ|intro _
  all_goals apply zL
  .next hb=>replace hb:((ints (fB 0 (l1.map co))).length:Int)=0:=hb;rw[bJ] at hb;have Fk:fB 0 (l1.map co)=[]:=List.eq_nil_of_length_eq_zero am;have e0:=ht.e;unfold sj at e0;rw[if_pos Fk] at e0;have Qi:Zb (n,-1,⟨y1,l1.map co⟩) N most Ln:=⟨ht.g,by have:=ht.n;dsimp only;omega,ht.w⟩;subst e0;exact⟨rfl,rfl,_,⟨l1,rfl,rfl,wK,ht.z,rfl,Qi,rfl⟩,HQ⟩
  .next hb=>
   replace hb:¬((ints (fB 0 (l1.map co))).length:Int)=0:=hb;rw[bJ] at hb;have Fk:fB 0 (l1.map co)≠[]:=λh=>hb (by rw[h];rfl);obtain⟨i,s,hs,hi,Uy,oJ⟩:=ht.step Fk;have LU:=tW 0 (l1.map co);rw[List.length_map] at LU;refine Vx.A1 hp ?_;rw[bJ];repeat' first|refine Zx.aA (v:=pk) ?_|refine Zx.aA (v:=w) ?_|refine Zx.aA (v:=u) ?_|constructor|exact ZQ|intro _
   all_goals apply zL
   have BX:=Nat.mod_lt n Zc;obtain⟨b,Uz⟩:∃b,p[n%p.length]?=some b:=⟨_,List.getElem?_eq_getElem BX⟩;rw[Uz] at hi;rw[Option.getD_some] at hi;rw[show((n:Int)%(p.length:Int))=((n%p.length:Nat):Int) from(Int.natCast_emod n p.length).symm];have hc:=ry (a:=b) (n:=(fB 0 (l1.map co)).length) am;refine Zx.ok (n:=false) (Zx.Ur hp am (by rw[Int.toNat_natCast];exact gx Uz) ?_);rw[show(ints (fB 0 (l1.map co)))=ints (fB 0 (l1.map co)) from rfl];repeat' first|refine Zx.aA (v:=pk) ?_|refine Zx.aA (v:=w) ?_|refine Zx.aA (v:=u) ?_|constructor|exact ZQ|intro _
   all_goals apply zL
   .show((ints (fB 0 (l1.map co))).length:Int)<=_;rw[bJ];omega
   rw[show Int.ofNat (ints (fB 0 (l1.map co))).length=((fB 0 (l1.map co)).length:Int) from congrArg Int.ofNat (bJ _)];refine Zx.ok (n:=false) (Zx.y6 (List.Mem.head _) hc.1 (gx hi) ?_);repeat' first|refine Zx.aA (v:=u) ?_|constructor|exact ZQ|intro _
   all_goals apply zL
   refine Zx.ok (n:=false) (Zx.y6 (v:=u) (L:=dj l1) (List.Mem.tail _ (List.Mem.head _)) am (by rw[Int.toNat_natCast];exact jk hs) ?_);have wh:i4.ok x s.s.o ⟨s.s.σ,y1,s.s.b⟩ (N+n) Ln:=⟨(wK s (List.mem_of_getElem? hs)).2.k,(wK s (List.mem_of_getElem? hs)).2.w,ht.g,ht.n,ht.w⟩;have IF:=(wK s (List.mem_of_getElem? hs)).1;have Pm:=(wK s (List.mem_of_getElem? hs)).2;have P1:=(List.getElem?_eq_some_iff.1 hs).1;rw[gX hs];simp only[@List.append_assoc Own,so];refine .z (.of (Vx.bB (own:=s.lo++(ai m vw y1++(.sl u 1 (dj l1)::(eF (l1.take i)++(eF (l1.drop (i+1))++R))))) ?_ ?_))
   .generalize ai m vw _=RR;exact HQ
   refine Vx.spec (λB1 W1 S1 H=>T_ (s:=⟨s.s.σ,y1,s.s.b⟩) hx wh (λho=>Pm.t (Pm.k ho)) IF H) ?_;rintro _ _ ⟨l2,rfl,UA,rfl⟩;have Bj:=wh.Y0 hx am IF;obtain⟨q1,q2⟩:=oJ l2;generalize i4.mb x s.s.o ⟨s.s.σ,y1,s.s.b⟩=r at UA Bj q1 q2;have QA:mP x v ro (l1.set i (some ⟨⟨s.s.o,r.σ,r.b⟩,s.q,s.h,l2⟩)):=wK.set ⟨UA,Bj.k,Bj.w,Pm.z,Pm.t⟩;have UB:dj (l1.set i (some ⟨⟨s.s.o,r.σ,r.b⟩,s.q,s.h,l2⟩))=dj l1:=y8 hs rfl;cases ho:r.σ.over with
   |true=>
    rw[ho,if_pos rfl] at q1;subst q1
    (repeat' first|constructor|exact ZQ|intro _)
    all_goals apply zL
    refine⟨rfl,rfl,_,⟨l1.set i (some ⟨⟨s.s.o,r.σ,r.b⟩,s.q,s.h,l2⟩),rfl,rfl,QA,λt E3=>?_,UB,⟨Bj.y,by have:=Bj.n;dsimp only;omega,Bj.l⟩,rfl⟩,?_⟩
    .rcases List.mem_or_eq_of_mem_set E3 with E3|E3;.exact ht.z t E3
     .cases E3;exact q2
    .rw[rB P1];simp only[@List.append_assoc Own,so];generalize ai m vw _=RR;exact HQ
   |false=>
    rw[ho,if_neg dl] at q1;have q3:=q1 Bj.y (by have:=Bj.n;omega) Bj.l;have h2:=ih (n+1,l1.set i (some ⟨⟨s.s.o,r.σ,r.b⟩,s.q,s.h,l2⟩),r.y) (k-1) am ⟨by dsimp only;omega,by dsimp only;rwa[show most.toNat-(n+1)=most.toNat-n-1 by omega],QA⟩;dsimp only at h2;rw[<-ht.v,rB P1] at h2;simp only[@List.append_assoc Own,so] at h2
    (repeat' first|constructor|exact ZQ|intro _)
    all_goals apply zL
    refine Vx.bB ?_ h2;generalize ai m vw _=RR;exact HQ
 .next cA=>have e0:=ht.e;rw[show most.toNat-n=0 by omega] at e0;have Qi:Zb (n,-1,⟨y1,l1.map co⟩) N most Ln:=⟨ht.g,by have:=ht.n;dsimp only;omega,ht.w⟩;subst e0;exact⟨rfl,rfl,_,⟨l1,rfl,rfl,wK,ht.z,ht.v,Qi,rfl⟩,HQ⟩
end
theorem Pn (z:AV):∀n,bh [z] n=List.replicate n z
 |0=>rfl
 |n+1=>by show jq [z] (bh [z] n)=_;rw[Pn z n,ft];rfl
section
variable{M:cQ}{B0 S:AH}{W:List Nat}{R:List Own}{ro:List aB}{Q:ga}{k:AV->AC}{p n cap i:Nat}{L:List (List AV)}
theorem IG {i n:Nat}(h:i<=n):fY (some (I (i:Int))) 0 n=some i:=by show below i (Nat.succ n)=some i;unfold below;rw[cJ am]
theorem E4 (H:Cx B0 W S (.sl (.sl p 0 n cap) 1 L::R) ro)(hi:i<=L.length)(hL:L.length=n)
  (h:∀S1,Cx B0 W S1 (.sl (.sl p 0 i cap) 1 (L.take i)::R) ro->wp M (k (.sl p 0 i cap)) S1 Q):wp M (.op (.jM 1 (.sl p 0 n cap) (some (I (i:Int))) none none) λa=>.op (.clear 1 [I 0] a) λ_=>.op (.jM 1 (.sl p 0 n cap) none (some (I (i:Int))) none) k) S Q:=by
 have hw:GK S (.sl p 0 n cap) 1 L:=H.oh _ (List.Mem.head _);rcases hw with⟨g,_⟩|⟨id,off,c,h0,h1,h2,h3⟩;.cases g
 rcases h0 with⟨m,q1,q2,q3⟩|⟨m,q1,q2,q3⟩;case inr=>cases q3
 injection q3 with e1 e2 e3 e4;subst e1 e2 e4;rw[hL] at q1;rw[Nat.mul_one,Nat.zero_add] at q2;have oK:i<=n:=am;have b1:jN (some (I (i:Int))) none none n cap=some (i,n,cap):=by unfold jN;simp only[show fY none cap cap=some cap from rfl,show fY none n cap=some n from rfl,IG oK];rfl
 refine ae (v:=.sl p (if Nat.beq cap i then 0 else i) (n-i) (cap-i)) (S1:=S) ?_ ?_
 .show eN (dL 1 (.sl p 0 n cap) (some (I (i:Int))) none none) S=_;unfold dL;simp only[b1];have e:(if Nat.beq cap i=true then 0 else Nat.add 0 (Nat.mul i 1))=(if Nat.beq cap i=true then 0 else i):=by
   split;.rfl
   .show 0+i*1=i;omega
  rw[e];rfl
 generalize ho:(if Nat.beq cap i=true then 0 else i)=o;have hoc:o+(n-i)<=c.length/\(o=i\/n-i=0):=by
  split at ho
  .next g=>have g:=Nat.eq_of_beq_eq_true g;omega
  .omega
 have Zd:(List.replicate (n-i) (I 0)).length=n-i:=List.length_replicate ..;have Ze:(aH c o (List.replicate (n-i) (I 0))).length=c.length:=jb (by rw[Zd];omega);refine ae (v:=uv) (S1:=S.set p (.row (aH c o (List.replicate (n-i) (I 0))))) ?_ ?_
 .show tY 1 [I 0] (.sl p o (n-i) (cap-i)) S=_;unfold tY;simp only[h1];have g:(Nat.ble (o+(n-i)*1) (bD c)&&Nat.beq (bD [I 0]) 1)=true:=by rw[aS,cJ am];rfl
  rw[if_pos g,Pn]
 refine ae (v:=.sl p 0 i cap) (S1:=S.set p (.row (aH c o (List.replicate (n-i) (I 0))))) ?_ ?_
 .show eN (dL 1 (.sl p 0 n cap) none (some (I (i:Int))) none) _=_;have b2:jN none (some (I (i:Int))) none n cap=some (0,i,cap):=by unfold jN;show(match fY (some (I (i:Int))) n cap with|some h=>_|none=>none)=_;have h2:fY (some (I (i:Int))) n cap=some i:=IG am;rw[h2];rfl
  unfold dL;simp only[b2];have e:(if Nat.beq cap 0=true then 0 else Nat.add 0 (Nat.mul 0 1))=0:=by split<;>rfl
  rw[e];rfl
 refine h _ (H.step (i:=0) (x':=.sl (.sl p 0 i cap) 1 (L.take i)) rfl (Nat.le_refl _) ?_ ?_ ?_)
 .intro j hj fI;rw[AH.db,if_neg (by simpa[Own.ids,dQ] using fI)]
 .refine .inr ⟨p,0,aH c o (List.replicate (n-i) (I 0)),.inl ⟨cap,by rw[List.length_take];omega,by rw[Ze];omega,by rw[List.length_take,Nat.min_eq_left hi]⟩,by rw[AH.db,if_pos rfl],?_,λx hx=>h3 x (List.mem_of_mem_take hx)⟩;have wu:=bm (es:=1) (L:=L.take i) λx hx=>h3 x (List.mem_of_mem_take hx);have e3:(L.take i).flatten=c.take i:=by
   have e4:L.flatten=(L.take i).flatten++(L.drop i).flatten:=by rw[<-List.flatten_append,List.take_append_drop]
   rw[List.drop_zero,Nat.mul_one] at h2;have:(c.take L.length).take i=L.flatten.take i:=by rw[h2]
   rw[List.take_take,Nat.min_eq_left hi] at this;rw[this,e4];rw[List.length_take,Nat.min_eq_left hi,Nat.mul_one] at wu;exact(List.take_left' wu).symm
  rw[e3,List.drop_zero,List.length_take,Nat.min_eq_left hi,Nat.mul_one];apply List.ext_getElem?;intro j;rw[List.getElem?_take,List.getElem?_take,jv (by rw[Zd];omega)];split;.rw[if_neg (by rw[Zd];omega)]
  .rfl
 .intro j hj;exact⟨(H.oi _ (List.Mem.head _) j hj).1,.inl hj⟩
end
end Go.cO
