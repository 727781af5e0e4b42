/- Contracts. Conditions: in each theorem. -/
import Derived.Test.YtdfgboafnklioaaGreatM81
import Derived.Test.YtdfgboafnklioaaGreatM83
set_option linter.all false
set_option maxRecDepth 100000
set_option maxHeartbeats 4000000
noncomputable section
namespace Go.cG
open Go.Proofs
def apart (l:List Int)(n:Int):Prop:=(∀a∈l,0<=a/\a<n)/\l.Nodup
instance ac6 (l:List Int)(n:Int):Decidable (apart l n):=by unfold apart;infer_instance
section
variable{B0 S:AH}{W:List Nat}{R:List Own}{ro:List aI}{u:AV}{l:List Int}{n:Int}
theorem uq {i:Nat}{a:Int}(h:l[i]?=some a):(ints l)[i]?=some [I a]:=by unfold ints;rw[List.getElem?_map,h];rfl
theorem I7 (hl:l.length<=100000)(hv:aI.sl u 1 (ints l)∈ro)(H:Cx B0 W S R ro):
  aN EM (zF 147) [u,I n] S λr S'=>∃ab,(r=B (decide (n∈l))/\ab=R)/\Cx B0 W S' ab ro:=by
 refine Vx.fm H rfl (b:=Tryz.a147) ?_
 (repeat' first|refine Zx.av (v:=u) ?_|refine Zx.au (v:=u) ?_|constructor|exact ZQ|intro _)
 all_goals apply zL
 refine Vx.inv (α:=Nat) (P:=λi k=>k+i=l.length/\n∉l.take i) (λi=>[I (i:Int),B false]) (λ_=>R) ?_ (a0:=0) (n0:=l.length) ⟨am,ac⟩;rintro i k ⟨hk,hn⟩ ih;refine Vx.FL hv ?_;rw[cO]
 (repeat' first|refine Zx.av (v:=u) ?_|refine Zx.au (v:=u) ?_|constructor|exact ZQ|intro _)
 all_goals apply zL
 .next de=>
  have JA:i<l.length:=am;obtain⟨a,ha⟩:∃a,a=l[i]:=⟨_,rfl⟩;have jd:(ints l)[(i:Int).toNat]?=some [I a]:=by rw[Int.toNat_natCast,ha];exact uq (List.getElem?_eq_getElem JA)
  refine Zx.ok (n:=false) (Zx.QI hv am jd ?_)
  (repeat' first|refine Zx.av (v:=u) ?_|refine Zx.au (v:=u) ?_|constructor|exact ZQ|intro _)
  all_goals apply zL
  .next e=>subst e;exact⟨rfl,rfl,_,⟨by rw[decide_eq_true (by rw[ha];exact List.getElem_mem _)];rfl,rfl⟩,HQ⟩
  .next e=>
   exact ih (i+1) (k-1) am ⟨am,by
    rw[List.take_add_one,List.getElem?_eq_getElem JA,<-ha];simp only[Option.toList_some,List.mem_append,List.mem_singleton,not_or];exact⟨hn,λh=>e h.symm⟩⟩
 .exact⟨rfl,rfl,_,⟨by rw[decide_eq_false (by rwa[List.take_of_length_le am] at hn)];rfl,rfl⟩,HQ⟩
theorem Vx.NH {M:cP}{own:List Own}{Φ:gz}{K:List Kf}{g:Bool}{o:fK}{k:AV->AC}(h:Vx M (.op o k) K own ro Φ):Vx M (.qh (B g) g o k) K own ro Φ:=λB W S H=>cN (h B W S H)
theorem CN {i:Nat}{a:Int}(h:(l.take i).Nodup)(ha:l[i]?=some a)(hn:a∉l.take i):(l.take (i+1)).Nodup:=by rw[List.take_add_one,ha];rw[List.nodup_append];refine⟨h,ac,λb hb c hc e=>?_⟩;simp only[Option.toList_some,List.mem_singleton] at hc;subst hc e;exact hn hb
theorem rL (hl:l.length<=100000)(hv:aI.sl u 1 (ints l)∈ro)(H:Cx B0 W S R ro):
  aN EM (zF 59) [u,I n] S λr S'=>∃ab,(r=B (decide (apart l n))/\ab=R)/\Cx B0 W S' ab ro:=by
 refine Vx.fm H rfl (b:=Tryz.a59) ?_
 (repeat' first|refine Zx.av (v:=u) ?_|refine Zx.au (v:=u) ?_|constructor|exact ZQ|intro _)
 all_goals apply zL
 refine Vx.inv (α:=Nat) (P:=λi k=>k+i=l.length/\(∀a∈l.take i,0<=a/\a<n)/\(l.take i).Nodup) (λi=>[I (i:Int),B false]) (λ_=>R) ?_ (a0:=0) (n0:=l.length) ⟨am,ac,ac⟩;rintro i k ⟨hk,hn,hd⟩ ih;refine Vx.FL hv ?_;rw[cO]
 (repeat' first|refine Zx.av (v:=u) ?_|refine Zx.au (v:=u) ?_|constructor|exact ZQ|intro _)
 all_goals apply zL
 .next de=>
  have JA:i<l.length:=am;obtain⟨a,ha⟩:∃a,l[i]?=some a:=⟨_,List.getElem?_eq_getElem JA⟩;have jd:(ints l)[(i:Int).toNat]?=some [I a]:=by rw[Int.toNat_natCast];exact uq ha
  have hm:a∈l:=List.mem_of_getElem? ha;have no:¬(0<=a/\a<n)->B false=B (decide (apart l n)):=λh=>by rw[decide_eq_false λg=>h (g.1 a hm)]
  refine Zx.ok (n:=false) (Zx.QI hv am jd ?_)
  (repeat' first|refine Zx.av (v:=u) ?_|refine Zx.au (v:=u) ?_|constructor|exact ZQ|intro _)
  all_goals apply zL
  .exact⟨rfl,rfl,_,⟨no am,rfl⟩,HQ⟩
  refine Zx.ok (n:=false) (Zx.UB hv am jd ?_)
  (repeat' first|refine Zx.av (v:=u) ?_|refine Zx.au (v:=u) ?_|constructor|exact ZQ|intro _)
  all_goals apply zL
  .exact⟨rfl,rfl,_,⟨no am,rfl⟩,HQ⟩
  show Vx EM (.op (.i_ 1 u none (some (I (i:Int))) none) _) _ _ _ _;refine(Vx.UA (i:=i) hv (by rw[cO];omega) λvc=>?_);refine Zx.ok (n:=false) ?_
  (repeat' first|refine Zx.av (v:=vc) ?_|refine Zx.au (v:=vc) ?_|constructor|exact ZQ|intro _)
  all_goals apply zL
  refine Zx.ok (n:=false) (Zx.UB (List.Mem.tail _ hv) am jd ?_)
  (repeat' first|refine Zx.av (v:=vc) ?_|refine Zx.au (v:=vc) ?_|constructor|exact ZQ|intro _)
  all_goals apply zL
  refine Vx.spec (Ψ:=λr ab=>r=B (decide (a∈l.take i))/\ab=R) (λB1 W1 S1 H=>I7 (l:=l.take i) (by rw[List.length_take];omega) (by rw[show ints (l.take i)=(ints l).take i from List.map_take];exact List.Mem.head _) H) ?_;rintro _ _ ⟨rfl,rfl⟩;refine .z (.of (Vx.tl (Zx.ok (n:=false) ?_)))
  (repeat' first|refine Zx.av (v:=vc) ?_|refine Zx.au (v:=vc) ?_|constructor|exact ZQ|intro _)
  all_goals apply zL
  .next tY=>
   have hnp:¬apart l n:=λg=>by have g2:=g.2;rw[<-List.take_append_drop i l,List.nodup_append] at g2;refine g2.2.2 a tY a ?_ rfl;rw[List.drop_eq_getElem_cons JA];rw[List.getElem?_eq_getElem JA] at ha;cases ha;exact List.Mem.head _
   exact⟨rfl,rfl,_,⟨by rw[decide_eq_false hnp];rfl,rfl⟩,HQ⟩
  .next tY=>
   exact ih (i+1) (k-1) am ⟨am,λb hb=>by
    rw[List.take_add_one,ha] at hb;rcases List.mem_append.1 hb with h|h;.exact hn b h
    .simp only[Option.toList_some,List.mem_singleton] at h;subst h;omega,CN hd ha tY⟩
 .have e:l.take i=l:=List.take_of_length_le am;rw[e] at hn hd;exact⟨rfl,rfl,_,⟨by rw[decide_eq_true (show apart l n from⟨hn,hd⟩)];rfl,rfl⟩,HQ⟩
end
def Az (n:Int):Int:=fL .i64 n
theorem yI {n:Int}(h1:-9223372036854775808<=n)(h2:n<=9223372036854775807):Az n=n:=wrap64 h1 h2
theorem Zx.PL {M:cP}{own:List Own}{ro:List aI}{Φ:gz}{K:List Kf}{g b:Int}{k:AV->AC}(h:Zx M false (k (I (Az (g+b)))) K own ro Φ):Zx M false (.op (.bin .add (I g) (I b)) k) K own ro Φ:=.z (.of λB W S H=>r_ rfl (h.ok B W S H))
theorem I8:∀c:List AV,(c.map λx=>[x]).flatten=c
 |[]=>rfl
 |a::c=>by rw[List.map_cons,List.flatten_cons,I8 c];rfl
section
variable{ro:List aI}{K:List Kf}{R:List Own}{Φ:gz}{M:cP}{v:AV}{L:List (List AV)}
theorem Vx.CO {bytes q n:Nat}{c:List AV}{k:AV->AC}(hc:c.length=n)(hb:(L.length+n)*bytes<=140737488355328)(hl:L.length+n<=9223372036854775807)(h:∀v',odd v'=false->v'.cells=[v']->AV.beq v' v'=true->Zx M false (k v') K (.sl v' 1 (L++c.map λx=>[x])::R) ro Φ):Vx M (.op (.append 1 bytes v (.sl q 0 n n)) k) K (.obj q (.row c)::.sl v 1 L::R) ro Φ:=
 Vx.Zv (n:=n) (L:=c.map λx=>[x]) (I8 c).symm (by simpa using hc) ac (Vx.apR (List.Mem.head _) ac (by simpa[hc] using hb) (by simpa[hc] using hl) λv' g1 g2 g3=>.z (.of (Vx.tl (Vx.tl (h v' g1 g2 g3).ok))))
end
def gP (f:Nat->List Int):Nat->List Int
 |0=>[]
 |n+1=>gP f n++f n
theorem ez {w:Nat}{f:Nat->List Int}(h:∀k,(f k).length=w):∀n,(gP f n).length=w*n
 |0=>rfl
 |n+1=>by rw[gP,List.length_append,ez h n,h n,Nat.mul_succ]
section
variable{ro:List aI}{K:List Kf}{R:List Own}{Φ:gz}{M:cP}{v:AV}
theorem Vx.JB {f:Nat->List Int}{w N:Nat}{L:List Int}{body:List AV->AC}{outs:List AV->List AV}(hw:∀k,(f k).length=w)(hb:L.length+w*N<=1000000)
  (hs:∀(i:Nat) (v:AV),i<N->(∀(K':List Kf) (q:Nat) (k:AV->AC),(∀v',odd v'=false->v'.cells=[v']->AV.beq v' v'=true->Zx M false (k v') K' (.sl v' 1 (ints (L++gP f (i+1)))::R) ro Φ)->Vx M (.op (.append 1 8 v (.sl q 0 w w)) k) K' (.obj q (.row ((f i).map λa=>I a))::.sl v 1 (ints (L++gP f i))::R) ro Φ)->
    (∀v',Vx M (.ret .normal [I ((i:Int)+1),v']) (.loop body outs::K) (.sl v' 1 (ints (L++gP f (i+1)))::R) ro Φ)->Vx M (body [I (i:Int),v]) (.loop body outs::K) (.sl v 1 (ints (L++gP f i))::R) ro Φ)
  (he:∀v,Vx M (body [I (N:Int),v]) (.loop body outs::K) (.sl v 1 (ints (L++gP f N))::R) ro Φ):Vx M (.loop [I 0,v] body outs) K (.sl v 1 (ints L)::R) ro Φ:=by
 rw[show ints L=ints (L++gP f 0) from by rw[gP,List.append_nil]];refine Vx.inv (α:=Nat×AV) (P:=λz n=>n+z.1=N) (λz=>[I (z.1:Int),z.2]) (λz=>.sl z.2 1 (ints (L++gP f z.1))::R) ?_ (a0:=(0,v)) (n0:=N) rfl;rintro⟨i,v⟩ n hn ih;dsimp only at hn ih⊢;by_cases hi:i<N
 .refine hs i v hi (λK' q k h=>?_) λv'=>ih (i+1,v') (n-1) am (by dsimp only;omega);have e2:(ints (L++gP f i)).length=L.length+w*i:=(cO _).trans (by rw[List.length_append,ez hw]);have hm:=Nat.mul_le_mul_left w (show i+1<=N from hi);rw[Nat.mul_succ] at hm;refine Vx.CO (by rw[List.length_map,hw]) (by rw[e2];omega) (by rw[e2];omega) λv' o1 o2 o3=>?_;have h2:=h v' o1 o2 o3;rw[show ints (L++gP f (i+1))=ints (L++gP f i)++((f i).map λa=>I a).map λx=>[x] from by rw[gP,<-List.append_assoc,List.map_map];unfold ints;rw[List.map_append];rfl] at h2;exact h2
 .obtain rfl:i=N:=am;exact he v
end
def wG (top links size an aF:Int):Nat->List Int
 |0=>[top,aF]
 |i+1=>wG top links size an aF i++[links+i,Az (an+i)]
section
variable{B0 S:AH}{W:List Nat}{R:List Own}{ro:List aI}{top links size an aF fJ:Int}
theorem rM:∀n,(wG top links size an aF n).length=2*n+2
 |0=>rfl
 |n+1=>by rw[wG,List.length_append,rM n];simp;omega
theorem wo (hs:0<=size/\size<=4096)(hl:0<=links/\links<=4096)(H:Cx B0 W S R ro):
  aN EM (zF 240) [.agg [I top,I links,I size,I an,I aF,I fJ]] S λr S'=>∃ab,(ab=.sl r 1 (ints (wG top links size an aF size.toNat))::R)/\Cx B0 W S' ab ro:=by
 refine Vx.fm H rfl (b:=Tryz.a240) ?_
 (repeat' first|constructor|exact ZQ|intro _)
 all_goals apply zL
 rename_i p1 p2;refine Vx.Lw (n:=2) (es:=1) (L:=[[I top],[I aF]]) rfl rfl ac ?_;generalize AV.sl p2 0 2 2=v2;obtain⟨N,rfl⟩:∃N:Nat,size=N:=⟨size.toNat,am⟩;rw[Int.toNat_natCast];refine Vx.inv (α:=Nat×AV) (P:=λz n=>n+z.1=N) (λz=>[I (z.1:Int),z.2])
  (λz=>.sl z.2 1 (ints (wG top links N an aF z.1))::.obj p1 (.row [I top,I links,I N,I an,I aF,I fJ])::R) ?_ (a0:=(0,v2)) (n0:=N) (by rfl)
 rintro⟨i,v⟩ n hn ih;dsimp only at hn ih⊢;refine Zx.ok (n:=false) ?_;repeat' first|refine Zx.ck ?_|refine Zx.PL (g:=an) ?_|constructor|exact ZQ|intro _
 all_goals apply zL
 .next de p=>
  have e2:(ints (wG top links N an aF i)).length=2*i+2:=(cO _).trans (rM i);show Vx EM (.op (.append 1 8 v (.sl _ 0 2 2)) _) _ _ _ _;refine Vx.CO rfl (by rw[e2];omega) (by rw[e2];omega) λv' o1 o2 o3=>?_;have h2:=ih (i+1,v') (n-1) am (by dsimp only;omega);dsimp only at h2;rw[show ints (wG top links N an aF (i+1))=ints (wG top links N an aF i)++[I (links+i),I (Az (an+i))].map λx=>[x] from by rw[wG];unfold ints;rw[List.map_append];rfl] at h2
  (repeat' first|constructor|exact ZQ|intro _)
  all_goals apply zL
 .obtain rfl:N=i:=am;exact⟨rfl,rfl,_,rfl,HQ⟩
end
def sA (top links size N:Int):Prop:=(1<=size/\size<=4096)/\(0<=top/\top<N)/\(0<=links/\links+size<=N)/\(top<links\/links+size<=top)
instance ac7 {top links size N:Int}:Decidable (sA top links size N):=by unfold sA;infer_instance
def zk (bh pins ad N:Int):Prop:=(1<=ad/\ad<=64)/\(0<=bh/\bh<N)/\(0<=pins/\pins+ad<=N)/\(bh<pins\/pins+ad<=bh)
instance ac8 {a p c N:Int}:Decidable (zk a p c N):=by unfold zk;infer_instance
def eC (N:Int)(p:Prop)[Decidable p]:Int:=if N<1\/4096<N then 3 else if p then 0 else 2
theorem bY {N:Int}{p:Prop}[Decidable p](h:N<1\/4096<N):eC N p=3:=if_pos h
theorem bG {N:Int}{p:Prop}[Decidable p](h:¬(N<1\/4096<N))(hp:p):eC N p=0:=(if_neg h).trans (if_pos hp)
theorem bC {N:Int}{p:Prop}[Decidable p](h:¬(N<1\/4096<N))(hp:¬p):eC N p=2:=(if_neg h).trans (if_neg hp)
section
variable{B0 S:AH}{W:List Nat}{R:List Own}{ro:List aI}{top links size an aF fJ N:Int}
theorem ZC (H:Cx B0 W S R ro):aN EM (zF 363) [.agg [I top,I links,I size],I N] S λr S'=>∃ab,(r=I (eC N (sA top links size N))/\ab=R)/\Cx B0 W S' ab ro:=by
 refine Vx.fm H rfl (b:=Tryz.a363) ?_
 (repeat' first|constructor|exact ZQ|intro _)
 all_goals apply zL
 all_goals exact⟨rfl,rfl,_,⟨by first|(rw[bY am];rfl;done)|(rw[bG am (by unfold sA;omega)];rfl;done)|(rw[bC am (by unfold sA;omega)];rfl;done),rfl⟩,HQ⟩
theorem ZF {bh pins ad:Int}(H:Cx B0 W S R ro):aN EM (zF 239) [.agg [I bh,I pins,I ad],I N] S λr S'=>∃ab,(r=I (eC N (zk bh pins ad N))/\ab=R)/\Cx B0 W S' ab ro:=by
 refine Vx.fm H rfl (b:=Tryz.a239) ?_
 (repeat' first|constructor|exact ZQ|intro _)
 all_goals apply zL
 all_goals exact⟨rfl,rfl,_,⟨by first|(rw[bY am];rfl;done)|(rw[bG am (by unfold zk;omega)];rfl;done)|(rw[bC am (by unfold zk;omega)];rfl;done),rfl⟩,HQ⟩
theorem UH (H:Cx B0 W S R ro):aN EM (zF 139) [.agg [I top,I links,I size],I N] S λr S'=>∃ab,(r=I (eC N (sA top links size N))/\ab=R)/\Cx B0 W S' ab ro:=by
 refine Vx.fm H rfl (b:=Tryz.a139) ?_
 (repeat' first|constructor|exact ZQ|intro _)
 all_goals apply zL
 all_goals exact⟨rfl,rfl,_,⟨by first|(rw[bY am];rfl;done)|(rw[bG am (by unfold sA;omega)];rfl;done)|(rw[bC am (by unfold sA;omega)];rfl;done),rfl⟩,HQ⟩
theorem ZG {bh pins ad:Int}(H:Cx B0 W S R ro):aN EM (zF 235) [.agg [I bh,I pins,I ad],I N] S λr S'=>∃ab,(r=I (eC N (zk bh pins ad N))/\ab=R)/\Cx B0 W S' ab ro:=by
 refine Vx.fm H rfl (b:=Tryz.a235) ?_
 (repeat' first|constructor|exact ZQ|intro _)
 all_goals apply zL
 all_goals exact⟨rfl,rfl,_,⟨by first|(rw[bY am];rfl;done)|(rw[bG am (by unfold zk;omega)];rfl;done)|(rw[bC am (by unfold zk;omega)];rfl;done),rfl⟩,HQ⟩
end
def PM (top links size an aF fJ N:Int):Prop:=sA top links size N/\(1<=fJ/\fJ<=4294967295)/\apart (wG top links size an aF size.toNat) N
instance ac9 {top links size an aF fJ N:Int}:Decidable (PM top links size an aF fJ N):=by unfold PM;infer_instance
theorem Vx.Bo {M:cP}{x:AC}{K:List Kf}{R:List Own}{ro:List aI}{Φ:gz}{u:AV}{es:Nat}{L:List (List AV)}(h:Vx M x K R (.sl u es L::ro) Φ):Vx M x K (.sl u es L::R) ro Φ:=λB W S H=>h B W S (H.IY (i:=0) rfl)
section
variable{B0 S:AH}{W:List Nat}{R:List Own}{ro:List aI}{top links size an aF fJ N:Int}
theorem ZH (H:Cx B0 W S R ro):aN EM (zF 238) [.agg [I top,I links,I size,I an,I aF,I fJ],I N] S λr S'=>∃ab,(r=I (eC N (PM top links size an aF fJ N))/\ab=R)/\Cx B0 W S' ab ro:=by
 refine Vx.fm H rfl (b:=Tryz.a238) ?_;repeat' first|refine Zx.aA 363 ?_|refine Zx.aA 240 ?_|refine Zx.aA 59 ?_|constructor|exact ZQ|intro _
 all_goals apply zL
 .exact⟨rfl,rfl,_,⟨by rw[bY am];rfl,rfl⟩,HQ⟩
 .exact⟨rfl,rfl,_,⟨by rw[bY am];rfl,rfl⟩,HQ⟩
 .refine Vx.spec (λB1 W1 S1 H=>ZC H) ?_;rintro _ _ ⟨rfl,rfl⟩;have no:¬PM top links size an aF fJ N->oneOf [I 2]=I (eC N (PM top links size an aF fJ N)):=λh=>by rw[bC am h];rfl
  by_cases hs:sA top links size N
  .rw[bG am hs];repeat' first|refine Zx.aA 363 ?_|refine Zx.aA 240 ?_|refine Zx.aA 59 ?_|constructor|exact ZQ|intro _
   all_goals apply zL
   .exact⟨rfl,rfl,_,⟨no λh=>by have:=h.2.1;omega,rfl⟩,HQ⟩
   .exact⟨rfl,rfl,_,⟨no λh=>by have:=h.2.1;omega,rfl⟩,HQ⟩
   .refine Vx.spec (λB1 W1 S1 H=>wo (by have:=hs.1;omega) (by have:=hs.2.2.1;have:=hs.1;omega) H) ?_;rintro u _ rfl
    (repeat' first|refine Zx.aA 59 ?_|constructor|exact ZQ|intro _)
    all_goals apply zL
    refine Vx.Bo ?_;refine Vx.spec (λB1 W1 S1 H=>rL (l:=wG top links size an aF size.toNat) (by rw[rM];have:=hs.1;omega) (List.Mem.head _) H) ?_;rintro _ _ ⟨rfl,rfl⟩;refine .z (.of (Vx.tl (Zx.ok (n:=false) ?_)));by_cases ha:apart (wG top links size an aF size.toNat) N
    .rw[decide_eq_true ha]
     (repeat' first|constructor|exact ZQ|intro _)
     all_goals apply zL
     exact⟨rfl,rfl,_,⟨by rw[bG am ⟨hs,am,ha⟩];rfl,rfl⟩,HQ⟩
    .rw[decide_eq_false ha]
     (repeat' first|constructor|exact ZQ|intro _)
     all_goals apply zL
     exact⟨rfl,rfl,_,⟨no λh=>ha h.2.2,rfl⟩,HQ⟩
  .rw[bC am hs]
   (repeat' first|constructor|exact ZQ|intro _)
   all_goals apply zL
   exact⟨rfl,rfl,_,⟨no λh=>hs h.1,rfl⟩,HQ⟩
end
def qe (top links size an aF bh pins aL:Int):Nat->List Int
 |0=>wG top links size an aF size.toNat++[bh,aL,Az (aL+1),Az (aL+2)]
 |i+1=>qe top links size an aF bh pins aL i++[pins+i]
def PN (top links size an aF fJ bh pins ad aL N:Int):Prop:=PM top links size an aF fJ N/\zk bh pins ad N/\apart (qe top links size an aF bh pins aL ad.toNat) N
instance ada {top links size an aF fJ bh pins ad aL N:Int}:Decidable (PN top links size an aF fJ bh pins ad aL N):=by unfold PN;infer_instance
section
variable{B0 S:AH}{W:List Nat}{R:List Own}{ro:List aI}{top links size an aF fJ bh pins ad aL N:Int}
theorem mT:∀n,(qe top links size an aF bh pins aL n).length=2*size.toNat+6+n
 |0=>by rw[qe,List.length_append,rM];rfl
 |n+1=>by rw[qe,List.length_append,mT n];rfl
theorem qg (hs:0<=size/\size<=4096)(hl:0<=links/\links<=4096)(hc:0<=ad/\ad<=64)(hp:0<=pins/\pins<=4096)(H:Cx B0 W S R ro):
  aN EM (zF 145) [.agg [I top,I links,I size,I an,I aF,I fJ,I bh,I pins,I ad,I aL]] S λr S'=>∃ab,(ab=.sl r 1 (ints (qe top links size an aF bh pins aL ad.toNat))::R)/\Cx B0 W S' ab ro:=by
 refine Vx.fm H rfl (b:=Tryz.a145) ?_;repeat' first|refine Zx.aA 240 ?_|refine Zx.PL (g:=aL) ?_|constructor|exact ZQ|intro _
 all_goals apply zL
 rename_i p1;refine Vx.spec (λB1 W1 S1 H=>wo hs hl H) ?_;rintro u _ rfl;repeat' first|refine Zx.ck ?_|refine Zx.PL (g:=aL) ?_|constructor|exact ZQ|intro _
 all_goals apply zL
 rename_i p2;have e2:(ints (wG top links size an aF size.toNat)).length=2*size.toNat+2:=(cO _).trans (rM _);refine Vx.bQ (own:=.obj p1 (.row [I bh,I aL,I (Az (aL+1)),I (Az (aL+2))])::.sl u 1 (ints (wG top links size an aF size.toNat))::.obj p2 (.row [I top,I links,I size,I an,I aF,I fJ,I bh,I pins,I ad,I aL])::R) HQ ?_;refine Vx.CO rfl (by rw[e2];omega) (by rw[e2];omega) λv' o1 o2 o3=>?_;rw[show ints (wG top links size an aF size.toNat)++[I bh,I aL,I (Az (aL+1)),I (Az (aL+2))].map (λx=>[x])=ints (qe top links size an aF bh pins aL 0) from by rw[qe];unfold ints;rw[List.map_append];rfl];obtain⟨N,rfl⟩:∃N:Nat,ad=N:=⟨ad.toNat,am⟩;rw[Int.toNat_natCast]
 (repeat' first|constructor|exact ZQ|intro _)
 all_goals apply zL
 refine Vx.inv (α:=Nat×AV) (P:=λz n=>n+z.1=N) (λz=>[I (z.1:Int),z.2])
  (λz=>.sl z.2 1 (ints (qe top links size an aF bh pins aL z.1))::.obj p2 (.row [I top,I links,I size,I an,I aF,I fJ,I bh,I pins,I N,I aL])::R) ?_ (a0:=(0,v')) (n0:=N) (by rfl)
 rintro⟨i,v⟩ n hn ih;dsimp only at hn ih⊢;refine Zx.ok (n:=false) ?_;repeat' first|refine Zx.ck ?_|constructor|exact ZQ|intro _
 all_goals apply zL
 .next de p=>
  have e2:(ints (qe top links size an aF bh pins aL i)).length=2*size.toNat+6+i:=(cO _).trans (mT i);show Vx EM (.op (.append 1 8 v (.sl _ 0 1 1)) _) _ _ _ _;refine Vx.CO rfl (by rw[e2];omega) (by rw[e2];omega) λv' o1 o2 o3=>?_;have h2:=ih (i+1,v') (n-1) am (by dsimp only;omega);dsimp only at h2;rw[show ints (qe top links size an aF bh pins aL (i+1))=ints (qe top links size an aF bh pins aL i)++[I (pins+i)].map λx=>[x] from by rw[qe];unfold ints;rw[List.map_append];rfl] at h2
  (repeat' first|constructor|exact ZQ|intro _)
  all_goals apply zL
 .obtain rfl:N=i:=am;exact⟨rfl,rfl,_,rfl,HQ⟩
end
section
variable{B0 S:AH}{W:List Nat}{R:List Own}{ro:List aI}{top links size an aF fJ bh pins ad aL N:Int}
theorem ZI (H:Cx B0 W S R ro):aN EM (zF 144) [.agg [I top,I links,I size,I an,I aF,I fJ,I bh,I pins,I ad,I aL],I N] S λr S'=>∃ab,(r=I (eC N (PN top links size an aF fJ bh pins ad aL N))/\ab=R)/\Cx B0 W S' ab ro:=by
 refine Vx.fm H rfl (b:=Tryz.a144) ?_
 (repeat' first|refine Zx.aA 238 ?_|constructor|exact ZQ|intro _)
 all_goals apply zL
 .exact⟨rfl,rfl,_,⟨by rw[bY am];rfl,rfl⟩,HQ⟩
 .exact⟨rfl,rfl,_,⟨by rw[bY am];rfl,rfl⟩,HQ⟩
 .have no:¬PN top links size an aF fJ bh pins ad aL N->oneOf [I 2]=I (eC N (PN top links size an aF fJ bh pins ad aL N)):=λh=>by rw[bC am h];rfl
  refine Vx.spec (λB1 W1 S1 H=>ZH H) ?_;rintro _ _ ⟨rfl,rfl⟩;by_cases ha:PM top links size an aF fJ N
  .rw[bG am ha]
   (repeat' first|refine Zx.aA 239 ?_|constructor|exact ZQ|intro _)
   all_goals apply zL
   refine Vx.spec (λB1 W1 S1 H=>ZF H) ?_;rintro _ _ ⟨rfl,rfl⟩;by_cases he:zk bh pins ad N
   .rw[bG am he];have h1:=ha.1.1;have h2:=ha.1.2.2.1;have h3:=he.1;have h4:=he.2.2.1
    (repeat' first|refine Zx.aA 145 ?_|constructor|exact ZQ|intro _)
    all_goals apply zL
    refine Vx.spec (λB1 W1 S1 H=>qg am am am am H) ?_;rintro u _ rfl
    (repeat' first|refine Zx.aA 59 ?_|constructor|exact ZQ|intro _)
    all_goals apply zL
    refine Vx.Bo ?_;refine Vx.spec (λB1 W1 S1 H=>rL (l:=qe top links size an aF bh pins aL ad.toNat) (by rw[mT];omega) (List.Mem.head _) H) ?_;rintro _ _ ⟨rfl,rfl⟩;refine .z (.of (Vx.tl (Zx.ok (n:=false) ?_)));by_cases hp:apart (qe top links size an aF bh pins aL ad.toNat) N
    .rw[decide_eq_true hp]
     (repeat' first|constructor|exact ZQ|intro _)
     all_goals apply zL
     exact⟨rfl,rfl,_,⟨by rw[bG am ⟨ha,he,hp⟩];rfl,rfl⟩,HQ⟩
    .rw[decide_eq_false hp]
     (repeat' first|constructor|exact ZQ|intro _)
     all_goals apply zL
     exact⟨rfl,rfl,_,⟨no λh=>hp h.2.2,rfl⟩,HQ⟩
   .rw[bC am he]
    (repeat' first|constructor|exact ZQ|intro _)
    all_goals apply zL
    exact⟨rfl,rfl,_,⟨no λh=>he h.2.1,rfl⟩,HQ⟩
  .rw[bC am ha]
   (repeat' first|constructor|exact ZQ|intro _)
   all_goals apply zL
   exact⟨rfl,rfl,_,⟨no λh=>ha h.1,rfl⟩,HQ⟩
end
def rg (a:Int):Nat->List Int
 |0=>[]
 |n+1=>rg a n++[a+n]
theorem sB {a:Int}:∀n,(rg a n).length=n
 |0=>rfl
 |n+1=>by rw[rg,List.length_append,sB n];rfl
section
variable{B0 S:AH}{W:List Nat}{R:List Own}{ro:List aI}
def D5 (t:X.To):Nat:=(t.aH*(4+t.ht)).toNat
theorem CP {t:X.To}(h:t.ok):0<=t.aH*(4+t.ht)/\t.aH*(4+t.ht)<=1024:=by obtain⟨h1,h2,h3,h4,_⟩:=h;exact⟨Int.mul_nonneg am am,by have:=Int.mul_le_mul (show t.aH<=128 by omega) (show 4+t.ht<=8 by omega) am am;omega⟩
theorem PO {t:X.To}(ht:t.ok)(H:Cx B0 W S R ro):
  aN EM (zF 146) [.agg t.cs] S λr S'=>∃ab,(ab=.sl r 1 (ints (rg t.nd (D5 t)++rg t.hd t.ht.toNat))::R)/\Cx B0 W S' ab ro:=by
 have hb:=CP ht;obtain⟨h1,h2,h3,h4,h5,h6,h7,h8⟩:=ht;obtain⟨nd,hd,ht,eJ,bo,aH,an,aF,fJ,mR,pins,ad,aL⟩:=t;dsimp only at h1 h2 h3 h4 h5 h6 h7 h8 hb;unfold X.To.cs D5;dsimp only;refine Vx.fm H rfl (b:=Tryz.a146) ?_
 (repeat' first|constructor|exact ZQ|intro _)
 all_goals apply zL
 rename_i p1;obtain⟨P,hP⟩:∃P:Nat,aH*(4+ht)=P:=⟨(aH*(4+ht)).toNat,am⟩;rw[hP,Int.toNat_natCast];obtain⟨T,rfl⟩:∃T:Nat,ht=T:=⟨ht.toNat,am⟩;rw[Int.toNat_natCast];refine Vx.Zw ?_;refine Vx.inv (α:=Nat×AV) (P:=λz n=>n+z.1=P) (λz=>[I (z.1:Int),z.2])
  (λz=>.sl z.2 1 (ints (rg nd z.1))::.obj p1 (.row [I nd,I hd,I (T:Int),I eJ,I bo,I aH,I an,I aF,I fJ,I mR,I pins,I ad,I aL])::R) ?_ (a0:=(0,Ns)) (n0:=P) (by rfl)
 rintro⟨i,v⟩ n hn ih;dsimp only at hn ih⊢;refine Zx.ok (n:=false) ?_;repeat' first|refine Zx.ck ?_|constructor|exact ZQ|intro _
 all_goals apply zL
 .next de p=>
  rw[hP] at de;have e2:(ints (rg nd i)).length=i:=(cO _).trans (sB i);show Vx EM (.op (.append 1 8 v (.sl _ 0 1 1)) _) _ _ _ _;refine Vx.CO rfl (by rw[e2];omega) (by rw[e2];omega) λv' o1 o2 o3=>?_;have h2:=ih (i+1,v') (n-1) am (by dsimp only;omega);dsimp only at h2;rw[show ints (rg nd (i+1))=ints (rg nd i)++[I (nd+i)].map λx=>[x] from by rw[rg];unfold ints;rw[List.map_append];rfl] at h2
  (repeat' first|constructor|exact ZQ|intro _)
  all_goals apply zL
 .next de=>
  rw[hP] at de;obtain rfl:P=i:=am;clear ih;have el:=sB (a:=nd) P;generalize rg nd P=L at el;rw[show ints L=ints (L++rg hd 0) from by rw[rg,List.append_nil]];refine Vx.inv (α:=Nat×AV) (P:=λz n=>n+z.1=T) (λz=>[I (z.1:Int),z.2])
   (λz=>.sl z.2 1 (ints (L++rg hd z.1))::.obj p1 (.row [I nd,I hd,I (T:Int),I eJ,I bo,I aH,I an,I aF,I fJ,I mR,I pins,I ad,I aL])::R) ?_ (a0:=(0,v)) (n0:=T) (by rfl)
  rintro⟨i,v⟩ n hn ih;dsimp only at hn ih⊢;refine Zx.ok (n:=false) ?_;repeat' first|refine Zx.ck ?_|constructor|exact ZQ|intro _
  all_goals apply zL
  .next de p=>
   have e2:(ints (L++rg hd i)).length=P+i:=(cO _).trans (by rw[List.length_append,el,sB]);show Vx EM (.op (.append 1 8 v (.sl _ 0 1 1)) _) _ _ _ _;refine Vx.CO rfl (by rw[e2];omega) (by rw[e2];omega) λv' o1 o2 o3=>?_;have h2:=ih (i+1,v') (n-1) am (by dsimp only;omega);dsimp only at h2;rw[show ints (L++rg hd (i+1))=ints (L++rg hd i)++[I (hd+i)].map λx=>[x] from by rw[rg];unfold ints;rw[<-List.append_assoc,List.map_append];rfl] at h2
   (repeat' first|constructor|exact ZQ|intro _)
   all_goals apply zL
  .obtain rfl:T=i:=am;exact⟨rfl,rfl,_,rfl,HQ⟩
end
def JC (t:X.To):List Int:=rg t.nd (D5 t)++rg t.hd t.ht.toNat
def JD (t:X.To):List Int:=qe t.eJ t.bo t.aH t.an t.aF t.mR t.pins t.aL t.ad.toNat
def Lx (t:X.To)(N:Int):Prop:=t.ok/\PN t.eJ t.bo t.aH t.an t.aF t.fJ t.mR t.pins t.ad t.aL N/\apart (JD t++JC t) N
instance adb {t:X.To}{N:Int}:Decidable (Lx t N):=by unfold Lx;infer_instance
theorem Ly {t:X.To}(h:t.ok):(JC t).length<=1028:=by have:=CP h;obtain⟨h1,h2,_⟩:=h;unfold JC;rw[List.length_append,sB,sB];unfold D5;omega
theorem Bp {l:List Int}:∀y∈ints l,y.length=1:=λy hy=>by unfold ints at hy;obtain⟨a,_,rfl⟩:=List.mem_map.1 hy;rfl
theorem I9 (a b:List Int):ints (a++b)=ints a++ints b:=List.map_append ..
section
variable{B0 S:AH}{W:List Nat}{R:List Own}{ro:List aI}{N:Int}
theorem ZJ {t:X.To}(H:Cx B0 W S R ro):aN EM (zF 58) [.agg t.cs,I N] S λr S'=>∃ab,(r=I (eC N (Lx t N))/\ab=R)/\Cx B0 W S' ab ro:=by
 unfold X.To.cs;refine Vx.fm H rfl (b:=Tryz.a58) ?_
 (repeat' first|refine Zx.aA 63 ?_|constructor|exact ZQ|intro _)
 all_goals apply zL
 .exact⟨rfl,rfl,_,⟨by rw[bY am];rfl,rfl⟩,HQ⟩
 .exact⟨rfl,rfl,_,⟨by rw[bY am];rfl,rfl⟩,HQ⟩
 .have no:¬Lx t N->oneOf [I 2]=I (eC N (Lx t N)):=λh=>by rw[bC am h];rfl
  refine Vx.spec (Ψ:=λu ab=>u=B (decide t.ok)/\ab=_) (λB1 W1 S1 H=>az (X.qd (t:=t)) λr S' h=>⟨_,⟨h.1,rfl⟩,H.grow h.2⟩) ?_;rintro _ _ ⟨rfl,rfl⟩;by_cases hk:t.ok
  .rw[decide_eq_true hk]
   (repeat' first|refine Zx.aA 144 ?_|constructor|exact ZQ|intro _)
   all_goals apply zL
   refine Vx.spec (λB1 W1 S1 H=>ZI H) ?_;rintro _ _ ⟨rfl,rfl⟩;by_cases hl:PN t.eJ t.bo t.aH t.an t.aF t.fJ t.mR t.pins t.ad t.aL N
   .rw[bG am hl];have h1:=hl.1.1.1;have h2:=hl.1.1.2.2.1;have h3:=hl.2.1.1;have h4:=hl.2.1.2.2.1;have h5:=Ly hk;have h6:(JD t).length<=10000:=by unfold JD;rw[mT];omega
    (repeat' first|refine Zx.aA 145 ?_|constructor|exact ZQ|intro _)
    all_goals apply zL
    refine Vx.spec (λB1 W1 S1 H=>qg am am am am H) ?_;rintro u _ rfl
    (repeat' first|refine Zx.aA 146 ?_|constructor|exact ZQ|intro _)
    all_goals apply zL
    refine Vx.spec (λB1 W1 S1 H=>PO (t:=t) hk H) ?_;rintro u2 _ rfl;have e5:(ints (JC t)).length<=1028:=by rw[cO];exact h5
    have e6:(ints (JD t)).length<=10000:=by rw[cO];exact h6
    refine .z (.of (Vx.Bo (Vx.NH (Vx.apR (List.Mem.head _) Bp (by unfold JC at e5;unfold JD at e6;omega) (by unfold JC at e5;unfold JD at e6;omega) λv' o1 o2 o3=>.z (.of (Vx.tl (Zx.ok (n:=false) ?_)))))));rw[show ints (qe t.eJ t.bo t.aH t.an t.aF t.mR t.pins t.aL t.ad.toNat)++ints (rg t.nd (D5 t)++rg t.hd t.ht.toNat)=ints (JD t++JC t) from(I9 _ _).symm]
    (repeat' first|refine Zx.aA 59 ?_|constructor|exact ZQ|intro _)
    all_goals apply zL
    refine Vx.Bo ?_;refine Vx.spec (λB1 W1 S1 H=>rL (l:=JD t++JC t) (by rw[List.length_append];omega) (List.Mem.head _) H) ?_;rintro _ _ ⟨rfl,rfl⟩;refine .z (.of (Vx.tl (Zx.ok (n:=false) ?_)));by_cases hp:apart (JD t++JC t) N
    .rw[decide_eq_true hp]
     (repeat' first|constructor|exact ZQ|intro _)
     all_goals apply zL
     exact⟨rfl,rfl,_,⟨by rw[bG am ⟨hk,hl,hp⟩];rfl,rfl⟩,HQ⟩
    .rw[decide_eq_false hp]
     (repeat' first|constructor|exact ZQ|intro _)
     all_goals apply zL
     exact⟨rfl,rfl,_,⟨no λh=>hp h.2.2,rfl⟩,HQ⟩
   .rw[bC am hl]
    (repeat' first|constructor|exact ZQ|intro _)
    all_goals apply zL
    exact⟨rfl,rfl,_,⟨no λh=>hl h.2.1,rfl⟩,HQ⟩
  .rw[decide_eq_false hk]
   (repeat' first|constructor|exact ZQ|intro _)
   all_goals apply zL
   exact⟨rfl,rfl,_,⟨no λh=>hk h.1,rfl⟩,HQ⟩
end
end Go.cG
