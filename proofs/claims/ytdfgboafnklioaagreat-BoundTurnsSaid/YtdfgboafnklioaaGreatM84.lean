/- Contracts. Conditions: in each theorem. -/
import Derived.Test.YtdfgboafnklioaaGreatM83
set_option linter.all false
set_option maxRecDepth 100000
set_option maxHeartbeats 4000000
noncomputable section
namespace Go.cO
open Go.Proofs
def Fu (l:List (Option Sd))(a:Int):Bool:=E0 ((l.map co)[a.toNat]?.getD none)
theorem IH {l:List (Option Sd)}{i:Nat}{s:Option Sd}(h:l[i]?=some s):Fu l i=E0 (co s):=by unfold Fu;rw[Int.toNat_natCast,List.getElem?_map,h];rfl
section
variable{B0 S:AH}{W:List Nat}{R:List Own}{ro:List aB}{x:Xc}{v u:AV}{l:List (Option Sd)}{bo i p n cap:Nat}{P:List Int}
theorem Po (hi:i<l.length)(hP:fS x v ro l)(H:Cx B0 W S (.obj bo (.row [u])::.sl u 1 (dj l)::(eF l++R)) ro):
  aG EM (.fn (.func 233) [] [.ptr bo 0]) [I (i:Int)] S λr S'=>∃ab,(r=B (!Fu l i)/\ab=.obj bo (.row [u])::.sl u 1 (dj l)::(eF l++R))/\Cx B0 W S' ab ro:=by
 obtain⟨s,hs⟩:∃s,l[i]?=some s:=⟨_,List.getElem?_eq_getElem hi⟩;rw[IH hs];refine Vx.fm H rfl (b:=Tryz.a233) ?_;repeat' first|refine Zx.aA (v:=u) ?_|constructor|exact ZQ|intro _
 all_goals apply zL
 refine Zx.ok (n:=false) (Zx.y6 (v:=u) (L:=dj l) (List.Mem.tail _ (List.Mem.head _)) am (by rw[Int.toNat_natCast];exact jk hs) ?_);cases s with
 |none=>
  show Zx EM false (.op (.eq _ false Np Np) _) _ _ _ _
  (repeat' first|constructor|exact ZQ|intro _)
  all_goals apply zL
  exact⟨rfl,rfl,_,⟨rfl,rfl⟩,HQ⟩
 |some s=>
  show Zx EM false (.op (.eq _ false (.ptr s.q 0) Np) _) _ _ _ _;repeat' first|refine Zx.aA (v:=u) ?_|constructor|exact ZQ|intro _
  all_goals apply zL
  refine Zx.ok (n:=false) (Zx.E1 (v:=u) (L:=dj l) (List.Mem.tail _ (List.Mem.head _)) am (by rw[Int.toNat_natCast];exact jk hs) ?_);rw[gX hs];simp only[@List.append_assoc Own,so];refine .G8 (.z (.of (Vx.bB (own:=s.lo++(.obj bo (.row [u])::.sl u 1 (dj l)::(eF (l.take i)++(eF (l.drop (i+1))++R)))) HQ ?_)));refine Vx.spec (λB1 W1 S1 H=>Ih (hP s (List.mem_of_getElem? hs)).2.z (hP s (List.mem_of_getElem? hs)).1 H) ?_;rintro _ _ ⟨rfl,rfl⟩;by_cases he:s.s.σ.err=14
  .rw[he,show co (some s)=some s.s from rfl,xF he]
   (repeat' first|constructor|exact ZQ|intro _)
   all_goals apply zL
   exact⟨rfl,rfl,_,⟨rfl,rfl⟩,HQ⟩
  .rw[show co (some s)=some s.s from rfl,IA he]
   (repeat' first|constructor|exact ZQ|intro _)
   all_goals apply zL
   all_goals first|(exfalso;omega)|exact⟨rfl,rfl,_,⟨rfl,rfl⟩,HQ⟩
end
theorem Zx.dN {M:cQ}{own:List Own}{ro:List aB}{Φ:gn}{K:List Kf}{p n c:Nat}{i:AV}{k:AV->AC}(h:bL (Vx M (.op (.da 1 (.sl p 0 n c) i) k) K own ro Φ)):Zx M false (.op (.da 1 (.sl p 0 n c) i) k) K own ro Φ:=.z h
theorem Zx.Pp {M:cQ}{own:List Own}{ro:List aB}{Φ:gn}{K:List Kf}{v:AV}{a b c:Option AV}{n:Nat}{k:AV->AC}(h:bL (Vx M (.op (.jM n v a b c) k) K own ro Φ)):Zx M false (.op (.jM n v a b c) k) K own ro Φ:=.z h
def Clo (fv:AV)(d:Int->Bool)(C:List Own)(ro:List aB)(P:List Int):Prop:=
 ∀{B0 S:AH} {W:List Nat} {R:List Own} {i:Int},i∈P->Cx B0 W S (C++R) ro->aG EM fv [I i] S λr S'=>∃ab,(r=B (d i)/\ab=C++R)/\Cx B0 W S' ab ro
theorem ints_set (l:List Int)(i:Nat)(a:Int):(ints l).set i [I a]=ints (l.set i a):=by unfold ints;rw[List.map_set]
section
variable{B0 S:AH}{W:List Nat}{R C:List Own}{ro:List aB}{fv:AV}{d:Int->Bool}{p n cap:Nat}{P:List Int}
theorem Pq (hn:P.length=n)(hl:n<=100000)(hf:Clo fv d C ro P)(H:Cx B0 W S (.sl (.sl p 0 n cap) 1 (ints P)::(C++R)) ro):
  aG EM (zF 360) [.sl p 0 n cap,fv] S λr S'=>∃ab,(((∃(j:Nat) (a:Int),r=I (j:Int)/\P[j]?=some a/\d a=true/\∀b∈P.take j,d b=false)\/(r=I (-1)/\∀b∈P,d b=false))/\ab=.sl (.sl p 0 n cap) 1 (ints P)::(C++R))/\Cx B0 W S' ab ro:=by
 refine Vx.fm H rfl (b:=Tryz.a360) ?_
 (repeat' first|constructor|exact ZQ|intro _)
 try all_goals apply zL
 refine Vx.inv (α:=Nat) (P:=λj k=>k+j=n/\∀b∈P.take j,d b=false) (λj=>[I (j:Int),I 0]) (λ_=>.sl (.sl p 0 n cap) 1 (ints P)::(C++R)) ?_ (a0:=0) (n0:=n) ⟨rfl,ac⟩;rintro j k ⟨hk,hb⟩ ih;replace hk:k+j=n:=hk;try dsimp only at ih⊢
 refine Zx.ok (n:=false) ?_;repeat' first|refine Zx.dN ?_|constructor|exact ZQ|intro _
 all_goals apply zL
 .next cA=>
  replace cA:(j:Int)<(n:Int):=cA;have hj:j<P.length:=am;refine Zx.ok (n:=false) (Zx.y6 (List.Mem.head _) am (by rw[Int.toNat_natCast];exact gx (List.getElem?_eq_getElem hj)) ?_);refine .z (.of (Vx.bB (own:=C++(.sl (.sl p 0 n cap) 1 (ints P)::R)) HQ ?_));refine Vx.spec (λB1 W1 S1 H=>hf (List.getElem_mem hj) H) ?_;rintro _ _ ⟨rfl,rfl⟩;cases hd:d P[j] with
  |true=>
   (repeat' first|constructor|exact ZQ|intro _)
   all_goals apply zL
   exact⟨rfl,rfl,_,⟨.inl ⟨j,_,rfl,List.getElem?_eq_getElem hj,hd,hb⟩,rfl⟩,HQ⟩
  |false=>
   have h2:=ih (j+1) (k-1) am ⟨am,λb tC=>by
    rw[<-List.take_append_getElem hj] at tC;rcases List.mem_append.1 tC with h|h;.exact hb b h
    .rw[List.mem_singleton.1 h];exact hd⟩
   (repeat' first|constructor|exact ZQ|intro _)
   all_goals apply zL
   exact Vx.bB HQ h2
 .next cA=>replace cA:¬(j:Int)<(n:Int):=cA;exact⟨rfl,rfl,_,⟨.inr ⟨rfl,λb tC=>hb b (by rwa[List.take_of_length_le am])⟩,rfl⟩,HQ⟩
theorem II {P:List Int}(h:∀b∈P,d b=false):P.filter (λi=>!d i)=P:=List.filter_eq_self.2 λb hb=>by rw[h b hb];rfl
theorem Pr (hn:P.length=n)(hl:n<=100000)(hf:Clo fv d C ro P)(H:Cx B0 W S (.sl (.sl p 0 n cap) 1 (ints P)::(C++R)) ro):
  aG EM (zF 232) [.sl p 0 n cap,fv] S λr S'=>∃ab,(r=.sl p 0 (P.filter λi=>!d i).length cap/\ab=.sl (.sl p 0 (P.filter λi=>!d i).length cap) 1 (ints (P.filter λi=>!d i))::(C++R))/\Cx B0 W S' ab ro:=by
 refine Vx.fm H rfl (b:=Tryz.a232) ?_;refine .z (.of (Vx.spec (λB1 W1 S1 H=>Pq hn hl hf H) ?_));rintro v _ ⟨⟨j0,a0,rfl,Wr,Qa,Fk⟩|⟨rfl,hb⟩,rfl⟩;case inr=>
  (repeat' first|constructor|exact ZQ|intro _)
  all_goals apply zL
  rw[II hb,hn];exact⟨rfl,rfl,_,⟨rfl,rfl⟩,HQ⟩
 obtain⟨Fl,hja⟩:=List.getElem?_eq_some_iff.1 Wr
 (repeat' first|constructor|exact ZQ|intro _)
 all_goals apply zL
 refine Vx.inv (α:=List Int×Nat×Nat) (P:=λz k=>k+z.2.1=n/\z.1.length=n/\z.2.2=((P.take z.2.1).filter λi=>!d i).length/\z.1.take z.2.2=(P.take z.2.1).filter (λi=>!d i)/\z.1.drop z.2.1=P.drop z.2.1/\z.2.1<=n) (λz=>[I (z.2.1:Int),I (z.2.2:Int)]) (λz=>.sl (.sl p 0 n cap) 1 (ints z.1)::(C++R)) ?_ (a0:=(P,j0+1,j0)) (n0:=n-(j0+1)) ?_;case refine_2=>
  have e:(P.take (j0+1)).filter (λi=>!d i)=P.take j0:=by rw[<-List.take_append_getElem Fl,List.filter_append,II Fk,hja];simp[Qa]
  dsimp only;rw[e];refine⟨am,hn,?_,rfl,rfl,am⟩;rw[List.length_take];omega
 rintro⟨Q,j,i⟩ k ⟨hk,hQ,hi,ht,hd,hj⟩ ih;dsimp only at hk hQ hi ht hd hj ih⊢;refine Zx.ok (n:=false) ?_;repeat' first|refine Zx.dN ?_|refine Zx.Pp ?_|constructor|exact ZQ|intro _
 all_goals apply zL
 .next cA=>
  replace cA:(j:Int)<(n:Int):=cA;have Fl:j<P.length:=am;have hjQ:j<Q.length:=am;have eQ:Q[j]=P[j]:=by
   have e1:(Q.drop j)[0]?=(P.drop j)[0]?:=by rw[hd]
   rw[List.getElem?_drop,List.getElem?_drop,Nat.add_zero,List.getElem?_eq_getElem Fl,List.getElem?_eq_getElem hjQ] at e1;exact Option.some.inj e1
  have Wd:i<=j:=by rw[hi];exact Nat.le_trans (List.length_filter_le ..) (by rw[List.length_take];omega)
  have ed:Q.drop (j+1)=P.drop (j+1):=by
   have e1:(Q.drop j).drop 1=(P.drop j).drop 1:=by rw[hd]
   rwa[List.drop_drop,List.drop_drop] at e1
  refine Zx.ok (n:=false) (Zx.y6 (List.Mem.head _) am (by rw[Int.toNat_natCast];exact gx (List.getElem?_eq_getElem hjQ)) ?_);rw[eQ];refine .z (.of (Vx.bB (own:=C++(.sl (.sl p 0 n cap) 1 (ints Q)::R)) HQ ?_));refine Vx.spec (λB1 W1 S1 H=>hf (List.getElem_mem Fl) H) ?_;rintro _ _ ⟨rfl,rfl⟩;have et:(P.take (j+1)).filter (λi=>!d i)=(P.take j).filter (λi=>!d i)++(if d P[j] then [] else [P[j]]):=by
   rw[<-List.take_append_getElem Fl,List.filter_append];cases hx:d P[j]<;>simp[hx]
  cases hdd:d P[j] with
  |true=>
   rw[hdd] at et;have h2:=ih (Q,j+1,i) (k-1) am ⟨by dsimp only;omega,hQ,by dsimp only;rw[et,hi];simp,by dsimp only;rw[et,ht];simp,ed,by dsimp only;omega⟩;dsimp only at h2
   (repeat' first|constructor|exact ZQ|intro _)
   all_goals apply zL
   exact Vx.bB HQ h2
  |false=>
   rw[hdd] at et;have h2:=ih (Q.set i P[j],j+1,i+1) (k-1) am ⟨by dsimp only;omega,by dsimp only;rw[List.length_set];exact hQ,by dsimp only;rw[et,hi];simp,?_,?_,by dsimp only;omega⟩
   .dsimp only at h2;refine .z (.of (Vx.bB (own:=.sl (.sl p 0 n cap) 1 (ints Q)::(C++R)) HQ (Zx.ok (n:=false) ?_)));repeat' first|refine Zx.dN ?_|constructor|exact ZQ|intro _
    all_goals apply zL
    refine Zx.ok (n:=false) (Zx.Uq am (by rw[bJ];omega) rfl rfl ?_);rw[Int.toNat_natCast,show(I P[j]).cells=[I P[j]] from rfl,ints_set]
    (repeat' first|constructor|exact ZQ|intro _)
   .dsimp only;rw[et,<-ht];apply List.ext_getElem?;intro m;rw[List.getElem?_take,List.getElem?_set];by_cases hm:m<i;.rw[if_pos am,if_neg am,List.getElem?_append_left (by rw[List.length_take];omega),List.getElem?_take,if_pos hm]
    .rw[List.getElem?_append_right (by rw[List.length_take];omega),List.length_take,Nat.min_eq_left am];by_cases vV:i=m
     .subst vV;rw[if_pos am,if_pos rfl,if_pos am,Nat.sub_self];rfl
     .rw[if_neg am];exact(List.getElem?_eq_none (by simp only[Bool.false_eq_true,if_false,List.length_cons,List.length_nil];omega)).symm
   .dsimp only;rw[List.drop_set_of_lt am,ed]
 .next cA=>
  replace cA:¬(j:Int)<(n:Int):=cA;obtain rfl:j=n:=am;rw[List.take_of_length_le (l:=P) am] at hi ht;have Wd:i<=j:=by rw[hi];exact Nat.le_trans (List.length_filter_le ..) am
  refine λB W S H=>E4 H (by rw[bJ];omega) (by rw[bJ];exact hQ) λS1 H1=>Zx.ok (n:=false) ?_ _ _ _ H1
  (repeat' first|constructor|exact ZQ|intro _)
  all_goals apply zL
  rw[show(ints Q).take i=ints (Q.take i) from(List.map_take ..).symm,ht];rw[hi];exact⟨rfl,rfl,_,⟨rfl,rfl⟩,HQ⟩
end
theorem KV {l:List (Option Sd)}:(fB 0 (l.map co)).filter (λi=>!!Fu l i)=fB 0 (l.map co):=List.filter_eq_self.2 λi hi=>by obtain⟨j,s,rfl,h1,h2⟩:=oG hi;rw[Nat.zero_add];unfold Fu;rw[Int.toNat_natCast,h1,Option.getD_some,xF h2];rfl
theorem Ps {l:List (Option Sd)}{i:Int}(h:i∈fB 0 (l.map co)):0<=i/\i.toNat<l.length:=by obtain⟨j,s,rfl,h1,h2⟩:=oG h;have:=(List.getElem?_eq_some_iff.1 h1).1;rw[List.length_map] at this;omega
def ze (n:Nat):List Int:=(List.range n).map λ(i:Nat)=>(i:Int)
theorem tX (n:Nat):(ze n).length=n:=by unfold ze;rw[List.length_map,List.length_range]
theorem KW {l:List (Option Sd)}:(ze l.length).filter (λi=>!!Fu l i)=fB 0 (l.map co):=by
 have key:∀n,n<=l.length->(ze n).filter (λi=>!!Fu l i)=fB 0 ((l.take n).map co):=by
  intro n;induction n with
  |zero=>intro _;simp[ze,fB]
  |succ n ih=>
   intro hn;have e:ze (n+1)=ze n++[(n:Int)]:=by unfold ze;rw[List.range_succ,List.map_append];rfl
   rw[e,List.filter_append,ih am,<-List.take_append_getElem (by omega:n<l.length),List.map_append,rA,List.length_map,List.length_take,Nat.min_eq_left am];congr 1;have hb:Fu l (n:Int)=E0 (co l[n]):=IH (List.getElem?_eq_getElem _);show List.filter _ [(n:Int)]=fB (0+n) [co l[n]];rw[iZ,<-hb,Nat.zero_add];cases hx:Fu l (n:Int)<;>simp[hx,fB]
 have:=key l.length (Nat.le_refl _)
 rwa[List.take_length] at this
section
variable{ro:List aB}{K:List Kf}{own:List Own}{Φ:gn}{M:cQ}
theorem Vx.UC {z:AV}{bytes n:Nat}{k:AV->AC}(hb:bytes*n<=140737488355328)(hn:n<=9223372036854775807)(h:∀q,Vx M (k (.sl q 0 n n)) K (.sl (.sl q 0 n n) 1 (List.replicate n [z])::own) ro Φ):Vx M (.op (.gL 1 bytes [z] (I (n:Int)) (I (n:Int))) k) K own ro Φ:=λB W S H=>by
 have hz:∀m:Nat,bh [z] m=List.replicate m z:=Pn z;have Pb:nat? (n:Int)=some n:=by unfold nat?;rfl
 refine ae (v:=.sl S.next 0 n n) (S1:=S.new (.row (List.replicate n z))) ?_ (h _ _ _ _ (H.gD (aR.new S _) (.inr ⟨S.next,0,List.replicate n z,.inl ⟨n,ac,ac,ac⟩,bk _ _,?_,?_⟩) ?_))
 .show gM 1 bytes [z] (I (n:Int)) (I (n:Int)) S=_;unfold gM;simp only[asInt,lI,Pb];have e:(Nat.ble n n&&Nat.ble (Nat.mul bytes n) 140737488355328&&Nat.ble n 9223372036854775807&&Nat.beq (bD [z]) 1)=true:=by have wQ:Nat.ble (Nat.mul bytes n) 140737488355328=true:=cJ hb;rw[cJ (Nat.le_refl n),wQ,cJ hn];rfl
  rw[e,hz];rfl
 .have:∀m:Nat,(List.replicate m [z]).flatten=List.replicate m z:=by
   intro m;induction m with
   |zero=>rfl
   |succ m ih=>rw[List.replicate_succ,List.flatten_cons,ih];rfl
  rw[this];simp
 .intro x hx;rw[(List.mem_replicate.1 hx).2];rfl
 .intro j hj;simp only[Own.ids,dQ,List.mem_singleton] at hj;subst hj;simp
end
section
variable{ro:List aB}{K:List Kf}{own:List Own}{Φ:gn}{M:cQ}
theorem Zx.y9 {a b:AV}{k:AV->AC}(h:bL (Vx M (.op (.bin .rem a b) k) K own ro Φ)):Zx M false (.op (.bin .rem a b) k) K own ro Φ:=.z h
theorem Zx.ydS {p:Nat}{args:List AV}{k:AV->AC}(h:bL (Vx M (.call (.yd p) args k) K own ro Φ)):Zx M false (.call (.yd p) args k) K own ro Φ:=.z h
theorem Vx.Da {b:Int}{q o n c:Nat}{kk:List AV->AC}{outs:List AV->List AV}(h0:0<n)(h1:n<=100000)(h:Vx M (kk [I (pick b n)]) K own ro Φ):
  Vx M (.op (.bin .rem (I b) (I (n:Int))) λv=>.op (.bin .lss v (I 0)) λt=>.bind (.ite t (.op (.len false (.sl q o n c)) λw=>.op (.bin .add v w) λz=>.ret .normal [z]) (.ret .normal [v])) none kk outs) K own ro Φ:=λB W S H=>by
 have e:=Int.tmod_eq_emod (a:=b) (b:=(n:Int));have h2:=Int.emod_nonneg b (by omega:(n:Int)≠0);have h3:=Int.emod_lt_of_pos b (by omega:0<(n:Int));have hp:pick b n=b%n:=by unfold pick;rw[if_neg am]
 refine yj am ?_;generalize b.tmod (n:Int)=r at e;have hr:(r<0->pick b n=r+n)/\(¬r<0->pick b n=r):=by
  rw[hp];split at e<;>constructor<;>intro<;>omega
 have hb:-100000<r/\r<100000:=by split at e<;>omega
 refine(Zx.ok (n:=false) ?_:Vx M _ K own ro Φ) _ _ _ H
 (repeat' first|constructor|exact ZQ|intro _)
 all_goals apply zL
 .show-9223372036854775808<=r+(n:Int)/\r+(n:Int)<=_;omega
 .next hl=>rw[hr.1 hl] at h;exact h
 .next hl=>rw[hr.2 hl] at h;exact h
end
section
variable{B0 S:AH}{W:List Nat}{R:List Own}{ro:List aB}{x:Xc}{v u:AV}{l:List (Option Sd)}{bo q c cap:Nat}{Q:List Int}
theorem Zf (hP:fS x v ro l)(hc:Q.length=c)(hl:c<=100000)(hQ:∀i∈Q,0<=i/\i.toNat<l.length)(hf:Q.filter (λi=>!!Fu l i)=fB 0 (l.map co))(H:Cx B0 W S (.sl (.sl q 0 c cap) 1 (ints Q)::.obj bo (.row [u])::.sl u 1 (dj l)::(eF l++R)) ro):
  aG EM (zF 232) [.sl q 0 c cap,.fn (.func 233) [] [.ptr bo 0]] S λr S'=>∃ab,(r=.sl q 0 (fB 0 (l.map co)).length cap/\ab=.sl (.sl q 0 (fB 0 (l.map co)).length cap) 1 (ints (fB 0 (l.map co)))::.obj bo (.row [u])::.sl u 1 (dj l)::(eF l++R))/\Cx B0 W S' ab ro:=by
 have h:=Pr (fv:=.fn (.func 233) [] [.ptr bo 0]) (d:=λi=>!Fu l i) (C:=.obj bo (.row [u])::.sl u 1 (dj l)::eF l) (R:=R) (cap:=cap) (p:=q) hc hl (λ{B0 S W R i} hi H=>by
  have uO:=hQ i hi;have e:((i.toNat:Nat):Int)=i:=am;have:=Po (i:=i.toNat) uO.2 hP H;rw[e] at this;exact this) H
 rw[hf] at h;exact h
end
def Cw (p:Nat)(b:List AV->AC)(c:Bool):Own:=.obj p (if c then .loop .done (some (.exit 0)) 2 b else .loop .ready none 2 b)
def na (p1 p2 p3 p4:Nat)(u:AV)(most made who:Int)(l:List (Option Sd))(T:List Own):List Own:=
 .obj p4 (.row [I who])::.obj p3 (.row [I made])::.obj p2 (.row [I most])::.obj p1 (.row [u])::.sl u 1 (dj l)::(eF l++T)
def y_ (s:Sd)(n:Nat)(most:Int):Bool:=decide (s.s.σ.err≠14)||decide ((n:Int)+1=most)
def E5 (s:Sd)(i:Nat):Int:=if s.s.σ.err≠14 then(i:Int) else-1
def YdT (x:Xc)(v:AV)(ro:List aB)(p p1 p2 p3 p4:Nat)(body:List AV->AC)(u:AV)(most:Int):Prop:=
 ∀{B0 S:AH} {W:List Nat} {R:List Own} {l:List (Option Sd)} {n i:Nat} {s:Sd} {n0:Int},l[i]?=some (some s)->fS x v ro l->(n:Int)<most->
  Cx B0 W S (Cw p body false::na p1 p2 p3 p4 u most n0 (-1) l R) ro->
  aG EM (.yd p) [I ((n:Int)+1),I (i:Int)] S λr S'=>∃ab,(r=B (!y_ s n most)/\ab=Cw p body (y_ s n most)::na p1 p2 p3 p4 u most ((n:Int)+1) (E5 s i) l R)/\Cx B0 W S' ab ro
section
variable{B0 S:AH}{W:List Nat}{R:List Own}{ro:List aB}{x:Xc}{v u pk:AV}{l:List (Option Sd)}{p:List Int}{y:Me}{N most:Int}{Ln m bl P p1 p2 p3 p4 q1 q2 q3:Nat}{rest:List AV}{body:List AV->AC}
theorem Pt (hx:x.ok)(hl:l.length<=100000)(hD:fS x v ro l)(xE:∀s,some s∈l->s.s.σ.fC)(hg:y.gd)(hn:y.n<=N)(hw:y.ws.length=Ln)(hN:0<=N/\N+most<4611686018427387904/\1<=most/\most<=1000)(hp:aB.sl pk 1 (ints p)∈ro)(oP:p.length<=100000)(hY:YdT x v ro P p1 p2 p3 p4 body u most)
  (H:Cx B0 W S (.obj q3 (.row [pk])::.obj q2 (.row [.ptr m 0])::.obj q1 (.row [u])::Cw P body false::na p1 p2 p3 p4 u most 0 (-1) l (ad m bl y rest++R)) ro):
  aG EM (.fn (.func 231) [] [.ptr q1 0,.ptr q3 0,.ptr q2 0]) [.yd P] S λr S'=>∃ab,(∃st l',l'.map co=(dm x p most ⟨y,l.map co⟩).2.2.l/\fS x v ro l'/\(∀s,some s∈l'->s.s.σ.fC)/\dj l'=dj l/\ab=Cw P body st::na p1 p2 p3 p4 u most ((dm x p most ⟨y,l.map co⟩).1:Int) (dm x p most ⟨y,l.map co⟩).2.1 l' (ad m bl (dm x p most ⟨y,l.map co⟩).2.2.y rest++R))/\Cx B0 W S' ab ro:=by
 refine Vx.fm H rfl (b:=Tryz.a231) ?_;unfold na;repeat' first|refine Zx.y7 ?_|constructor|exact ZQ|intro _
 all_goals apply zL
 have UB:=jC l;rw[show Int.ofNat (dj l).length=(l.length:Int) from by rw[UB];rfl];refine Vx.UC am am λq=>?_;rw[show List.replicate l.length [AV.sc (Value.int .i64 0)]=ints (ze 0++List.replicate (l.length-0) 0) from by unfold ints ze;simp];refine Zx.ok (n:=false) ?_
 (repeat' first|constructor|exact ZQ|intro _)
 try all_goals apply zL
 refine Vx.inv (α:=Nat) (P:=λi k=>k+i=l.length) (λi=>[I (i:Int)]) (λi=>.sl (.sl q 0 l.length l.length) 1 (ints (ze i++List.replicate (l.length-i) 0))::.obj q3 (.row [pk])::.obj q2 (.row [.ptr m 0])::.obj q1 (.row [u])::Cw P body false::.obj p4 (.row [I (-1)])::.obj p3 (.row [I 0])::.obj p2 (.row [I most])::.obj p1 (.row [u])::.sl u 1 (dj l)::(eF l++(ad m bl y rest++R))) ?_ (a0:=0) (n0:=l.length) rfl;rintro i k hk ih;replace hk:k+i=l.length:=hk;refine Zx.ok (n:=false) ?_;repeat' first|refine Zx.dN ?_|constructor|exact ZQ|intro _
 all_goals apply zL
 .next cA=>
  replace cA:(i:Int)<((dj l).length:Int):=cA;rw[UB] at cA;refine Zx.ok (n:=false) (Zx.Uq (y:=I (i:Int)) (i:=(i:Int)) am (by rw[bJ];simp[tX];omega) rfl rfl ?_);have e2:(ints (ze i++List.replicate (l.length-i) 0)).set ((i:Int).toNat) (I (i:Int)).cells=ints (ze (i+1)++List.replicate (l.length-(i+1)) 0):=by
   rw[Int.toNat_natCast,show(I (i:Int)).cells=[I (i:Int)] from rfl,ints_set];congr 1;have e:ze (i+1)=ze i++[(i:Int)]:=by unfold ze;rw[List.range_succ,List.map_append];rfl
   rw[e,List.set_append_right _ _ (by rw[tX];exact Nat.le_refl _),tX,Nat.sub_self,show l.length-i=(l.length-(i+1))+1 by omega,List.replicate_succ,List.append_assoc];rfl
  rw[e2];have h2:=ih (i+1) (k-1) am (show k-1+(i+1)=l.length by omega)
  (repeat' first|constructor|exact ZQ|intro _)
  all_goals apply zL
 .next cA=>
  replace cA:¬(i:Int)<((dj l).length:Int):=cA;rw[UB] at cA;obtain rfl:i=l.length:=am;rw[Nat.sub_self,show List.replicate 0 (0:Int)=[] from rfl,List.append_nil];generalize he:dm x p most ⟨y,l.map co⟩=e;by_cases Pl:p=[]
  .subst Pl;obtain rfl:e=(0,-1,⟨y,l.map co⟩):=by rw[<-he];exact if_pos rfl
   refine Vx.loop (Zx.ok (n:=false) ?_)
   (repeat' first|refine Zx.bV (v:=pk) ?_|refine Zx.aA (v:=pk) ?_|constructor|exact ZQ|intro _)
   all_goals apply zL
   refine Vx.A1 hp ?_
   (repeat' first|constructor|exact ZQ|intro _)
   all_goals apply zL
   exact⟨rfl,rfl,_,⟨false,l,rfl,hD,xE,rfl,rfl⟩,HQ⟩
  have Zc:0<p.length:=List.length_pos_iff.2 Pl;unfold dm at he;rw[if_neg Pl] at he;refine Vx.inv (α:=Nat×AV×Nat×List Int×List (Option Sd)×Me) (P:=λz k=>0<k/\k+z.1=most.toNat/\LS x p l e N Ln k z.1 z.2.2.2.2.1 z.2.2.2.2.2/\fS x v ro z.2.2.2.2.1/\z.2.2.2.1.filter (λi=>!!Fu z.2.2.2.2.1 i)=fB 0 (z.2.2.2.2.1.map co)/\z.2.2.2.1.length=z.2.2.1/\z.2.2.1<=l.length/\∀i∈z.2.2.2.1,0<=i/\i.toNat<l.length) (λz=>[I (z.1:Int),z.2.1,.sl q 0 z.2.2.1 l.length])
   (λz=>.sl (.sl q 0 z.2.2.1 l.length) 1 (ints z.2.2.2.1)::.obj q3 (.row [pk])::.obj q2 (.row [.ptr m 0])::.obj q1 (.row [u])::Cw P body false::.obj p4 (.row [I (-1)])::.obj p3 (.row [I (z.1:Int)])::.obj p2 (.row [I most])::.obj p1 (.row [u])::.sl u 1 (dj l)::(eF z.2.2.2.2.1++(ad m bl z.2.2.2.2.2 rest++R))) ?_ (a0:=(0,.no,l.length,ze l.length,l,y)) (n0:=most.toNat) ⟨am,by dsimp only;omega,⟨he.symm,rfl,hg,by dsimp only;omega,hw,xE⟩,hD,KW,tX _,Nat.le_refl _,?_⟩
  case refine_2=>intro i hi;unfold ze at hi;obtain⟨j,hj,rfl⟩:=List.mem_map.1 hi;have:=List.mem_range.1 hj;omega
  rintro⟨n,w,c,Q,l1,y1⟩ k ⟨bR,Rt,ht,wK,hf,hc,dc,hQ⟩ ih;dsimp only at bR Rt ht wK hf hc dc hQ ih⊢;have Q3:=ht.len;refine Zx.ok (n:=false) ?_
  (repeat' first|refine Zx.bV (v:=pk) ?_|refine Zx.aA (v:=pk) ?_|constructor|exact ZQ|intro _)
  all_goals apply zL
  .refine Vx.A1 hp ?_;rw[bJ]
   (repeat' first|constructor|exact ZQ|intro _)
   all_goals apply zL
   rw[<-ht.v];refine Vx.bB (own:=.sl (.sl q 0 c l.length) 1 (ints Q)::.obj q1 (.row [u])::.sl u 1 (dj l1)::(eF l1++(.obj q3 (.row [pk])::.obj q2 (.row [.ptr m 0])::Cw P body false::.obj p4 (.row [I (-1)])::.obj p3 (.row [I (n:Int)])::.obj p2 (.row [I most])::.obj p1 (.row [u])::(ad m bl y1 rest++R)))) HQ ?_;refine Vx.spec (λB1 W1 S1 H=>Zf wK hc am (λi hi=>by rw[Q3];exact hQ i hi) hf H) ?_;rintro _ _ ⟨rfl,rfl⟩;obtain⟨k',rfl⟩:∃k',k=k'+1:=⟨k-1,am⟩;have LU:=tW 0 (l1.map co);rw[List.length_map] at LU;repeat' first|refine Zx.bV (v:=pk) ?_|refine Zx.y9 ?_|constructor|exact ZQ|intro _
   all_goals apply zL
   .next hb=>replace hb:((fB 0 (l1.map co)).length:Int)=0:=hb;have Fk:fB 0 (l1.map co)=[]:=List.eq_nil_of_length_eq_zero am;have e0:=ht.e;unfold sj at e0;rw[if_pos Fk] at e0;subst e0;exact⟨rfl,rfl,_,⟨false,l1,rfl,wK,ht.z,rfl,rfl⟩,HQ⟩
   .next hb=>
    replace hb:¬((fB 0 (l1.map co)).length:Int)=0:=hb;have Fk:fB 0 (l1.map co)≠[]:=λh=>hb (by rw[h];rfl);obtain⟨i,s,hs,hi,Uy,oJ⟩:=ht.step Fk;have QB:=ry (a:=p[n%p.length]?.getD 0) (n:=(fB 0 (l1.map co)).length) am;have BX:=Nat.mod_lt n Zc;obtain⟨b,Uz⟩:∃b,p[n%p.length]?=some b:=⟨_,List.getElem?_eq_getElem BX⟩;rw[Uz] at hi QB;rw[Option.getD_some] at hi QB;refine Vx.A1 hp ?_;rw[bJ]
    (repeat' first|refine Zx.bV (v:=pk) ?_|refine Zx.aA (v:=pk) ?_|constructor|exact ZQ|intro _)
    all_goals apply zL
    rw[show((n:Int)%(p.length:Int))=((n%p.length:Nat):Int) from(Int.natCast_emod n p.length).symm];refine Zx.ok (n:=false) (Zx.Ur hp am (by rw[Int.toNat_natCast];exact gx Uz) ?_);repeat' first|refine Zx.y9 ?_|constructor|exact ZQ|intro _
    all_goals apply zL
    refine Vx.Da am am (Zx.ok (n:=false) ?_);repeat' first|refine Zx.dN ?_|constructor|exact ZQ|intro _
    all_goals apply zL
    refine Zx.ok (n:=false) (Zx.y6 (List.Mem.head _) QB.1 (gx hi) ?_);repeat' first|refine Zx.aA (v:=u) ?_|constructor|exact ZQ|intro _
    all_goals apply zL
    refine Zx.ok (n:=false) (Zx.y6 (v:=u) (L:=dj l1) (List.Mem.tail _ (List.Mem.tail _ (List.Mem.head _))) am (by rw[Int.toNat_natCast];exact jk hs) ?_);repeat' first|refine Zx.dK 20 ?_|constructor|exact ZQ|intro _
    all_goals apply zL
    have wh:i4.ok x s.s.o ⟨s.s.σ,y1,s.s.b⟩ (N+n) Ln:=⟨(wK s (List.mem_of_getElem? hs)).2.k,(wK s (List.mem_of_getElem? hs)).2.w,ht.g,ht.n,ht.w⟩;have IF:=(wK s (List.mem_of_getElem? hs)).1;have Pm:=(wK s (List.mem_of_getElem? hs)).2;have P1:=(List.getElem?_eq_some_iff.1 hs).1;rw[gX hs];simp only[@List.append_assoc Own,so];refine Vx.bB (own:=s.lo++(ad m bl y1 rest++(.sl (.sl q 0 (fB 0 (l1.map co)).length l.length) 1 (ints (fB 0 (l1.map co)))::.obj q1 (.row [u])::.sl u 1 (dj l1)::(eF (l1.take i)++(eF (l1.drop (i+1))++(.obj q3 (.row [pk])::.obj q2 (.row [.ptr m 0])::Cw P body false::.obj p4 (.row [I (-1)])::.obj p3 (.row [I (n:Int)])::.obj p2 (.row [I most])::.obj p1 (.row [u])::R)))))) ?_ ?_
    .generalize ad m bl _ rest=MM;exact HQ
    refine Vx.spec (λB1 W1 S1 H=>T9 (s:=⟨s.s.σ,y1,s.s.b⟩) hx wh IF H) ?_;rintro _ _ ⟨l2,rfl,UA,rfl⟩;have Bj:=wh.YZ hx am IF;obtain⟨UD,Zg⟩:=oJ l2;generalize i4.mb x s.s.o ⟨s.s.σ,y1,s.s.b⟩=r at UA Bj UD Zg;have QA:fS x v ro (l1.set i (some ⟨⟨s.s.o,r.σ,r.b⟩,s.q,s.h,l2⟩)):=wK.set ⟨UA,Bj.k,Bj.w,Pm.z,Pm.t⟩;have Pu:dj (l1.set i (some ⟨⟨s.s.o,r.σ,r.b⟩,s.q,s.h,l2⟩))=dj l1:=y8 hs rfl;repeat' first|refine Zx.dN ?_|constructor|exact ZQ|intro _
    all_goals apply zL
    refine Zx.ok (n:=false) (Zx.y6 (v:=.sl q 0 (fB 0 (l1.map co)).length l.length) (L:=ints (fB 0 (l1.map co))) ac QB.1 (gx hi) ?_);repeat' first|refine Zx.ydS ?_|constructor|exact ZQ|intro _
    all_goals apply zL
    have BD:(l1.set i (some ⟨⟨s.s.o,r.σ,r.b⟩,s.q,s.h,l2⟩))[i]?=some (some ⟨⟨s.s.o,r.σ,r.b⟩,s.q,s.h,l2⟩):=by rw[List.getElem?_set];simp[P1]
    refine Vx.bB (own:=Cw P body false::na p1 p2 p3 p4 u most (n:Int) (-1) (l1.set i (some ⟨⟨s.s.o,r.σ,r.b⟩,s.q,s.h,l2⟩)) (ad m bl r.y rest++(.sl (.sl q 0 (fB 0 (l1.map co)).length l.length) 1 (ints (fB 0 (l1.map co)))::.obj q1 (.row [u])::.obj q3 (.row [pk])::.obj q2 (.row [.ptr m 0])::R))) ?_ ?_
    .unfold na;rw[Pu,rB P1];simp only[@List.append_assoc Own,so];generalize ad m bl _ rest=MM;exact HQ
    refine Vx.spec (λB1 W1 S1 H=>hY BD QA am H) ?_;rintro _ _ ⟨rfl,rfl⟩;have hz2:∀t,some t∈l1.set i (some ⟨⟨s.s.o,r.σ,r.b⟩,s.q,s.h,l2⟩)->t.s.σ.fC:=λt E3=>by
     rcases List.mem_or_eq_of_mem_set E3 with E3|E3;.exact ht.z t E3
     .cases E3;exact Zg
    have UE:=an.L7 Zg;have BM:∀{own:List Own},e=(n+1,E5 ⟨⟨s.s.o,r.σ,r.b⟩,s.q,s.h,l2⟩ i,⟨r.y,(l1.set i (some ⟨⟨s.s.o,r.σ,r.b⟩,s.q,s.h,l2⟩)).map co⟩)->Hs own (Cw P body true::na p1 p2 p3 p4 u most ((n:Int)+1) (E5 ⟨⟨s.s.o,r.σ,r.b⟩,s.q,s.h,l2⟩ i) (l1.set i (some ⟨⟨s.s.o,r.σ,r.b⟩,s.q,s.h,l2⟩)) (ad m bl r.y rest++R))->
      jy ro (λr S'=>∃st l',l'.map co=e.2.2.l/\fS x v ro l'/\(∀s,some s∈l'->s.s.σ.fC)/\dj l'=dj l1/\S'=Cw P body st::na p1 p2 p3 p4 u most (e.1:Int) e.2.1 l' (ad m bl e.2.2.y rest++R)) .ret [] own ro:=by
     intro own e1 e2;subst e1;exact⟨rfl,rfl,_,⟨true,_,rfl,QA,hz2,Pu,rfl⟩,e2⟩
    have he2:(⟨⟨s.s.o,r.σ,r.b⟩,s.q,s.h,l2⟩:Sd).s.σ=r.σ:=rfl;generalize(⟨⟨s.s.o,r.σ,r.b⟩,s.q,s.h,l2⟩:Sd)=s2 at*
    cases ho:r.σ.over with
    |true=>
     rw[ho,if_pos rfl] at UD;have fI:s2.s.σ.err≠14:=λg=>by rw[he2] at g;rw[UE.1 g] at ho;cases ho
     have EK:E5 s2 i=(i:Int):=if_pos fI;have IK:y_ s2 n most=true:=by unfold y_;rw[decide_eq_true fI];rfl
     rw[EK] at BM;rw[IK,EK]
     (repeat' first|constructor|exact ZQ|intro _)
     all_goals apply zL
     exact BM UD (by unfold na;generalize ad m bl _ rest=MM;exact HQ)
    |false=>
     rw[ho,if_neg dl] at UD;have q3:=UD Bj.y (by have:=Bj.n;omega) Bj.l;have heq:s2.s.σ.err=14:=by rw[he2];exact UE.2 ho
     have EK:E5 s2 i=-1:=if_neg λg=>g heq;rw[EK] at BM⊢;by_cases hm:(n:Int)+1=most
     .have IK:y_ s2 n most=true:=by unfold y_;rw[decide_eq_true hm,Bool.or_true]
      rw[IK];have e0:=q3.e;rw[show k'=0 by omega] at e0
      (repeat' first|constructor|exact ZQ|intro _)
      all_goals apply zL
      exact BM e0 (by unfold na;generalize ad m bl _ rest=MM;exact HQ)
     .have IK:y_ s2 n most=false:=by unfold y_;rw[decide_eq_false hm,decide_eq_false λg=>g heq];rfl
      rw[IK];have h2:=ih (n+1,I (pick b (fB 0 (l1.map co)).length),(fB 0 (l1.map co)).length,fB 0 (l1.map co),l1.set i (some s2),r.y) k' am ⟨am,by dsimp only;omega,q3,QA,?_,rfl,by dsimp only;omega,λj hj=>by have:=Ps hj;rw[Q3] at this;exact this⟩
      .dsimp only at h2;rw[<-ht.v] at h2
       (repeat' first|constructor|exact ZQ|intro _)
       all_goals apply zL
       refine Vx.bB ?_ h2;unfold na;rw[Pu];generalize ad m bl _ rest=MM;exact HQ
      .dsimp only;have tC:fB 0 ((l1.set i (some s2)).map co)=fB 0 (l1.map co):=by rw[pX];refine KS (s:=some s.s) (by rw[List.getElem?_map,hs];rfl) ?_;rw[xF heq,xF Uy]
       rw[<-tC];exact KV
end
instance ac0:cH 131 where
section
variable{B0 S:AH}{W:List Nat}{R:List Own}{ro:List aB}{x:Xc}{v u pk:AV}{l:List (Option Sd)}{p:List Int}{y:Me}{N most:Int}{Ln m bl:Nat}{rest:List AV}
theorem Vx.Pv {P p1 p2 p3 p4 q1 q2 q3:Nat}{body:List AV->AC}{K:List Kf}{k:AV->AC}{Φ:gn}(hx:x.ok)(hl:l.length<=100000)(hD:fS x v ro l)(xE:∀s,some s∈l->s.s.σ.fC)(hg:y.gd)(hn:y.n<=N)(hw:y.ws.length=Ln)(hN:0<=N/\N+most<4611686018427387904/\1<=most/\most<=1000)(hp:aB.sl pk 1 (ints p)∈ro)(oP:p.length<=100000)
  (h:∀r st l',l'.map co=(dm x p most ⟨y,l.map co⟩).2.2.l->fS x v ro l'->(∀s,some s∈l'->s.s.σ.fC)->dj l'=dj l->Vx EM (k r) K (Cw P body st::na p1 p2 p3 p4 u most ((dm x p most ⟨y,l.map co⟩).1:Int) (dm x p most ⟨y,l.map co⟩).2.1 l' (ad m bl (dm x p most ⟨y,l.map co⟩).2.2.y rest++R)) ro Φ)
  (hY:YdT x v ro P p1 p2 p3 p4 body u most):
  Vx EM (.call (.fn (.func 231) [] [.ptr q1 0,.ptr q3 0,.ptr q2 0]) [.yd P] k) K (.obj q3 (.row [pk])::.obj q2 (.row [.ptr m 0])::.obj q1 (.row [u])::Cw P body false::na p1 p2 p3 p4 u most 0 (-1) l (ad m bl y rest++R)) ro Φ:=
 Vx.spec (λB1 W1 S1 H=>Pt hx hl hD xE hg hn hw hN hp oP hY H) λr _ ⟨st,l',e1,e2,e3,e4,e5⟩=>by subst e5;exact .z (.of (h r st l' e1 e2 e3 e4))
theorem E6 (hx:x.ok)(hl:l.length<=100000)(hD:fS x v ro l)(xE:∀s,some s∈l->s.s.σ.fC)(hg:y.gd)(hn:y.n<=N)(hw:y.ws.length=Ln)(hN:0<=N/\N+most<4611686018427387904/\most<=1000)(hp:aB.sl pk 1 (ints p)∈ro)(oP:p.length<=100000)
  (H:Cx B0 W S (.sl u 1 (dj l)::(eF l++(ad m bl y rest++R))) ro):
  aG EM (zF 49) [u,.ptr m 0,pk,I most] S λr S'=>∃ab,(∃l',r=.dD [I ((dm x p most ⟨y,l.map co⟩).1:Int),I (dm x p most ⟨y,l.map co⟩).2.1]/\l'.map co=(dm x p most ⟨y,l.map co⟩).2.2.l/\fS x v ro l'/\(∀s,some s∈l'->s.s.σ.fC)/\dj l'=dj l/\ab=.sl u 1 (dj l)::(eF l'++(ad m bl (dm x p most ⟨y,l.map co⟩).2.2.y rest++R)))/\Cx B0 W S' ab ro:=by
 obtain⟨ou,cu,bu⟩:=dB (iT (H.oh _ (List.Mem.head _)));obtain⟨ov,cv,bv⟩:=dB (H.hH hp).1;refine Vx.fm H rfl (b:=Tryz.a49) ?_
 (repeat' first|refine Zx.bV (v:=u) ?_|refine Zx.aA (v:=u) ?_|constructor|exact ZQ|intro _)
 all_goals apply zL
 .have e:dm x p most ⟨y,l.map co⟩=(0,-1,⟨y,l.map co⟩):=by
   unfold dm;split;.rfl
   .rw[show most.toNat=0 by omega];rfl
  rw[e];exact⟨rfl,rfl,_,⟨l,rfl,rfl,hD,xE,rfl,rfl⟩,HQ⟩
 .rename_i p1 p2 p3 p4 hm q1 q2 q3 P;refine Vx.bB (own:=.obj q3 (.row [pk])::.obj q2 (.row [.ptr m 0])::.obj q1 (.row [u])::.obj P (.loop .ready none 2 _)::na p1 p2 p3 p4 u most 0 (-1) l (ad m bl y rest++R)) (by unfold na;generalize ad m bl _ rest=MM;exact HQ) ?_;refine Vx.Pv hx hl hD xE hg hn hw ⟨hN.1,hN.2.1,am,hN.2.2⟩ hp oP (λr st l2 e1 e2 e3 e4=>?_) ?_
  .unfold Cw na;rw[e4];generalize ad m bl _ rest=MM;cases st
   .refine Zx.ok (n:=false) ?_
    (repeat' first|constructor|exact ZQ|intro _)
    all_goals apply zL
    exact⟨rfl,rfl,_,⟨l2,rfl,e1,e2,e3,e4,rfl⟩,HQ⟩
   .refine Zx.ok (n:=false) ?_
    (repeat' first|constructor|exact ZQ|intro _)
    all_goals apply zL
    exact⟨rfl,rfl,_,⟨l2,rfl,e1,e2,e3,e4,rfl⟩,HQ⟩
  .intro B1 S1 W1 R1 l1 n i s n0 hs wK hnm H1;refine Vx.ydf (m:=2) ?_ rfl (List.Mem.head _) H1;unfold Cw na;refine Zx.ok (n:=false) ?_;repeat' first|refine Zx.aA (v:=u) ?_|constructor|exact ZQ|intro _
   all_goals apply zL
   refine Zx.ok (n:=false) (Zx.y6 (v:=u) (L:=dj l1) ac am (by rw[Int.toNat_natCast];exact jk hs) ?_);show Zx EM false (.call (zF 104) [.ptr s.q 0] _) _ _ _ _;rw[gX hs];simp only[@List.append_assoc Own,so];refine .z (.of (Vx.bB (own:=s.lo++(.obj P (.loop .busy none 2 _)::.obj p4 (.row [I (-1)])::.obj p3 (.row [I ((n:Int)+1)])::.obj p2 (.row [I most])::.obj p1 (.row [u])::.sl u 1 (dj l1)::(eF (l1.take i)++(eF (l1.drop (i+1))++R1)))) HQ ?_));refine Vx.spec (λB1 W1 S1 H=>Ih (wK s (List.mem_of_getElem? hs)).2.z (wK s (List.mem_of_getElem? hs)).1 H) ?_;rintro _ _ ⟨rfl,rfl⟩;unfold y_ E5;by_cases he:s.s.σ.err=14
   .rw[he,decide_eq_false (show¬((14:Int)≠14) from λg=>g rfl),Bool.false_or,if_neg (show¬((14:Int)≠14) from λg=>g rfl)];by_cases hmm:(n:Int)+1=most
    .rw[decide_eq_true hmm]
     (repeat' first|constructor|exact ZQ|intro _)
     all_goals apply zL
     exact⟨rfl,rfl,_,⟨rfl,rfl⟩,HQ⟩
    .rw[decide_eq_false hmm]
     (repeat' first|constructor|exact ZQ|intro _)
     all_goals apply zL
     exact⟨rfl,rfl,_,⟨rfl,rfl⟩,HQ⟩
   .rw[decide_eq_true he,Bool.true_or,if_pos he]
    (repeat' first|constructor|exact ZQ|intro _)
    all_goals apply zL
    exact⟨rfl,rfl,_,⟨rfl,rfl⟩,HQ⟩
end
end Go.cO
