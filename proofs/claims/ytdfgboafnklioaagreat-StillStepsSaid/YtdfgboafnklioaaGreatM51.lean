/- Contracts. Conditions: in each theorem. -/
import Derived.Test.YtdfgboafnklioaaGreatM50
set_option linter.all false
set_option maxRecDepth 100000
set_option maxHeartbeats 4000000
namespace Go.cI
open Go.Proofs
section
open az
section
variable{B0 S:AH}{W:List Nat}{R l:List Own}{ro:List aF}{m q:Nat}{vm tv:AV}{y:Me}{x:Xc}{o:Od}{b hg:Int}
theorem N_ {z:eA}:DQ x o tv hg q b m vm y (.t1 z):=by
 intro B0 S W R l ro hx hk hy h H;obtain⟨dK,cR,eD,eU,eQ,eV,bt,dk,eR,eL,eo,eS,mU,ml⟩:=aS hx hk;cases h with
 |@t1 z lm qm i w a1 a2 a3 a4 a5 a6 a7 a9 a10 a11 a12 bK hh h ho=>
 subst hh;refine y1 H eN ?_;intros;refine Vx.fy (A:=[_]) (λB W S H=>Cw eo hy h H) λa' x' l' e1 hl=>?_;have e2:az.step x o (.t1 z) y=(mF x o a',x'):=by show(mF x o _,_)=_;rw[e1]
 cases ho:a'.over
 .refine z1 ?_;have e3:az.step x o (.t1 z) y=(az.t1 a',x'):=e2.trans (Prod.ext (by cases a'<;>first|rfl|cases ho) rfl);exact aa e3 (.t1 bK rfl hl ho) rfl HQ
 .cases hl with
  |@d Bv v2 Qj Bz eM=>
   refine z3 ?_ ?_ ?_<;>intros
   .have e3:mF x o (.d Bv v2 Qj)=.d 0 0 15 false:=by show(if Qj=0 then(if x.j.f.size<=v2 then az.d 0 0 5 false else .t2 v2 Bv (bC.new x.j v2)) else .d 0 0 15 false)=_;rw[if_neg am]
    exact aa (e2.trans (Prod.ext e3 rfl)) (.d (λh=>absurd h dl)) rfl HQ
   .have e3:mF x o (.d Bv v2 Qj)=.d 0 0 5 false:=by show(if Qj=0 then(if x.j.f.size<=v2 then az.d 0 0 5 false else .t2 v2 Bv (bC.new x.j v2)) else .d 0 0 15 false)=_;rw[if_pos am,if_pos am]
    exact aa (e2.trans (Prod.ext e3 rfl)) (.d (λh=>absurd h dl)) rfl HQ
   .have e3:mF x o (.d Bv v2 Qj)=.t2 v2 Bv .a:=by show(if Qj=0 then(if x.j.f.size<=v2 then az.d 0 0 5 false else .t2 v2 Bv (bC.new x.j v2)) else .d 0 0 15 false)=_;rw[if_pos am,if_neg am,bC.df ⟨eM.1,am⟩]
    exact aa (e2.trans (Prod.ext e3 rfl)) (.t2 (lm:=[_]) (qf:=qm) bK rfl Bz ⟨eM.1,am⟩ (.a ⟨eM.1,am⟩) rfl) rfl HQ
  |_=>cases ho
theorem Oa {z:bC}{i hd:Int}:DQ x o tv hg q b m vm y (.t2 i hd z):=by
 intro B0 S W R l ro hx hk hy h H;obtain⟨dK,cR,eD,eU,eQ,eV,bt,dk,eR,eL,eo,eS,mU,ml⟩:=aS hx hk;cases h with
 |@t2 z i hd lm qm qf w fv fe a1 a2 a3 a4 a5 a7 a9 a10 a11 a12 bK hh Bz hi h ho=>
 subst hh;refine y1 H eN ?_;intros;refine Vx.fy (A:=[_,_]) (λB W S H=>py cR hy h H) λa' x' l' e1 hl=>?_;have e2:az.step x o (.t2 i hd z) y=(oE x o i hd a',x'):=by show(oE x o i hd _,_)=_;rw[e1]
 cases ho:a'.over
 .refine z1 ?_;have e3:az.step x o (.t2 i hd z) y=(az.t2 i hd a',x'):=e2.trans (Prod.ext (by cases a'<;>first|rfl|cases ho) rfl);exact aa e3 (.t2 bK rfl Bz hi hl ho) rfl HQ
 .cases hl with
  |@d w2 Be=>
   refine z2 ?_ ?_<;>intros
   .have hb:bY w2:=Decidable.byContradiction λh=>by simp[h] at*
    have e3:oE x o i hd (.d w2 0)=.d 0 0 5 false:=by show(if bY w2 then az.d 0 0 5 false else .t3 i hd w2 (bh.new x.j i o.c))=_;rw[if_pos hb]
    exact aa (e2.trans (Prod.ext e3 rfl)) (.d (λh=>absurd h dl)) rfl HQ
   .have hb:¬bY w2:=λh=>by simp[h] at*
    have e3:oE x o i hd (.d w2 0)=.t3 i hd w2 .l:=by show(if bY w2 then az.d 0 0 5 false else .t3 i hd w2 (bh.new x.j i o.c))=_;rw[if_neg hb,bh.df hi am]
    exact aa (e2.trans (Prod.ext e3 rfl)) (.t3 (lm:=[_,_]) bK rfl Bz hi ⟨Be,hb⟩ (.l hi) rfl) rfl HQ
  |_=>cases ho
theorem Ob {z:bh}{i hd w:Int}:DQ x o tv hg q b m vm y (.t3 i hd w z):=by
 intro B0 S W R l ro hx hk hy h H;obtain⟨dK,cR,eD,eU,eQ,eV,bt,dk,eR,eL,eo,eS,mU,ml⟩:=aS hx hk;cases h with
 |@t3 z i hd w lm qm qf fv fe a1 a2 a3 a5 a6 a7 a9 a10 a11 a12 bK hh Bz hi c_ h ho=>
 subst hh;have Tm:0<=w/\w<18446744073709551615:=by have:=c_.1;have:=c_.2;unfold Me.au bY at*;omega
 have Qk:0<=(w+1)%18446744073709551616/\(w+1)%18446744073709551616<18446744073709551615:=by have:=c_.1;have:=c_.2;unfold Me.au bY at*;omega
 refine y1 H eN ?_;intros;refine Vx.fy (A:=[_,_]) (λB W S H=>jd cR am am am hy h H) λa' x' l' e1 hl=>?_;have e2:az.step x o (.t3 i hd w z) y=(if a'.over then az.t4 i hd w (.p .a 0) else .t3 i hd w a',x'):=by show(if _ then _ else _,_)=_;rw[Bd (c2:=0) dl dl,e1]
 cases ho:a'.over
 .refine z1 ?_;have e3:az.step x o (.t3 i hd w z) y=(az.t3 i hd w a',x'):=e2.trans (Prod.ext (if_neg (by rw[ho];simp)) rfl);exact aa e3 (.t3 bK rfl Bz hi c_ hl ho) rfl HQ
 .refine z1 ?_;intros;next p l' hP=>exact aa (e2.trans (Prod.ext (if_pos ho) rfl)) (.t4 bK rfl Bz hi c_ (show gw x.t o.c w i o.high p 0 (.p .a 0) l' from hP) rfl) rfl HQ
theorem Oc {z:aW}{i hd w:Int}:DQ x o tv hg q b m vm y (.t4 i hd w z):=by
 intro B0 S W R l ro hx hk hy h H;obtain⟨dK,cR,eD,eU,eQ,eV,bt,dk,eR,eL,eo,eS,mU,ml⟩:=aS hx hk;cases h with
 |@t4 z i hd w bp lm qm qf fv fe a1 a2 a3 a4 a5 a6 a7 a9 a11 a12 bK hh Bz hi c_ h ho=>
 subst hh;have Tm:0<=w/\w<18446744073709551615:=by have:=c_.1;have:=c_.2;unfold Me.au bY at*;omega
 have Qk:0<=(w+1)%18446744073709551616/\(w+1)%18446744073709551616<18446744073709551615:=by have:=c_.1;have:=c_.2;unfold Me.au bY at*;omega
 have hcm:0<=o.c*(x.room+2)/\o.c*(x.room+2)<=63*18:=⟨Int.mul_nonneg eQ.1 am,Int.le_trans (Int.mul_le_mul_of_nonneg_right (show o.c<=63 by omega) am) am⟩;refine y1 H eN ?_;intros;refine Vx.fy (A:=[_,_]) (λB W S H=>Bc dK am ⟨am,am,am⟩ hy ho c_.1 h H) λa' x' l' e1 hl=>?_;have e2:az.step x o (.t4 i hd w z) y=(qH x o i hd w a',x'):=by show(qH x o i hd w _,_)=_;rw[e1]
 by_cases ho:a'.over=true
 .cases hl with
  |@d lF mI al co ly ins n2 p2 Oe er=>
   simp only[Tw.qX,Tw.cs,Lb.cs,Ar.cs,Ep.cs,lA,lB];refine z2 ?_ ?_<;>intros
   .have e3:qH x o i hd w (.d er)=.t5 i w er .l:=by show(if er=0 then az.t6 i hd w .a else .t5 i w er (bh.new x.j i o.c))=_;rw[if_neg am,bh.df hi am]
    exact aa (e2.trans (Prod.ext e3 rfl)) (.t5 (lm:=[_,_]) bK am (.l hi) rfl) rfl HQ
   .have e3:qH x o i hd w (.d er)=.t6 i hd w .a:=by show(if er=0 then az.t6 i hd w .a else .t5 i w er (bh.new x.j i o.c))=_;rw[if_pos am]
    exact aa (e2.trans (Prod.ext e3 rfl)) (.t6 (lm:=[_]) bK (.a Bz) rfl) rfl HQ
  |_=>first|cases ho|skip
 .rw[Bool.not_eq_true] at ho;obtain⟨Ko,N2,p2,N3,e5,n2,al2,co2,Oe,ly2,Y1,LZ,rfl⟩:=hl.row;simp only[Tw.qX,Tw.cs,Lb.cs,Ar.cs,Ep.cs,lA,lB];rw[ho];refine z1 ?_;have e3:az.step x o (.t4 i hd w z) y=(az.t4 i hd w a',x'):=e2.trans (Prod.ext (by cases a'<;>first|rfl|cases ho) rfl);exact aa e3 (.t4 bK rfl Bz hi c_ hl ho) rfl HQ
theorem Of {z:bh}{i w e:Int}:DQ x o tv hg q b m vm y (.t5 i w e z):=by
 intro B0 S W R l ro hx hk hy h H;obtain⟨dK,cR,eD,eU,eQ,eV,bt,dk,eR,eL,eo,eS,mU,ml⟩:=aS hx hk;cases h with
 |@t5 z i w e lm qm w2 a1 a2 a3 a5 a6 a7 a8 a9 a10 a11 a12 bK he h ho=>
 refine y1 H eN ?_;intros;refine Vx.fy (A:=[_]) (λB W S H=>jd cR am am am hy h H) λa' x' l' e1 hl=>?_;have e2:az.step x o (.t5 i w e z) y=(if a'.over then az.d i w e false else .t5 i w e a',x'):=by show(if _ then _ else _,_)=_;rw[Bd (c2:=0) dl dl,e1]
 cases ho:a'.over
 .refine z1 ?_;have e3:az.step x o (.t5 i w e z) y=(az.t5 i w e a',x'):=e2.trans (Prod.ext (if_neg (by rw[ho];simp)) rfl);exact aa e3 (.t5 bK he hl ho) rfl HQ
 .refine z1 ?_;all_goals first|(exfalso;omega)|exact aa (e2.trans (Prod.ext (if_pos ho) rfl)) (.d (λh=>absurd h he)) rfl HQ
theorem Og {z:jx}{i hd w:Int}:DQ x o tv hg q b m vm y (.t6 i hd w z):=by
 intro B0 S W R l ro hx hk hy h H;obtain⟨dK,cR,eD,eU,eQ,eV,bt,dk,eR,eL,eo,eS,mU,ml⟩:=aS hx hk;cases h with
 |@t6 z i hd w lm qm a1 a2 a3 a4 a5 a6 a7 a8 a10 a11 a12 bK h ho=>
 refine y1 H eN ?_;intros;refine Vx.fy (A:=[_]) (λB W S H=>ES eo hy h H) λa' x' l' e1 hl=>?_;have e2:az.step x o (.t6 i hd w z) y=(if a'.over then az.balance x i w else .t6 i hd w a',x'):=by show(if _ then _ else _,_)=_;rw[e1]
 cases ho:a'.over
 .refine z1 ?_;have e3:az.step x o (.t6 i hd w z) y=(az.t6 i hd w a',x'):=e2.trans (Prod.ext (if_neg (by rw[ho];simp)) rfl);exact aa e3 (.t6 bK hl ho) rfl HQ
 .refine z1 ?_;intros;next p l' hB=>exact aa (e2.trans (Prod.ext (if_pos ho) rfl)) (.pg (show iQ x.t x.r o.c p 0 (.k (.p .a)) l' from hB) rfl) rfl HQ
theorem Ks {z:cH}{i w:Int}:DQ x o tv hg q b m vm y (.pg i w z):=by
 intro B0 S W R l ro hx hk hy h H;obtain⟨dK,cR,eD,eU,eQ,eV,bt,dk,eR,eL,eo,eS,mU,ml⟩:=aS hx hk;cases h with
 |@pg z i w bp lm qm a1 a2 a3 a4 a5 a6 a7 a8 a9 a10 a11 h ho=>
 refine y1 H eN ?_;refine Vx.fy (A:=[_]) (λB W S H=>H_ dK eD am hy ho h H) λa' x' l' e1 hl=>?_;have e2:az.step x o (.pg i w z) y=(if a'.over then az.d i w 0 false else .pg i w a',x'):=by show(if _ then _ else _,_)=_;rw[e1]
 by_cases ho:a'.over=true
 .obtain⟨Tn,Ko,N1,L2,Tp,e5,LZ,rfl⟩:=hl.row;simp only[Rs.cS];rw[ho];refine z1 ?_;all_goals first|(exfalso;omega)|exact aa (e2.trans (Prod.ext (if_pos ho) rfl)) (.d (λ_ _=>⟨rfl,rfl⟩)) rfl HQ
 .rw[Bool.not_eq_true] at ho;obtain⟨Tn,Ko,N1,L2,Tp,e5,LZ,rfl⟩:=hl.row;simp only[Rs.cS];rw[ho];refine z1 ?_;have e3:az.step x o (.pg i w z) y=(az.pg i w a',x'):=e2.trans (Prod.ext (if_neg (by rw[ho];simp)) rfl);exact aa e3 (.pg hl ho) rfl HQ
end
end
section
open az
section
variable{B0 S:AH}{W:List Nat}{R l:List Own}{ro:List aF}{m q:Nat}{vm tv:AV}{y:Me}{x:Xc}{o:Od}{b hg:Int}
theorem Oh (hx:x.ok) (hk:o.ok x) (hy:y.gd) (h:bH x o tv hg q b (.p1) l) (H:Cx B0 W S (l++(ai m vm y++R)) ro):
  aG EM (zF 21) [.ptr q 0,.ptr m 0] S λu S'=>∃ab,eH (bH x o tv hg q (az.cG x o (.p1))) az.over (az.step x o (.p1) y) (ai m vm) R u ab/\Cx B0 W S' ab ro:=by
 obtain⟨dK,cR,eD,eU,eQ,eV,bt,dk,eR,eL,eo,eS,mU,ml⟩:=aS hx hk;cases h with
 |@p1 i w a1 a2 a3 a4 a5 a6 a7 a8 a9 a10 a11 a12 bK=>
 refine y3 H eN ?_ ?_ ?_<;>intros
 .have hr:x.rd (y.word (x.own+o.c))=-1:=if_pos am;have e3:az.step x o .p1 y=(az.pick,y.ld (x.own+o.c)):=Prod.ext (if_neg (by rw[hr];omega)) rfl;next p l' hP=>exact aa e3 (.p2 am (show jN x.t o.c false p 0 (.p .a) l' from hP) rfl) rfl HQ
 .have hr:x.rd (y.word (x.own+o.c))=-1:=if_pos am;have e3:az.step x o .p1 y=(az.pick,y.ld (x.own+o.c)):=Prod.ext (if_neg (by rw[hr];omega)) rfl;next p l' hP=>exact aa e3 (.p2 am (show jN x.t o.c false p 0 (.p .a) l' from hP) rfl) rfl HQ
 .have hr:x.rd (y.word (x.own+o.c))=y.word (x.own+o.c)-1:=if_neg am;have e3:az.step x o .p1 y=(.d 0 0 11 false,y.ld (x.own+o.c)):=Prod.ext (if_pos (by rw[hr];omega)) rfl;exact aa (e3) (.d (λh=>absurd h dl)) rfl HQ
theorem Oi {z:dQ}:DQ x o tv hg q b m vm y (.p2 z):=by
 intro B0 S W R l ro hx hk hy h H;obtain⟨dK,cR,eD,eU,eQ,eV,bt,dk,eR,eL,eo,eS,mU,ml⟩:=aS hx hk;cases h with
 |@p2 z bp lm qm i w a1 a2 a3 a4 a5 a6 a7 a8 a9 a10 a12 bK h ho=>
 refine y1 H eN ?_;refine Vx.fy (A:=[_]) (λB W S H=>Kp dK am hy ho h H) λa' x' l' e1 hl=>?_;have e2:az.step x o (.p2 z) y=(jy x o a',x'):=by show(jy x o _,_)=_;rw[e1]
 by_cases ho:a'.over=true
 .cases hl with
  |@d qc lF mI p3 vK gC I7 bc lc h2=>
   cases h2 with
   |d=>
   simp only[Tw.wX,Tw.lE,Tw.cs,Lb.cs,Ar.cs,Ep.cs,lA,lB]
   (repeat' first|constructor|exact ZQ|intro _)
   all_goals apply zL
   .have e3:jy x o (.d vK gC I7)=.d 0 0 0 true:=by show(if I7=0 then(if gC<0\/x.j.f.size<=gC then az.d 0 0 5 false else .p3 gC vK (bh.new x.j gC o.c)) else if o.k=4 then .d 0 0 0 true else .d 0 0 15 false)=_;rw[if_neg am,if_pos am]
    exact aa (e2.trans (Prod.ext e3 rfl)) (.d (λ_ h=>by cases h)) rfl HQ
   .have e3:jy x o (.d vK gC I7)=.d 0 0 15 false:=by show(if I7=0 then(if gC<0\/x.j.f.size<=gC then az.d 0 0 5 false else .p3 gC vK (bh.new x.j gC o.c)) else if o.k=4 then .d 0 0 0 true else .d 0 0 15 false)=_;rw[if_neg am,if_neg am]
    exact aa (e2.trans (Prod.ext e3 rfl)) (.d (λh=>absurd h dl)) rfl HQ
   .have e3:jy x o (.d vK gC I7)=.d 0 0 5 false:=by show(if I7=0 then(if gC<0\/x.j.f.size<=gC then az.d 0 0 5 false else .p3 gC vK (bh.new x.j gC o.c)) else if o.k=4 then .d 0 0 0 true else .d 0 0 15 false)=_;rw[if_pos am,if_pos am]
    exact aa (e2.trans (Prod.ext e3 rfl)) (.d (λh=>absurd h dl)) rfl HQ
   .have e3:jy x o (.d vK gC I7)=.d 0 0 5 false:=by show(if I7=0 then(if gC<0\/x.j.f.size<=gC then az.d 0 0 5 false else .p3 gC vK (bh.new x.j gC o.c)) else if o.k=4 then .d 0 0 0 true else .d 0 0 15 false)=_;rw[if_pos am,if_pos am]
    exact aa (e2.trans (Prod.ext e3 rfl)) (.d (λh=>absurd h dl)) rfl HQ
   .have hj:0<=gC/\gC<x.j.f.size:=am;have e3:jy x o (.d vK gC I7)=.p3 gC vK .l:=by show(if I7=0 then(if gC<0\/x.j.f.size<=gC then az.d 0 0 5 false else .p3 gC vK (bh.new x.j gC o.c)) else if o.k=4 then .d 0 0 0 true else .d 0 0 15 false)=_;rw[if_pos am,if_neg am,bh.df hj am]
    exact aa (e2.trans (Prod.ext e3 rfl)) (.p3 (lm:=[_,_]) hj (.l hj) rfl) rfl HQ
  |_=>first|cases ho|skip
 .rw[Bool.not_eq_true] at ho;obtain⟨Ko,N2,p2,N3,nH,LZ,rfl⟩:=hl.row;simp only[Tw.wX,Tw.cs,Lb.cs,Ar.cs,Ep.cs,lA,lB];rw[ho];refine z1 ?_;have e3:az.step x o (.p2 z) y=(az.p2 a',x'):=e2.trans (Prod.ext (by cases a'<;>first|rfl|cases ho) rfl);exact aa e3 (.p2 bK hl ho) rfl HQ
theorem Oj {z:bh}{i w:Int}:DQ x o tv hg q b m vm y (.p3 i w z):=by
 intro B0 S W R l ro hx hk hy h H;obtain⟨dK,cR,eD,eU,eQ,eV,bt,dk,eR,eL,eo,eS,mU,ml⟩:=aS hx hk;cases h with
 |@p3 z i w lm qm a1 a2 a3 a5 a6 a7 a8 a9 a10 a11 a12 hi h ho=>
 refine y1 H eN ?_;refine Vx.fy (A:=[_]) (λB W S H=>jd cR am am am hy h H) λa' x' l' e1 hl=>?_;have e2:az.step x o (.p3 i w z) y=(if a'.over then az.p4 i w else .p3 i w a',x'):=by show(if _ then _ else _,_)=_;rw[e1]
 cases ho:a'.over
 .refine z1 ?_;have e3:az.step x o (.p3 i w z) y=(az.p3 i w a',x'):=e2.trans (Prod.ext (if_neg (by rw[ho];simp)) rfl);exact aa e3 (.p3 hi hl ho) rfl HQ
 .refine z1 ?_;all_goals first|(exfalso;omega)|exact aa (e2.trans (Prod.ext (if_pos ho) rfl)) (.p4 hi) rfl HQ
theorem Ok {i w:Int}:DQ x o tv hg q b m vm y (.p4 i w):=by
 intro B0 S W R l ro hx hk hy h H;obtain⟨dK,cR,eD,eU,eQ,eV,bt,dk,eR,eL,eo,eS,mU,ml⟩:=aS hx hk;cases h with
 |@p4 i w a1 a2 a3 a4 a5 a6 a7 a8 a9 a10 a11 a12 hi=>
 refine y1 H eN ?_;rw[show(i+1)%18446744073709551616=i+1 by omega];exact aa rfl .p5 rfl HQ
theorem Ol {i w:Int}:DQ x o tv hg q b m vm y (.p5 i w):=by
 intro B0 S W R l ro hx hk hy h H;obtain⟨dK,cR,eD,eU,eQ,eV,bt,dk,eR,eL,eo,eS,mU,ml⟩:=aS hx hk;cases h with
 |@p5 i w a1 a2 a3 a4 a5 a6 a7 a8 a9 a10 a11 a12=>
 refine y1 H eN ?_;intros;next p l' hB=>exact aa rfl (.pg (show iQ x.t x.r o.c p 0 (.k (.p .a)) l' from hB) rfl) rfl HQ
theorem Om (hx:x.ok) (hk:o.ok x) (hy:y.gd) (h:bH x o tv hg q b (.s1) l) (H:Cx B0 W S (l++(ai m vm y++R)) ro):
  aG EM (zF 21) [.ptr q 0,.ptr m 0] S λu S'=>∃ab,eH (bH x o tv hg q (az.cG x o (.s1))) az.over (az.step x o (.s1) y) (ai m vm) R u ab/\Cx B0 W S' ab ro:=by
 obtain⟨dK,cR,eD,eU,eQ,eV,bt,dk,eR,eL,eo,eS,mU,ml⟩:=aS hx hk;cases h with
 |@s1 i w a1 a2 a3 a4 a5 a6 a7 a8 a9 a10 a11 a12 bK hh=>
 subst hh;refine y2 H eN ?_ ?_<;>intros
 .exact aa (Prod.ext (if_pos am) rfl) (.d (λh=>absurd h dl)) rfl HQ
 .exact aa (Prod.ext (if_neg am) rfl) (.s2 bK rfl) rfl HQ
theorem On (hx:x.ok) (hk:o.ok x) (hy:y.gd) (h:bH x o tv hg q b (.s2) l) (H:Cx B0 W S (l++(ai m vm y++R)) ro):
  aG EM (zF 21) [.ptr q 0,.ptr m 0] S λu S'=>∃ab,eH (bH x o tv hg q (az.cG x o (.s2))) az.over (az.step x o (.s2) y) (ai m vm) R u ab/\Cx B0 W S' ab ro:=by
 obtain⟨dK,cR,eD,eU,eQ,eV,bt,dk,eR,eL,eo,eS,mU,ml⟩:=aS hx hk;cases h with
 |@s2 i w a1 a2 a3 a4 a5 a6 a7 a8 a9 a10 a11 a12 bK hh=>
 subst hh;refine y1 H eN ?_;intros;exact aa rfl (.s3 bK rfl) rfl HQ
theorem Oo (hx:x.ok) (hk:o.ok x) (hy:y.gd) (h:bH x o tv hg q b (.s3) l) (H:Cx B0 W S (l++(ai m vm y++R)) ro):
  aG EM (zF 21) [.ptr q 0,.ptr m 0] S λu S'=>∃ab,eH (bH x o tv hg q (az.cG x o (.s3))) az.over (az.step x o (.s3) y) (ai m vm) R u ab/\Cx B0 W S' ab ro:=by
 obtain⟨dK,cR,eD,eU,eQ,eV,bt,dk,eR,eL,eo,eS,mU,ml⟩:=aS hx hk;cases h with
 |@s3 i w a1 a2 a3 a4 a5 a6 a7 a8 a9 a10 a11 a12 bK hh=>
 subst hh;refine y3 H eN ?_ ?_ ?_<;>intros
 .have hr:x.rd (y.word (x.own+o.c))=-1:=if_pos am;have e3:az.step x o .s3 y=(az.pick,y.ld (x.own+o.c)):=Prod.ext (if_pos (by rw[hr];omega)) rfl;next p l' hP=>exact aa e3 (.p2 am (show jN x.t o.c false p 0 (.p .a) l' from hP) rfl) rfl HQ
 .have hr:x.rd (y.word (x.own+o.c))=-1:=if_pos am;have e3:az.step x o .s3 y=(az.pick,y.ld (x.own+o.c)):=Prod.ext (if_pos (by rw[hr];omega)) rfl;next p l' hP=>exact aa e3 (.p2 am (show jN x.t o.c false p 0 (.p .a) l' from hP) rfl) rfl HQ
 .have hr:x.rd (y.word (x.own+o.c))=y.word (x.own+o.c)-1:=if_neg am;have hi:0<=y.word (x.own+o.c)-1/\y.word (x.own+o.c)-1<x.j.f.size:=am;have e3:az.step x o .s3 y=(.s4 (y.word (x.own+o.c)-1) .a,y.ld (x.own+o.c)):=by show(if x.rd (y.word (x.own+o.c))<0 then az.pick else .s4 (x.rd (y.word (x.own+o.c))) (bC.new x.j (x.rd (y.word (x.own+o.c)))),_)=_;rw[hr,if_neg am,bC.df hi]
  exact aa (e3) (.s4 (lm:=[_]) bK rfl hi (.a hi) rfl) rfl HQ
end
end
end Go.cI
