/- Contracts. Conditions: in each theorem. -/
import Derived.Test.YtdfgboafnklioaaGreatM50
set_option linter.all false
set_option maxRecDepth 100000
set_option maxHeartbeats 4000000
namespace Go.cO
open Go.Proofs
section
open an
section
variable{B0 S:AH}{W:List Nat}{R l:List Own}{ro:List aB}{m q:Nat}{vm tv:AV}{y:Me}{x:Xc}{o:Od}{b hg:Int}
theorem N2 {z:eM}:DQ x o tv hg q b m vm y (.t1 z):=by
 intro B0 S W R l ro hx hk hy h H;obtain⟨dT,cY,eO,fi,ff,fj,bz,dC,fk,fA,eR,fg,ng,mH⟩:=aO hx hk;cases h with
 |@t1 z lm qm i w a1 a2 a3 a4 a5 a6 a7 a9 a10 a11 a12 bR hh h ho=>
 subst hh;refine y1 H e_ ?_;intros;refine Vx.fV (A:=[_]) (λB W S H=>Cj eR hy h H) λa' x' l' e1 hl=>?_;have e2:an.step x o (.t1 z) y=(lX x o a',x'):=by show(lX x o _,_)=_;rw[e1]
 cases ho:a'.over
 .refine z1 ?_;have e3:an.step x o (.t1 z) y=(an.t1 a',x'):=e2.trans (Prod.ext (by cases a'<;>first|rfl|cases ho) rfl);exact aa e3 (.t1 bR rfl hl ho) rfl HQ
 .cases hl with
  |@d Bg v2 Qy Bi eZ=>
   refine z3 ?_ ?_ ?_<;>intros
   .have e3:lX x o (.d Bg v2 Qy)=.d 0 0 15 false:=by show(if Qy=0 then(if x.j.f.size<=v2 then an.d 0 0 5 false else .t2 v2 Bg (bF.new x.j v2)) else .d 0 0 15 false)=_;rw[if_neg am]
    exact aa (e2.trans (Prod.ext e3 rfl)) (.d (λh=>absurd h dl)) rfl HQ
   .have e3:lX x o (.d Bg v2 Qy)=.d 0 0 5 false:=by show(if Qy=0 then(if x.j.f.size<=v2 then an.d 0 0 5 false else .t2 v2 Bg (bF.new x.j v2)) else .d 0 0 15 false)=_;rw[if_pos am,if_pos am]
    exact aa (e2.trans (Prod.ext e3 rfl)) (.d (λh=>absurd h dl)) rfl HQ
   .have e3:lX x o (.d Bg v2 Qy)=.t2 v2 Bg .a:=by show(if Qy=0 then(if x.j.f.size<=v2 then an.d 0 0 5 false else .t2 v2 Bg (bF.new x.j v2)) else .d 0 0 15 false)=_;rw[if_pos am,if_neg am,bF.dy ⟨eZ.1,am⟩]
    exact aa (e2.trans (Prod.ext e3 rfl)) (.t2 (lm:=[_]) (qf:=qm) bR rfl Bi ⟨eZ.1,am⟩ (.a ⟨eZ.1,am⟩) rfl) rfl HQ
  |_=>cases ho
theorem N3 {z:bF}{i hd:Int}:DQ x o tv hg q b m vm y (.t2 i hd z):=by
 intro B0 S W R l ro hx hk hy h H;obtain⟨dT,cY,eO,fi,ff,fj,bz,dC,fk,fA,eR,fg,ng,mH⟩:=aO hx hk;cases h with
 |@t2 z i hd lm qm qf w fv fe a1 a2 a3 a4 a5 a7 a9 a10 a11 a12 bR hh Bi hi h ho=>
 subst hh;refine y1 H e_ ?_;intros;refine Vx.fV (A:=[_,_]) (λB W S H=>pV cY hy h H) λa' x' l' e1 hl=>?_;have e2:an.step x o (.t2 i hd z) y=(nR x o i hd a',x'):=by show(nR x o i hd _,_)=_;rw[e1]
 cases ho:a'.over
 .refine z1 ?_;have e3:an.step x o (.t2 i hd z) y=(an.t2 i hd a',x'):=e2.trans (Prod.ext (by cases a'<;>first|rfl|cases ho) rfl);exact aa e3 (.t2 bR rfl Bi hi hl ho) rfl HQ
 .cases hl with
  |@d w2 EK=>
   refine z2 ?_ ?_<;>intros
   .have hb:b_ w2:=Decidable.byContradiction λh=>by simp[h] at*
    have e3:nR x o i hd (.d w2 0)=.d 0 0 5 false:=by show(if b_ w2 then an.d 0 0 5 false else .t3 i hd w2 (aZ.new x.j i o.c))=_;rw[if_pos hb]
    exact aa (e2.trans (Prod.ext e3 rfl)) (.d (λh=>absurd h dl)) rfl HQ
   .have hb:¬b_ w2:=λh=>by simp[h] at*
    have e3:nR x o i hd (.d w2 0)=.t3 i hd w2 .l:=by show(if b_ w2 then an.d 0 0 5 false else .t3 i hd w2 (aZ.new x.j i o.c))=_;rw[if_neg hb,aZ.dy hi am]
    exact aa (e2.trans (Prod.ext e3 rfl)) (.t3 (lm:=[_,_]) bR rfl Bi hi ⟨EK,hb⟩ (.l hi) rfl) rfl HQ
  |_=>cases ho
theorem N4 {z:aZ}{i hd w:Int}:DQ x o tv hg q b m vm y (.t3 i hd w z):=by
 intro B0 S W R l ro hx hk hy h H;obtain⟨dT,cY,eO,fi,ff,fj,bz,dC,fk,fA,eR,fg,ng,mH⟩:=aO hx hk;cases h with
 |@t3 z i hd w lm qm qf fv fe a1 a2 a3 a5 a6 a7 a9 a10 a11 a12 bR hh Bi hi dt h ho=>
 subst hh;have Tx:0<=w/\w<18446744073709551615:=by have:=dt.1;have:=dt.2;unfold Me.ar b_ at*;omega
 have Jp:0<=(w+1)%18446744073709551616/\(w+1)%18446744073709551616<18446744073709551615:=by have:=dt.1;have:=dt.2;unfold Me.ar b_ at*;omega
 refine y1 H e_ ?_;intros;refine Vx.fV (A:=[_,_]) (λB W S H=>jL cY am am am hy h H) λa' x' l' e1 hl=>?_;have e2:an.step x o (.t3 i hd w z) y=(if a'.over then an.t4 i hd w (.p .a 0) else .t3 i hd w a',x'):=by show(if _ then _ else _,_)=_;rw[AW (c2:=0) dl dl,e1]
 cases ho:a'.over
 .refine z1 ?_;have e3:an.step x o (.t3 i hd w z) y=(an.t3 i hd w a',x'):=e2.trans (Prod.ext (if_neg (by rw[ho];simp)) rfl);exact aa e3 (.t3 bR rfl Bi hi dt hl ho) rfl HQ
 .refine z1 ?_;intros;next p l' hP=>exact aa (e2.trans (Prod.ext (if_pos ho) rfl)) (.t4 bR rfl Bi hi dt (show gW x.t o.c w i o.high p 0 (.p .a 0) l' from hP) rfl) rfl HQ
theorem N5 {z:aI}{i hd w:Int}:DQ x o tv hg q b m vm y (.t4 i hd w z):=by
 intro B0 S W R l ro hx hk hy h H;obtain⟨dT,cY,eO,fi,ff,fj,bz,dC,fk,fA,eR,fg,ng,mH⟩:=aO hx hk;cases h with
 |@t4 z i hd w bp lm qm qf fv fe a1 a2 a3 a4 a5 a6 a7 a9 a11 a12 bR hh Bi hi dt h ho=>
 subst hh;have Tx:0<=w/\w<18446744073709551615:=by have:=dt.1;have:=dt.2;unfold Me.ar b_ at*;omega
 have Jp:0<=(w+1)%18446744073709551616/\(w+1)%18446744073709551616<18446744073709551615:=by have:=dt.1;have:=dt.2;unfold Me.ar b_ at*;omega
 have hcm:0<=o.c*(x.room+2)/\o.c*(x.room+2)<=63*18:=⟨Int.mul_nonneg ff.1 am,Int.le_trans (Int.mul_le_mul_of_nonneg_right (show o.c<=63 by omega) am) am⟩;refine y1 H e_ ?_;intros;refine Vx.fV (A:=[_,_]) (λB W S H=>AU dT am ⟨am,am,am⟩ hy ho dt.1 h H) λa' x' l' e1 hl=>?_;have e2:an.step x o (.t4 i hd w z) y=(o4 x o i hd w a',x'):=by show(o4 x o i hd w _,_)=_;rw[e1]
 by_cases ho:a'.over=true
 .cases hl with
  |@d l9 mV al co ly ins n2 p2 N6 er=>
   simp only[Tw.rk,Tw.cs,Lb.cs,Ar.cs,Ep.cs,lA,lB];refine z2 ?_ ?_<;>intros
   .have e3:o4 x o i hd w (.d er)=.t5 i w er .l:=by show(if er=0 then an.t6 i hd w .a else .t5 i w er (aZ.new x.j i o.c))=_;rw[if_neg am,aZ.dy hi am]
    exact aa (e2.trans (Prod.ext e3 rfl)) (.t5 (lm:=[_,_]) bR am (.l hi) rfl) rfl HQ
   .have e3:o4 x o i hd w (.d er)=.t6 i hd w .a:=by show(if er=0 then an.t6 i hd w .a else .t5 i w er (aZ.new x.j i o.c))=_;rw[if_pos am]
    exact aa (e2.trans (Prod.ext e3 rfl)) (.t6 (lm:=[_]) bR (.a Bi) rfl) rfl HQ
  |_=>first|cases ho|skip
 .rw[Bool.not_eq_true] at ho;obtain⟨Kg,NT,p2,NU,e5,n2,al2,co2,N6,ly2,YO,LR,rfl⟩:=hl.row;simp only[Tw.rk,Tw.cs,Lb.cs,Ar.cs,Ep.cs,lA,lB];rw[ho];refine z1 ?_;have e3:an.step x o (.t4 i hd w z) y=(an.t4 i hd w a',x'):=e2.trans (Prod.ext (by cases a'<;>first|rfl|cases ho) rfl);exact aa e3 (.t4 bR rfl Bi hi dt hl ho) rfl HQ
theorem N7 {z:aZ}{i w e:Int}:DQ x o tv hg q b m vm y (.t5 i w e z):=by
 intro B0 S W R l ro hx hk hy h H;obtain⟨dT,cY,eO,fi,ff,fj,bz,dC,fk,fA,eR,fg,ng,mH⟩:=aO hx hk;cases h with
 |@t5 z i w e lm qm w2 a1 a2 a3 a5 a6 a7 a8 a9 a10 a11 a12 bR he h ho=>
 refine y1 H e_ ?_;intros;refine Vx.fV (A:=[_]) (λB W S H=>jL cY am am am hy h H) λa' x' l' e1 hl=>?_;have e2:an.step x o (.t5 i w e z) y=(if a'.over then an.d i w e false else .t5 i w e a',x'):=by show(if _ then _ else _,_)=_;rw[AW (c2:=0) dl dl,e1]
 cases ho:a'.over
 .refine z1 ?_;have e3:an.step x o (.t5 i w e z) y=(an.t5 i w e a',x'):=e2.trans (Prod.ext (if_neg (by rw[ho];simp)) rfl);exact aa e3 (.t5 bR he hl ho) rfl HQ
 .refine z1 ?_;all_goals first|(exfalso;omega)|exact aa (e2.trans (Prod.ext (if_pos ho) rfl)) (.d (λh=>absurd h he)) rfl HQ
theorem N8 {z:jZ}{i hd w:Int}:DQ x o tv hg q b m vm y (.t6 i hd w z):=by
 intro B0 S W R l ro hx hk hy h H;obtain⟨dT,cY,eO,fi,ff,fj,bz,dC,fk,fA,eR,fg,ng,mH⟩:=aO hx hk;cases h with
 |@t6 z i hd w lm qm a1 a2 a3 a4 a5 a6 a7 a8 a10 a11 a12 bR h ho=>
 refine y1 H e_ ?_;intros;refine Vx.fV (A:=[_]) (λB W S H=>EF eR hy h H) λa' x' l' e1 hl=>?_;have e2:an.step x o (.t6 i hd w z) y=(if a'.over then an.balance x i w else .t6 i hd w a',x'):=by show(if _ then _ else _,_)=_;rw[e1]
 cases ho:a'.over
 .refine z1 ?_;have e3:an.step x o (.t6 i hd w z) y=(an.t6 i hd w a',x'):=e2.trans (Prod.ext (if_neg (by rw[ho];simp)) rfl);exact aa e3 (.t6 bR hl ho) rfl HQ
 .refine z1 ?_;intros;next p l' hB=>exact aa (e2.trans (Prod.ext (if_pos ho) rfl)) (.oX (show jm x.t x.r o.c p 0 (.k (.p .a)) l' from hB) rfl) rfl HQ
theorem Kk {z:cN}{i w:Int}:DQ x o tv hg q b m vm y (.oX i w z):=by
 intro B0 S W R l ro hx hk hy h H;obtain⟨dT,cY,eO,fi,ff,fj,bz,dC,fk,fA,eR,fg,ng,mH⟩:=aO hx hk;cases h with
 |@oX z i w bp lm qm a1 a2 a3 a4 a5 a6 a7 a8 a9 a10 a11 h ho=>
 refine y1 H e_ ?_;refine Vx.fV (A:=[_]) (λB W S H=>H6 dT eO am hy ho h H) λa' x' l' e1 hl=>?_;have e2:an.step x o (.oX i w z) y=(if a'.over then an.d i w 0 false else .oX i w a',x'):=by show(if _ then _ else _,_)=_;rw[e1]
 by_cases ho:a'.over=true
 .obtain⟨Ty,Kg,NR,L2,Tz,e5,LR,rfl⟩:=hl.row;simp only[Rs.cZ];rw[ho];refine z1 ?_;all_goals first|(exfalso;omega)|exact aa (e2.trans (Prod.ext (if_pos ho) rfl)) (.d (λ_ _=>⟨rfl,rfl⟩)) rfl HQ
 .rw[Bool.not_eq_true] at ho;obtain⟨Ty,Kg,NR,L2,Tz,e5,LR,rfl⟩:=hl.row;simp only[Rs.cZ];rw[ho];refine z1 ?_;have e3:an.step x o (.oX i w z) y=(an.oX i w a',x'):=e2.trans (Prod.ext (if_neg (by rw[ho];simp)) rfl);exact aa e3 (.oX hl ho) rfl HQ
end
end
section
open an
section
variable{B0 S:AH}{W:List Nat}{R l:List Own}{ro:List aB}{m q:Nat}{vm tv:AV}{y:Me}{x:Xc}{o:Od}{b hg:Int}
theorem N9 (hx:x.ok) (hk:o.ok x) (hy:y.gd) (h:bU x o tv hg q b (.p1) l) (H:Cx B0 W S (l++(ai m vm y++R)) ro):
  aG EM (zF 21) [.ptr q 0,.ptr m 0] S λu S'=>∃ab,eW (bU x o tv hg q (an.cM x o (.p1))) an.over (an.step x o (.p1) y) (ai m vm) R u ab/\Cx B0 W S' ab ro:=by
 obtain⟨dT,cY,eO,fi,ff,fj,bz,dC,fk,fA,eR,fg,ng,mH⟩:=aO hx hk;cases h with
 |@p1 i w a1 a2 a3 a4 a5 a6 a7 a8 a9 a10 a11 a12 bR=>
 refine y3 H e_ ?_ ?_ ?_<;>intros
 .have hr:x.rd (y.word (x.own+o.c))=-1:=if_pos am;have e3:an.step x o .p1 y=(an.pick,y.ld (x.own+o.c)):=Prod.ext (if_neg (by rw[hr];omega)) rfl;next p l' hP=>exact aa e3 (.p2 am (show kp x.t o.c false p 0 (.p .a) l' from hP) rfl) rfl HQ
 .have hr:x.rd (y.word (x.own+o.c))=-1:=if_pos am;have e3:an.step x o .p1 y=(an.pick,y.ld (x.own+o.c)):=Prod.ext (if_neg (by rw[hr];omega)) rfl;next p l' hP=>exact aa e3 (.p2 am (show kp x.t o.c false p 0 (.p .a) l' from hP) rfl) rfl HQ
 .have hr:x.rd (y.word (x.own+o.c))=y.word (x.own+o.c)-1:=if_neg am;have e3:an.step x o .p1 y=(.d 0 0 11 false,y.ld (x.own+o.c)):=Prod.ext (if_pos (by rw[hr];omega)) rfl;exact aa (e3) (.d (λh=>absurd h dl)) rfl HQ
theorem N_ {z:dY}:DQ x o tv hg q b m vm y (.p2 z):=by
 intro B0 S W R l ro hx hk hy h H;obtain⟨dT,cY,eO,fi,ff,fj,bz,dC,fk,fA,eR,fg,ng,mH⟩:=aO hx hk;cases h with
 |@p2 z bp lm qm i w a1 a2 a3 a4 a5 a6 a7 a8 a9 a10 a12 bR h ho=>
 refine y1 H e_ ?_;refine Vx.fV (A:=[_]) (λB W S H=>Kh dT am hy ho h H) λa' x' l' e1 hl=>?_;have e2:an.step x o (.p2 z) y=(jl x o a',x'):=by show(jl x o _,_)=_;rw[e1]
 by_cases ho:a'.over=true
 .cases hl with
  |@d qc l9 mV p3 vF hK I7 bc lc h2=>
   cases h2 with
   |d=>
   simp only[Tw.wI,Tw.l8,Tw.cs,Lb.cs,Ar.cs,Ep.cs,lA,lB]
   (repeat' first|constructor|exact ZQ|intro _)
   all_goals apply zL
   .have e3:jl x o (.d vF hK I7)=.d 0 0 0 true:=by show(if I7=0 then(if hK<0\/x.j.f.size<=hK then an.d 0 0 5 false else .p3 hK vF (aZ.new x.j hK o.c)) else if o.k=4 then .d 0 0 0 true else .d 0 0 15 false)=_;rw[if_neg am,if_pos am]
    exact aa (e2.trans (Prod.ext e3 rfl)) (.d (λ_ h=>by cases h)) rfl HQ
   .have e3:jl x o (.d vF hK I7)=.d 0 0 15 false:=by show(if I7=0 then(if hK<0\/x.j.f.size<=hK then an.d 0 0 5 false else .p3 hK vF (aZ.new x.j hK o.c)) else if o.k=4 then .d 0 0 0 true else .d 0 0 15 false)=_;rw[if_neg am,if_neg am]
    exact aa (e2.trans (Prod.ext e3 rfl)) (.d (λh=>absurd h dl)) rfl HQ
   .have e3:jl x o (.d vF hK I7)=.d 0 0 5 false:=by show(if I7=0 then(if hK<0\/x.j.f.size<=hK then an.d 0 0 5 false else .p3 hK vF (aZ.new x.j hK o.c)) else if o.k=4 then .d 0 0 0 true else .d 0 0 15 false)=_;rw[if_pos am,if_pos am]
    exact aa (e2.trans (Prod.ext e3 rfl)) (.d (λh=>absurd h dl)) rfl HQ
   .have e3:jl x o (.d vF hK I7)=.d 0 0 5 false:=by show(if I7=0 then(if hK<0\/x.j.f.size<=hK then an.d 0 0 5 false else .p3 hK vF (aZ.new x.j hK o.c)) else if o.k=4 then .d 0 0 0 true else .d 0 0 15 false)=_;rw[if_pos am,if_pos am]
    exact aa (e2.trans (Prod.ext e3 rfl)) (.d (λh=>absurd h dl)) rfl HQ
   .have hj:0<=hK/\hK<x.j.f.size:=am;have e3:jl x o (.d vF hK I7)=.p3 hK vF .l:=by show(if I7=0 then(if hK<0\/x.j.f.size<=hK then an.d 0 0 5 false else .p3 hK vF (aZ.new x.j hK o.c)) else if o.k=4 then .d 0 0 0 true else .d 0 0 15 false)=_;rw[if_pos am,if_neg am,aZ.dy hj am]
    exact aa (e2.trans (Prod.ext e3 rfl)) (.p3 (lm:=[_,_]) hj (.l hj) rfl) rfl HQ
  |_=>first|cases ho|skip
 .rw[Bool.not_eq_true] at ho;obtain⟨Kg,NT,p2,NU,nX,LR,rfl⟩:=hl.row;simp only[Tw.wI,Tw.cs,Lb.cs,Ar.cs,Ep.cs,lA,lB];rw[ho];refine z1 ?_;have e3:an.step x o (.p2 z) y=(an.p2 a',x'):=e2.trans (Prod.ext (by cases a'<;>first|rfl|cases ho) rfl);exact aa e3 (.p2 bR hl ho) rfl HQ
theorem Oa {z:aZ}{i w:Int}:DQ x o tv hg q b m vm y (.p3 i w z):=by
 intro B0 S W R l ro hx hk hy h H;obtain⟨dT,cY,eO,fi,ff,fj,bz,dC,fk,fA,eR,fg,ng,mH⟩:=aO hx hk;cases h with
 |@p3 z i w lm qm a1 a2 a3 a5 a6 a7 a8 a9 a10 a11 a12 hi h ho=>
 refine y1 H e_ ?_;refine Vx.fV (A:=[_]) (λB W S H=>jL cY am am am hy h H) λa' x' l' e1 hl=>?_;have e2:an.step x o (.p3 i w z) y=(if a'.over then an.p4 i w else .p3 i w a',x'):=by show(if _ then _ else _,_)=_;rw[e1]
 cases ho:a'.over
 .refine z1 ?_;have e3:an.step x o (.p3 i w z) y=(an.p3 i w a',x'):=e2.trans (Prod.ext (if_neg (by rw[ho];simp)) rfl);exact aa e3 (.p3 hi hl ho) rfl HQ
 .refine z1 ?_;all_goals first|(exfalso;omega)|exact aa (e2.trans (Prod.ext (if_pos ho) rfl)) (.p4 hi) rfl HQ
theorem Ob {i w:Int}:DQ x o tv hg q b m vm y (.p4 i w):=by
 intro B0 S W R l ro hx hk hy h H;obtain⟨dT,cY,eO,fi,ff,fj,bz,dC,fk,fA,eR,fg,ng,mH⟩:=aO hx hk;cases h with
 |@p4 i w a1 a2 a3 a4 a5 a6 a7 a8 a9 a10 a11 a12 hi=>
 refine y1 H e_ ?_;rw[show(i+1)%18446744073709551616=i+1 by omega];exact aa rfl .p5 rfl HQ
theorem Oc {i w:Int}:DQ x o tv hg q b m vm y (.p5 i w):=by
 intro B0 S W R l ro hx hk hy h H;obtain⟨dT,cY,eO,fi,ff,fj,bz,dC,fk,fA,eR,fg,ng,mH⟩:=aO hx hk;cases h with
 |@p5 i w a1 a2 a3 a4 a5 a6 a7 a8 a9 a10 a11 a12=>
 refine y1 H e_ ?_;intros;next p l' hB=>exact aa rfl (.oX (show jm x.t x.r o.c p 0 (.k (.p .a)) l' from hB) rfl) rfl HQ
theorem Oe (hx:x.ok) (hk:o.ok x) (hy:y.gd) (h:bU x o tv hg q b (.s1) l) (H:Cx B0 W S (l++(ai m vm y++R)) ro):
  aG EM (zF 21) [.ptr q 0,.ptr m 0] S λu S'=>∃ab,eW (bU x o tv hg q (an.cM x o (.s1))) an.over (an.step x o (.s1) y) (ai m vm) R u ab/\Cx B0 W S' ab ro:=by
 obtain⟨dT,cY,eO,fi,ff,fj,bz,dC,fk,fA,eR,fg,ng,mH⟩:=aO hx hk;cases h with
 |@s1 i w a1 a2 a3 a4 a5 a6 a7 a8 a9 a10 a11 a12 bR hh=>
 subst hh;refine y2 H e_ ?_ ?_<;>intros
 .exact aa (Prod.ext (if_pos am) rfl) (.d (λh=>absurd h dl)) rfl HQ
 .exact aa (Prod.ext (if_neg am) rfl) (.s2 bR rfl) rfl HQ
theorem Of (hx:x.ok) (hk:o.ok x) (hy:y.gd) (h:bU x o tv hg q b (.s2) l) (H:Cx B0 W S (l++(ai m vm y++R)) ro):
  aG EM (zF 21) [.ptr q 0,.ptr m 0] S λu S'=>∃ab,eW (bU x o tv hg q (an.cM x o (.s2))) an.over (an.step x o (.s2) y) (ai m vm) R u ab/\Cx B0 W S' ab ro:=by
 obtain⟨dT,cY,eO,fi,ff,fj,bz,dC,fk,fA,eR,fg,ng,mH⟩:=aO hx hk;cases h with
 |@s2 i w a1 a2 a3 a4 a5 a6 a7 a8 a9 a10 a11 a12 bR hh=>
 subst hh;refine y1 H e_ ?_;intros;exact aa rfl (.s3 bR rfl) rfl HQ
theorem Og (hx:x.ok) (hk:o.ok x) (hy:y.gd) (h:bU x o tv hg q b (.s3) l) (H:Cx B0 W S (l++(ai m vm y++R)) ro):
  aG EM (zF 21) [.ptr q 0,.ptr m 0] S λu S'=>∃ab,eW (bU x o tv hg q (an.cM x o (.s3))) an.over (an.step x o (.s3) y) (ai m vm) R u ab/\Cx B0 W S' ab ro:=by
 obtain⟨dT,cY,eO,fi,ff,fj,bz,dC,fk,fA,eR,fg,ng,mH⟩:=aO hx hk;cases h with
 |@s3 i w a1 a2 a3 a4 a5 a6 a7 a8 a9 a10 a11 a12 bR hh=>
 subst hh;refine y3 H e_ ?_ ?_ ?_<;>intros
 .have hr:x.rd (y.word (x.own+o.c))=-1:=if_pos am;have e3:an.step x o .s3 y=(an.pick,y.ld (x.own+o.c)):=Prod.ext (if_pos (by rw[hr];omega)) rfl;next p l' hP=>exact aa e3 (.p2 am (show kp x.t o.c false p 0 (.p .a) l' from hP) rfl) rfl HQ
 .have hr:x.rd (y.word (x.own+o.c))=-1:=if_pos am;have e3:an.step x o .s3 y=(an.pick,y.ld (x.own+o.c)):=Prod.ext (if_pos (by rw[hr];omega)) rfl;next p l' hP=>exact aa e3 (.p2 am (show kp x.t o.c false p 0 (.p .a) l' from hP) rfl) rfl HQ
 .have hr:x.rd (y.word (x.own+o.c))=y.word (x.own+o.c)-1:=if_neg am;have hi:0<=y.word (x.own+o.c)-1/\y.word (x.own+o.c)-1<x.j.f.size:=am;have e3:an.step x o .s3 y=(.s4 (y.word (x.own+o.c)-1) .a,y.ld (x.own+o.c)):=by show(if x.rd (y.word (x.own+o.c))<0 then an.pick else .s4 (x.rd (y.word (x.own+o.c))) (bF.new x.j (x.rd (y.word (x.own+o.c)))),_)=_;rw[hr,if_neg am,bF.dy hi]
  exact aa (e3) (.s4 (lm:=[_]) bR rfl hi (.a hi) rfl) rfl HQ
end
end
end Go.cO
