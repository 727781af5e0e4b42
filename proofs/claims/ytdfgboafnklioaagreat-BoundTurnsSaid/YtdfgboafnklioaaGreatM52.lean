/- Contracts. Conditions: in each theorem. -/
import Derived.Test.YtdfgboafnklioaaGreatM50
import Derived.Test.YtdfgboafnklioaaGreatM51
set_option linter.all false
set_option maxRecDepth 100000
set_option maxHeartbeats 4000000
namespace Go.cO
open Go.Proofs
section
open an
section
variable{B0 S:AH}{W:List Nat}{R l:List Own}{ro:List aB}{m q:Nat}{vm tv:AV}{y:Me}{x:Xc}{o:Od}{b hg:Int}
theorem Oh {z:bF}{i:Int}:DQ x o tv hg q b m vm y (.s4 i z):=by
 intro B0 S W R l ro hx hk hy h H;obtain⟨dT,cY,eO,fi,ff,fj,bz,dC,fk,fA,eR,fg,ng,mH⟩:=aO hx hk;cases h with
 |@s4 z i lm qm w a1 a2 a3 a4 a5 a7 a8 a9 a10 a11 a12 bR hh hi h ho=>
 subst hh;refine y1 H e_ ?_;intros;refine Vx.fV (A:=[_]) (λB W S H=>pV cY hy h H) λa' x' l' e1 hl=>?_;have e2:an.step x o (.s4 i z) y=(lY x o i a',x'):=by show(lY x o i _,_)=_;rw[e1]
 cases ho:a'.over
 .refine z1 ?_;have e3:an.step x o (.s4 i z) y=(an.s4 i a',x'):=e2.trans (Prod.ext (by cases a'<;>first|rfl|cases ho) rfl);exact aa e3 (.s4 bR rfl hi hl ho) rfl HQ
 .cases hl with
  |@d w2 EK=>
   refine z3 ?_ ?_ ?_<;>intros
   .have hb:b_ w2:=Decidable.byContradiction λh=>by simp[h] at*
    have e3:lY x o i (.d w2 0)=.d 0 0 5 false:=by show(if b_ w2 then an.d 0 0 5 false else if w2%65536=65535 then .d 0 0 12 false else .s5 i w2 (aZ.new x.j i o.c))=_;rw[if_pos hb]
    exact aa (e2.trans (Prod.ext e3 rfl)) (.d (λh=>absurd h dl)) rfl HQ
   .next hz _=>
    have hb:¬b_ w2:=λh=>by simp[h] at*
    have hz:w2%65536=65535:=by simpa[hb] using(by assumption:(if b_ w2 then 0 else w2%65536)=65535)
    have e3:lY x o i (.d w2 0)=.d 0 0 12 false:=by show(if b_ w2 then an.d 0 0 5 false else if w2%65536=65535 then .d 0 0 12 false else .s5 i w2 (aZ.new x.j i o.c))=_;rw[if_neg hb,if_pos hz]
    exact aa (e2.trans (Prod.ext e3 rfl)) (.d (λh=>absurd h dl)) rfl HQ
   .have hb:¬b_ w2:=λh=>by simp[h] at*
    have hz:¬w2%65536=65535:=by simpa[hb] using(by assumption:¬(if b_ w2 then 0 else w2%65536)=65535)
    have e3:lY x o i (.d w2 0)=.s5 i w2 .l:=by show(if b_ w2 then an.d 0 0 5 false else if w2%65536=65535 then .d 0 0 12 false else .s5 i w2 (aZ.new x.j i o.c))=_;rw[if_neg hb,if_neg hz,aZ.dy hi am]
    exact aa (e2.trans (Prod.ext e3 rfl)) (.s5 (lm:=[_,_]) bR rfl hi ⟨EK,hb⟩ (.l hi) rfl) rfl HQ
  |_=>cases ho
theorem Oi {z:aZ}{i w:Int}:DQ x o tv hg q b m vm y (.s5 i w z):=by
 intro B0 S W R l ro hx hk hy h H;obtain⟨dT,cY,eO,fi,ff,fj,bz,dC,fk,fA,eR,fg,ng,mH⟩:=aO hx hk;cases h with
 |@s5 z i w lm qm a1 a2 a3 a5 a6 a7 a8 a9 a10 a11 a12 bR hh hi dt h ho=>
 subst hh;have Tx:0<=w/\w<18446744073709551615:=by have:=dt.1;have:=dt.2;unfold Me.ar b_ at*;omega
 have Jp:0<=(w+1)%18446744073709551616/\(w+1)%18446744073709551616<18446744073709551615:=by have:=dt.1;have:=dt.2;unfold Me.ar b_ at*;omega
 refine y1 H e_ ?_;intros;refine Vx.fV (A:=[_]) (λB W S H=>jL cY am am am hy h H) λa' x' l' e1 hl=>?_;have e2:an.step x o (.s5 i w z) y=(if a'.over then an.s6 i w else .s5 i w a',x'):=by show(if _ then _ else _,_)=_;rw[e1]
 cases ho:a'.over
 .refine z1 ?_;have e3:an.step x o (.s5 i w z) y=(an.s5 i w a',x'):=e2.trans (Prod.ext (if_neg (by rw[ho];simp)) rfl);exact aa e3 (.s5 bR rfl hi dt hl ho) rfl HQ
 .refine z1 ?_;all_goals first|(exfalso;omega)|exact aa (e2.trans (Prod.ext (if_pos ho) rfl)) (.s6 bR rfl hi dt) rfl HQ
theorem Oj {i w:Int}:DQ x o tv hg q b m vm y (.s6 i w):=by
 intro B0 S W R l ro hx hk hy h H;obtain⟨dT,cY,eO,fi,ff,fj,bz,dC,fk,fA,eR,fg,ng,mH⟩:=aO hx hk;cases h with
 |@s6 i w a1 a2 a3 a4 a5 a6 a7 a8 a9 a10 a11 a12 bR hh hi dt=>
 subst hh;have Tx:0<=w/\w<18446744073709551615:=by have:=dt.1;have:=dt.2;unfold Me.ar b_ at*;omega
 have Jp:0<=(w+1)%18446744073709551616/\(w+1)%18446744073709551616<18446744073709551615:=by have:=dt.1;have:=dt.2;unfold Me.ar b_ at*;omega
 refine y1 H e_ ?_;intros;have e3:an.step x o (.s6 i w) y=(.s7 i w .a,y.st (x.r.runs+o.c) 18446744073709551615):=by show(an.s7 i w (bF.new x.j i),_)=_;rw[bF.dy hi]
 exact aa (e3) (.s7 (lm:=[_]) bR rfl hi dt (.a hi) rfl) rfl HQ
theorem Ok {z:bF}{i w:Int}:DQ x o tv hg q b m vm y (.s7 i w z):=by
 intro B0 S W R l ro hx hk hy h H;obtain⟨dT,cY,eO,fi,ff,fj,bz,dC,fk,fA,eR,fg,ng,mH⟩:=aO hx hk;cases h with
 |@s7 z i w lm qm a1 a2 a3 a4 a6 a7 a8 a9 a10 a11 a12 bR hh hi dt h ho=>
 subst hh;have Tx:0<=w/\w<18446744073709551615:=by have:=dt.1;have:=dt.2;unfold Me.ar b_ at*;omega
 have Jp:0<=(w+1)%18446744073709551616/\(w+1)%18446744073709551616<18446744073709551615:=by have:=dt.1;have:=dt.2;unfold Me.ar b_ at*;omega
 refine y1 H e_ ?_;intros;refine Vx.fV (A:=[_]) (λB W S H=>vE cY hy h H) λa' x' l' e1 hl=>?_;have e2:an.step x o (.s7 i w z) y=(if a'.over then an.s8 i w (.p .a 0) else .s7 i w a',x'):=by show(if _ then _ else _,_)=_;rw[e1]
 cases ho:a'.over
 .refine z1 ?_;have e3:an.step x o (.s7 i w z) y=(an.s7 i w a',x'):=e2.trans (Prod.ext (if_neg (by rw[ho];simp)) rfl);exact aa e3 (.s7 bR rfl hi dt hl ho) rfl HQ
 .refine z1 ?_;intros;next p l' hP=>exact aa (e2.trans (Prod.ext (if_pos ho) rfl)) (.s8 bR rfl hi dt (show gW x.t o.c ((w+1)%18446744073709551616) i o.high p 0 (.p .a 0) l' from hP) rfl) rfl HQ
theorem Ol {z:aI}{i w:Int}:DQ x o tv hg q b m vm y (.s8 i w z):=by
 intro B0 S W R l ro hx hk hy h H;obtain⟨dT,cY,eO,fi,ff,fj,bz,dC,fk,fA,eR,fg,ng,mH⟩:=aO hx hk;cases h with
 |@s8 z i w bp lm qm a1 a2 a3 a4 a5 a6 a7 a8 a9 a11 a12 bR hh hi dt h ho=>
 subst hh;have Tx:0<=w/\w<18446744073709551615:=by have:=dt.1;have:=dt.2;unfold Me.ar b_ at*;omega
 have Jp:0<=(w+1)%18446744073709551616/\(w+1)%18446744073709551616<18446744073709551615:=by have:=dt.1;have:=dt.2;unfold Me.ar b_ at*;omega
 refine y1 H e_ ?_;intros;refine Vx.fV (A:=[_]) (λB W S H=>AU dT am ⟨am,am,am⟩ hy ho (by unfold Me.ar;omega) h H) λa' x' l' e1 hl=>?_;have e2:an.step x o (.s8 i w z) y=(o5 x o i w a',x'):=by show(o5 x o i w _,_)=_;rw[e1]
 by_cases ho:a'.over=true
 .cases hl with
  |@d l9 mV al co ly ins n2 p2 N6 er=>
   simp only[Tw.rk,Tw.cs,Lb.cs,Ar.cs,Ep.cs,lA,lB];refine z2 ?_ ?_<;>intros
   .have e3:o5 x o i w (.d er)=.b1 i w er .a:=by show(if er=0 then an.s9 i w else .b1 i w er (bF.new x.j i))=_;rw[if_neg am,bF.dy hi]
    exact aa (e2.trans (Prod.ext e3 rfl)) (.b1 (lm:=[_]) bR hi am (.a hi) rfl) rfl HQ
   .have e3:o5 x o i w (.d er)=.s9 i w:=by show(if er=0 then an.s9 i w else .b1 i w er (bF.new x.j i))=_;rw[if_pos am]
    exact aa (e2.trans (Prod.ext e3 rfl)) (.s9 bR) rfl HQ
  |_=>first|cases ho|skip
 .rw[Bool.not_eq_true] at ho;obtain⟨Kg,NT,p2,NU,e5,n2,al2,co2,N6,ly2,YO,LR,rfl⟩:=hl.row;simp only[Tw.rk,Tw.cs,Lb.cs,Ar.cs,Ep.cs,lA,lB];rw[ho];refine z1 ?_;have e3:an.step x o (.s8 i w z) y=(an.s8 i w a',x'):=e2.trans (Prod.ext (by cases a'<;>first|rfl|cases ho) rfl);exact aa e3 (.s8 bR rfl hi dt hl ho) rfl HQ
theorem Om {i w:Int}:DQ x o tv hg q b m vm y (.s9 i w):=by
 intro B0 S W R l ro hx hk hy h H;obtain⟨dT,cY,eO,fi,ff,fj,bz,dC,fk,fA,eR,fg,ng,mH⟩:=aO hx hk;cases h with
 |@s9 i w a1 a2 a3 a4 a5 a6 a7 a8 a9 a10 a11 a12 bR=>
 refine y1 H e_ ?_;intros;next p l' hP=>exact aa rfl (.p2 am (show kp x.t o.c false p 0 (.p .a) l' from hP) rfl) rfl HQ
end
end
section
open an
section
variable{B0 S:AH}{W:List Nat}{R l:List Own}{ro:List aB}{m q:Nat}{vm tv:AV}{y:Me}{x:Xc}{o:Od}{b hg:Int}
theorem On {z:bF}{i w e:Int}:DQ x o tv hg q b m vm y (.b1 i w e z):=by
 intro B0 S W R l ro hx hk hy h H;obtain⟨dT,cY,eO,fi,ff,fj,bz,dC,fk,fA,eR,fg,ng,mH⟩:=aO hx hk;cases h with
 |@b1 z i w e lm qm a1 a2 a3 a4 a6 a7 a8 a9 a10 a11 a12 bR hi he h ho=>
 refine y1 H e_ ?_;intros;refine Vx.fV (A:=[_]) (λB W S H=>vE cY hy h H) λa' x' l' e1 hl=>?_;have e2:an.step x o (.b1 i w e z) y=(if a'.over then an.b2 i w e (.new x.j i o.c) else .b1 i w e a',x'):=by show(if _ then _ else _,_)=_;rw[e1]
 cases ho:a'.over
 .refine z1 ?_;have e3:an.step x o (.b1 i w e z) y=(an.b1 i w e a',x'):=e2.trans (Prod.ext (if_neg (by rw[ho];simp)) rfl);exact aa e3 (.b1 bR hi he hl ho) rfl HQ
 .refine z1 ?_;intros;exact aa (e2.trans (Prod.ext ((if_pos ho).trans (congrArg (an.b2 i w e) (aZ.dy hi am))) rfl)) (.b2 (lm:=[_,_]) bR he (.l hi) rfl) rfl HQ
theorem Oo {z:aZ}{i w e:Int}:DQ x o tv hg q b m vm y (.b2 i w e z):=by
 intro B0 S W R l ro hx hk hy h H;obtain⟨dT,cY,eO,fi,ff,fj,bz,dC,fk,fA,eR,fg,ng,mH⟩:=aO hx hk;cases h with
 |@b2 z i w e lm qm a1 a2 a3 a5 a6 a7 a8 a9 a10 a11 a12 bR he h ho=>
 refine y1 H e_ ?_;intros;refine Vx.fV (A:=[_]) (λB W S H=>jL cY am am am hy h H) λa' x' l' e1 hl=>?_;have e2:an.step x o (.b2 i w e z) y=(if a'.over then an.b3 i w e else .b2 i w e a',x'):=by show(if _ then _ else _,_)=_;rw[e1]
 cases ho:a'.over
 .refine z1 ?_;have e3:an.step x o (.b2 i w e z) y=(an.b2 i w e a',x'):=e2.trans (Prod.ext (if_neg (by rw[ho];simp)) rfl);exact aa e3 (.b2 bR he hl ho) rfl HQ
 .refine z1 ?_;all_goals first|(exfalso;omega)|exact aa (e2.trans (Prod.ext (if_pos ho) rfl)) (.b3 bR he) rfl HQ
theorem Oq {i w e:Int}:DQ x o tv hg q b m vm y (.b3 i w e):=by
 intro B0 S W R l ro hx hk hy h H;obtain⟨dT,cY,eO,fi,ff,fj,bz,dC,fk,fA,eR,fg,ng,mH⟩:=aO hx hk;cases h with
 |@b3 i w e a1 a2 a3 a4 a5 a6 a7 a8 a9 a10 a11 a12 bR he=>
 refine y1 H e_ ?_;intros;exact aa rfl (.b4 bR he) rfl HQ
theorem Ot {i w e:Int}:DQ x o tv hg q b m vm y (.b4 i w e):=by
 intro B0 S W R l ro hx hk hy h H;obtain⟨dT,cY,eO,fi,ff,fj,bz,dC,fk,fA,eR,fg,ng,mH⟩:=aO hx hk;cases h with
 |@b4 i w e a1 a2 a3 a4 a5 a6 a7 a8 a9 a10 a11 a12 bR he=>
 refine y1 H e_ ?_;intros;exact aa rfl (.d (λh=>absurd h he)) rfl HQ
theorem Ou (hx:x.ok) (hk:o.ok x) (hy:y.gd) (h:bU x o tv hg q b (.c1) l) (H:Cx B0 W S (l++(ai m vm y++R)) ro):
  aG EM (zF 21) [.ptr q 0,.ptr m 0] S λu S'=>∃ab,eW (bU x o tv hg q (an.cM x o (.c1))) an.over (an.step x o (.c1) y) (ai m vm) R u ab/\Cx B0 W S' ab ro:=by
 obtain⟨dT,cY,eO,fi,ff,fj,bz,dC,fk,fA,eR,fg,ng,mH⟩:=aO hx hk;cases h with
 |@c1 i w a1 a2 a3 a4 a5 a6 a7 a8 a9 a10 a11 a12 bR=>
 refine y3 H e_ ?_ ?_ ?_<;>intros
 .have hr:x.rd (y.word (x.own+o.c))=-1:=if_pos am;have e3:an.step x o .c1 y=(.d 0 0 15 false,y.ld (x.own+o.c)):=Prod.ext (if_pos (by rw[hr];omega)) rfl;exact aa (e3) (.d (λh=>absurd h dl)) rfl HQ
 .have hr:x.rd (y.word (x.own+o.c))=-1:=if_pos am;have e3:an.step x o .c1 y=(.d 0 0 15 false,y.ld (x.own+o.c)):=Prod.ext (if_pos (by rw[hr];omega)) rfl;exact aa (e3) (.d (λh=>absurd h dl)) rfl HQ
 .have hr:x.rd (y.word (x.own+o.c))=y.word (x.own+o.c)-1:=if_neg am;have hi:0<=y.word (x.own+o.c)-1/\y.word (x.own+o.c)-1<x.j.f.size:=am;have e3:an.step x o .c1 y=(.c2 (y.word (x.own+o.c)-1) .a,y.ld (x.own+o.c)):=by show(if x.rd (y.word (x.own+o.c))<0 then an.d 0 0 15 false else .c2 (x.rd (y.word (x.own+o.c))) (bF.new x.j (x.rd (y.word (x.own+o.c)))),_)=_;rw[hr,if_neg am,bF.dy hi]
  exact aa (e3) (.c2 (lm:=[_]) bR hi (.a hi) rfl) rfl HQ
theorem Ov {z:bF}{i:Int}:DQ x o tv hg q b m vm y (.c2 i z):=by
 intro B0 S W R l ro hx hk hy h H;obtain⟨dT,cY,eO,fi,ff,fj,bz,dC,fk,fA,eR,fg,ng,mH⟩:=aO hx hk;cases h with
 |@c2 z i lm qm w a1 a2 a3 a4 a5 a7 a8 a9 a10 a11 a12 bR hi h ho=>
 refine y1 H e_ ?_;intros;refine Vx.fV (A:=[_]) (λB W S H=>pV cY hy h H) λa' x' l' e1 hl=>?_;have e2:an.step x o (.c2 i z) y=(qR x o i a',x'):=by show(qR x o i _,_)=_;rw[e1]
 cases ho:a'.over
 .refine z1 ?_;have e3:an.step x o (.c2 i z) y=(an.c2 i a',x'):=e2.trans (Prod.ext (by cases a'<;>first|rfl|cases ho) rfl);exact aa e3 (.c2 bR hi hl ho) rfl HQ
 .cases hl with
  |@d w2 EK=>
   refine z1 ?_;intros;have e3:qR x o i (.d w2 0)=.c3 i w2 .l:=by show an.c3 i w2 (aZ.new x.j i o.c)=_;rw[aZ.dy hi am]
   exact aa (e2.trans (Prod.ext e3 rfl)) (.c3 (lm:=[_,_]) bR hi (.l hi) rfl) rfl HQ
  |_=>cases ho
theorem Ow {z:aZ}{i w:Int}:DQ x o tv hg q b m vm y (.c3 i w z):=by
 intro B0 S W R l ro hx hk hy h H;obtain⟨dT,cY,eO,fi,ff,fj,bz,dC,fk,fA,eR,fg,ng,mH⟩:=aO hx hk;cases h with
 |@c3 z i w lm qm a1 a2 a3 a5 a6 a7 a8 a9 a10 a11 a12 bR hi h ho=>
 refine y1 H e_ ?_;intros;refine Vx.fV (A:=[_]) (λB W S H=>jL cY am am am hy h H) λa' x' l' e1 hl=>?_;have e2:an.step x o (.c3 i w z) y=(if a'.over then an.c4 i w else .c3 i w a',x'):=by show(if _ then _ else _,_)=_;rw[e1]
 cases ho:a'.over
 .refine z1 ?_;have e3:an.step x o (.c3 i w z) y=(an.c3 i w a',x'):=e2.trans (Prod.ext (if_neg (by rw[ho];simp)) rfl);exact aa e3 (.c3 bR hi hl ho) rfl HQ
 .refine z1 ?_;all_goals first|(exfalso;omega)|exact aa (e2.trans (Prod.ext (if_pos ho) rfl)) (.c4 bR hi) rfl HQ
theorem Ox {i w:Int}:DQ x o tv hg q b m vm y (.c4 i w):=by
 intro B0 S W R l ro hx hk hy h H;obtain⟨dT,cY,eO,fi,ff,fj,bz,dC,fk,fA,eR,fg,ng,mH⟩:=aO hx hk;cases h with
 |@c4 i w a1 a2 a3 a4 a5 a6 a7 a8 a9 a10 a11 a12 bR hi=>
 refine y1 H e_ ?_;intros;exact aa rfl (.c5 bR hi) rfl HQ
theorem Oy {i w:Int}:DQ x o tv hg q b m vm y (.c5 i w):=by
 intro B0 S W R l ro hx hk hy h H;obtain⟨dT,cY,eO,fi,ff,fj,bz,dC,fk,fA,eR,fg,ng,mH⟩:=aO hx hk;cases h with
 |@c5 i w a1 a2 a3 a4 a5 a6 a7 a8 a9 a10 a11 a12 bR hi=>
 refine y1 H e_ ?_;intros;have e3:an.step x o (.c5 i w) y=(.c6 i w .l,y.st (x.r.runs+o.c) 18446744073709551615):=by show(an.c6 i w (cX.new x.j i),_)=_;rw[cX.dy hi]
 exact aa (e3) (.c6 (lm:=[_,_]) bR (.l hi) rfl) rfl HQ
theorem Oz {z:cX}{i w:Int}:DQ x o tv hg q b m vm y (.c6 i w z):=by
 intro B0 S W R l ro hx hk hy h H;obtain⟨dT,cY,eO,fi,ff,fj,bz,dC,fk,fA,eR,fg,ng,mH⟩:=aO hx hk;cases h with
 |@c6 z i w lm qm a1 a2 a4 a5 a6 a7 a8 a9 a10 a11 a12 bR h ho=>
 refine y1 H e_ ?_;intros;refine Vx.fV (A:=[_]) (λB W S H=>xr cY hy h H) λa' x' l' e1 hl=>?_;have e2:an.step x o (.c6 i w z) y=(if a'.over then an.balance x i w else .c6 i w a',x'):=by show(if _ then _ else _,_)=_;rw[e1]
 cases ho:a'.over
 .refine z1 ?_;have e3:an.step x o (.c6 i w z) y=(an.c6 i w a',x'):=e2.trans (Prod.ext (if_neg (by rw[ho];simp)) rfl);exact aa e3 (.c6 bR hl ho) rfl HQ
 .refine z1 ?_;intros;next p l' hB=>exact aa (e2.trans (Prod.ext (if_pos ho) rfl)) (.oX (show jm x.t x.r o.c p 0 (.k (.p .a)) l' from hB) rfl) rfl HQ
end
end
section
variable{B0 S:AH}{W:List Nat}{R l:List Own}{ro:List aB}{m q:Nat}{vm tv:AV}{y:Me}{x:Xc}{o:Od}{b hg:Int}
theorem Kl {σ:an}(hx:x.ok)(hk:o.ok x)(hy:y.gd)(ht:o.k=1->∃(L:List (List AV)) (c:List AV),aB.sl tv 4 L∈ro/\L[o.tk.toNat]?=some c/\c[1]?=some (I o.prio))(h:bU x o tv hg q b σ l)(H:Cx B0 W S (l++(ai m vm y++R)) ro):
  aG EM (zF 21) [.ptr q 0,.ptr m 0] S λu S'=>∃ab,eW (bU x o tv hg q (if σ.over then b else σ.cM x o)) an.over (σ.step x o y) (ai m vm) R u ab/\Cx B0 W S' ab ro:=by
 cases σ with
 |d i w e n=>
  cases h with
  |d hw=>
   refine y1 H e_ ?_;exact aa rfl (.d hw) rfl HQ
 |r3 i=>
  have h1:o.k=1:=by cases h;assumption
  exact NX hx hk hy (ht h1) h H
 |r1=>exact NV hx hk hy h H
 |r2=>exact NW hx hk hy h H
 |r4=>exact NY hx hk hy h H
 |r5=>exact NZ hx hk hy h H
 |r6=>exact N1 hx hk hy h H
 |t1=>exact N2 hx hk hy h H
 |t2=>exact N3 hx hk hy h H
 |t3=>exact N4 hx hk hy h H
 |t4=>exact N5 hx hk hy h H
 |t5=>exact N7 hx hk hy h H
 |t6=>exact N8 hx hk hy h H
 |oX=>exact Kk hx hk hy h H
 |p1=>exact N9 hx hk hy h H
 |p2=>exact N_ hx hk hy h H
 |p3=>exact Oa hx hk hy h H
 |p4=>exact Ob hx hk hy h H
 |p5=>exact Oc hx hk hy h H
 |s1=>exact Oe hx hk hy h H
 |s2=>exact Of hx hk hy h H
 |s3=>exact Og hx hk hy h H
 |s4=>exact Oh hx hk hy h H
 |s5=>exact Oi hx hk hy h H
 |s6=>exact Oj hx hk hy h H
 |s7=>exact Ok hx hk hy h H
 |s8=>exact Ol hx hk hy h H
 |s9=>exact Om hx hk hy h H
 |b1=>exact On hx hk hy h H
 |b2=>exact Oo hx hk hy h H
 |b3=>exact Oq hx hk hy h H
 |b4=>exact Ot hx hk hy h H
 |c1=>exact Ou hx hk hy h H
 |c2=>exact Ov hx hk hy h H
 |c3=>exact Ow hx hk hy h H
 |c4=>exact Ox hx hk hy h H
 |c5=>exact Oy hx hk hy h H
 |c6=>exact Oz hx hk hy h H
end
end Go.cO
