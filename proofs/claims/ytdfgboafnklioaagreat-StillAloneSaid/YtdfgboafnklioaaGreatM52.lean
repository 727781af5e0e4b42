/- Contracts of functions, over the abstract machine. Conditions: stated in each theorem. -/
import Derived.Test.YtdfgboafnklioaaGreatM50
import Derived.Test.YtdfgboafnklioaaGreatM51
set_option linter.all false
set_option maxRecDepth 100000
set_option maxHeartbeats 4000000
namespace Go.cY
open Go.Proofs
section
open av
section
variable{B0 S:AH}{W:List Nat}{R l:List Own}{ro:List aQ}{m q:Nat}{vm tv:AV}{y:Me}{x:Xc}{o:Od}{b hg:Int}
theorem L3 {z}{i:Int}:DQ x o tv hg q b m vm y (.s4 i z):=by
 intro B0 S W R l ro hx hk hy h H
 obtain⟨dD,cG,eu,eO,eL,eP,bq,da,eQ,eY,dX,eM,ml,lQ⟩:=aK hx hk
 cases h with
 |@s4 z i lm qm w a1 a2 a3 a4 a5 a7 a8 a9 a10 a11 a12 bK hh hi h ho=>
 subst hh
 refine Vx.fm H eH (b:=Tryz.a21) ?_;(repeat' first|constructor|exact ZQ|intro _);all_goals apply zL
 refine Vx.fz (A:=[_]) (fun B W S H=>oT cG hy h H) fun a' x' l' e1 hl=>?_
 have e2:av.step x o (.s4 i z) y=(l9 x o i a',x'):=by
  show(l9 x o i _,_)=_
  rw[e1]
 cases ho:a'.over
 ·(repeat' first|constructor|exact ZQ|intro _)
  all_goals apply zL
  have e3:av.step x o (.s4 i z) y=(av.s4 i a',x'):=e2.trans (Prod.ext (by cases a'<;>first|rfl|cases ho) rfl)
  exact aa e3 (.s4 bK rfl hi hl ho) rfl HQ
 ·cases hl with
  |@d w2 JJ=>
   (repeat' first|constructor|exact ZQ|intro _)
   all_goals apply zL
   ·have hb:bU w2:=Decidable.byContradiction fun h=>by simp[h] at*
    have e3:l9 x o i (.d w2 0)=.d 0 0 5 false:=by
     show(if bU w2 then av.d 0 0 5 false else if w2%65536=65535 then .d 0 0 12 false else .s5 i w2 (bE.new x.j i o.c))=_
     rw[if_pos hb]
    exact aa (e2.trans (Prod.ext e3 rfl)) (.d (fun h=>absurd h (by decide))) rfl HQ
   ·next hz _=>
    have hb:¬bU w2:=fun h=>by simp[h] at*
    have hz:w2%65536=65535:=by simpa[hb] using(by assumption:(if bU w2 then 0 else w2%65536)=65535)
    have e3:l9 x o i (.d w2 0)=.d 0 0 12 false:=by
     show(if bU w2 then av.d 0 0 5 false else if w2%65536=65535 then .d 0 0 12 false else .s5 i w2 (bE.new x.j i o.c))=_
     rw[if_neg hb,if_pos hz]
    exact aa (e2.trans (Prod.ext e3 rfl)) (.d (fun h=>absurd h (by decide))) rfl HQ
   ·have hb:¬bU w2:=fun h=>by simp[h] at*
    have hz:¬w2%65536=65535:=by simpa[hb] using(by assumption:¬(if bU w2 then 0 else w2%65536)=65535)
    have e3:l9 x o i (.d w2 0)=.s5 i w2 .l:=by
     show(if bU w2 then av.d 0 0 5 false else if w2%65536=65535 then .d 0 0 12 false else .s5 i w2 (bE.new x.j i o.c))=_
     rw[if_neg hb,if_neg hz,bE.db hi (by omega)]
    exact aa (e2.trans (Prod.ext e3 rfl)) (.s5 (lm:=[_,_]) bK rfl hi ⟨JJ,hb⟩ (.l hi) rfl) rfl HQ
  |_=>cases ho
theorem L4 {z}{i w:Int}:DQ x o tv hg q b m vm y (.s5 i w z):=by
 intro B0 S W R l ro hx hk hy h H
 obtain⟨dD,cG,eu,eO,eL,eP,bq,da,eQ,eY,dX,eM,ml,lQ⟩:=aK hx hk
 cases h with
 |@s5 z i w lm qm a1 a2 a3 a5 a6 a7 a8 a9 a10 a11 a12 bK hh hi cV h ho=>
 subst hh
 have Qz:0≤w∧w<18446744073709551615:=by have:=cV.1;have:=cV.2;unfold Me.ar bU at*;omega
 have Ed:0≤(w+1)%18446744073709551616∧(w+1)%18446744073709551616<18446744073709551615:=by have:=cV.1;have:=cV.2;unfold Me.ar bU at*;omega
 refine Vx.fm H eH (b:=Tryz.a21) ?_;(repeat' first|constructor|exact ZQ|intro _);all_goals apply zL
 refine Vx.fz (A:=[_]) (fun B W S H=>iX cG (by omega) (by omega) (by omega) hy h H) fun a' x' l' e1 hl=>?_
 have e2:av.step x o (.s5 i w z) y=(if a'.over then av.s6 i w else .s5 i w a',x'):=by
  show(if _ then _ else _,_)=_
  rw[e1]
 cases ho:a'.over
 ·(repeat' first|constructor|exact ZQ|intro _)
  all_goals apply zL
  have e3:av.step x o (.s5 i w z) y=(av.s5 i w a',x'):=e2.trans (Prod.ext (if_neg (by rw[ho];simp)) rfl)
  exact aa e3 (.s5 bK rfl hi cV hl ho) rfl HQ
 ·(repeat' first|constructor|exact ZQ|intro _)
  all_goals apply zL
  all_goals first|(exfalso;omega)|exact aa (e2.trans (Prod.ext (if_pos ho) rfl)) (.s6 bK rfl hi cV) rfl HQ
theorem L5 {i w:Int}:DQ x o tv hg q b m vm y (.s6 i w):=by
 intro B0 S W R l ro hx hk hy h H
 obtain⟨dD,cG,eu,eO,eL,eP,bq,da,eQ,eY,dX,eM,ml,lQ⟩:=aK hx hk
 cases h with
 |@s6 i w a1 a2 a3 a4 a5 a6 a7 a8 a9 a10 a11 a12 bK hh hi cV=>
 subst hh
 have Qz:0≤w∧w<18446744073709551615:=by have:=cV.1;have:=cV.2;unfold Me.ar bU at*;omega
 have Ed:0≤(w+1)%18446744073709551616∧(w+1)%18446744073709551616<18446744073709551615:=by have:=cV.1;have:=cV.2;unfold Me.ar bU at*;omega
 refine Vx.fm H eH (b:=Tryz.a21) ?_;(repeat' first|constructor|exact ZQ|intro _);all_goals apply zL
 have e3:av.step x o (.s6 i w) y=(.s7 i w .a,y.st (x.r.runs+o.c) 18446744073709551615):=by
  show(av.s7 i w (bO.new x.j i),_)=_
  rw[bO.db hi]
 exact aa (e3) (.s7 (lm:=[_]) bK rfl hi cV (.a hi) rfl) rfl HQ
theorem L6 {z}{i w:Int}:DQ x o tv hg q b m vm y (.s7 i w z):=by
 intro B0 S W R l ro hx hk hy h H
 obtain⟨dD,cG,eu,eO,eL,eP,bq,da,eQ,eY,dX,eM,ml,lQ⟩:=aK hx hk
 cases h with
 |@s7 z i w lm qm a1 a2 a3 a4 a6 a7 a8 a9 a10 a11 a12 bK hh hi cV h ho=>
 subst hh
 have Qz:0≤w∧w<18446744073709551615:=by have:=cV.1;have:=cV.2;unfold Me.ar bU at*;omega
 have Ed:0≤(w+1)%18446744073709551616∧(w+1)%18446744073709551616<18446744073709551615:=by have:=cV.1;have:=cV.2;unfold Me.ar bU at*;omega
 refine Vx.fm H eH (b:=Tryz.a21) ?_;(repeat' first|constructor|exact ZQ|intro _);all_goals apply zL
 refine Vx.fz (A:=[_]) (fun B W S H=>uc cG hy h H) fun a' x' l' e1 hl=>?_
 have e2:av.step x o (.s7 i w z) y=(if a'.over then av.s8 i w (.p .a 0) else .s7 i w a',x'):=by
  show(if _ then _ else _,_)=_
  rw[e1]
 cases ho:a'.over
 ·(repeat' first|constructor|exact ZQ|intro _)
  all_goals apply zL
  have e3:av.step x o (.s7 i w z) y=(av.s7 i w a',x'):=e2.trans (Prod.ext (if_neg (by rw[ho];simp)) rfl)
  exact aa e3 (.s7 bK rfl hi cV hl ho) rfl HQ
 ·(repeat' first|constructor|exact ZQ|intro _)
  all_goals apply zL
  next p l' hP=>exact aa (e2.trans (Prod.ext (if_pos ho) rfl)) (.s8 bK rfl hi cV (show gz x.t o.c ((w+1)%18446744073709551616) i o.high p 0 (.p .a 0) l' from hP) rfl) rfl HQ
theorem L7 {z}{i w:Int}:DQ x o tv hg q b m vm y (.s8 i w z):=by
 intro B0 S W R l ro hx hk hy h H
 obtain⟨dD,cG,eu,eO,eL,eP,bq,da,eQ,eY,dX,eM,ml,lQ⟩:=aK hx hk
 cases h with
 |@s8 z i w bp lm qm a1 a2 a3 a4 a5 a6 a7 a8 a9 a11 a12 bK hh hi cV h ho=>
 subst hh
 have Qz:0≤w∧w<18446744073709551615:=by have:=cV.1;have:=cV.2;unfold Me.ar bU at*;omega
 have Ed:0≤(w+1)%18446744073709551616∧(w+1)%18446744073709551616<18446744073709551615:=by have:=cV.1;have:=cV.2;unfold Me.ar bU at*;omega
 refine Vx.fm H eH (b:=Tryz.a21) ?_;(repeat' first|constructor|exact ZQ|intro _);all_goals apply zL
 refine Vx.fz (A:=[_]) (fun B W S H=>zt dD (by omega) ⟨by omega,by omega,by omega⟩ hy ho (by unfold Me.ar;omega) h H) fun a' x' l' e1 hl=>?_
 have e2:av.step x o (.s8 i w z) y=(pP x o i w a',x'):=by
  show(pP x o i w _,_)=_
  rw[e1]
 by_cases ho:a'.over=true
 ·cases hl with
  |@d kR ma al co ly ins n2 p2 LO er=>
   simp only[Tw.p_,Tw.cs,Lb.cs,Ar.cs,Ep.cs,lA,lB]
   (repeat' first|constructor|exact ZQ|intro _)
   all_goals apply zL
   ·have e3:pP x o i w (.d er)=.b1 i w er .a:=by
     show(if er=0 then av.s9 i w else .b1 i w er (bO.new x.j i))=_
     rw[if_neg (by omega),bO.db hi]
    exact aa (e2.trans (Prod.ext e3 rfl)) (.b1 (lm:=[_]) bK hi (by omega) (.a hi) rfl) rfl HQ
   ·have e3:pP x o i w (.d er)=.s9 i w:=by
     show(if er=0 then av.s9 i w else .b1 i w er (bO.new x.j i))=_
     rw[if_pos (by omega)]
    exact aa (e2.trans (Prod.ext e3 rfl)) (.s9 bK) rfl HQ
  |_=>first|cases ho|skip
 ·rw[Bool.not_eq_true] at ho
  obtain⟨Ip,LB,p2,LC,e5,n2,Z9,Z_,LO,cA,VU,JI,rfl⟩:=hl.row
  simp only[Tw.p_,Tw.cs,Lb.cs,Ar.cs,Ep.cs,lA,lB]
  rw[ho]
  (repeat' first|constructor|exact ZQ|intro _)
  all_goals apply zL
  have e3:av.step x o (.s8 i w z) y=(av.s8 i w a',x'):=e2.trans (Prod.ext (by cases a'<;>first|rfl|cases ho) rfl)
  exact aa e3 (.s8 bK rfl hi cV hl ho) rfl HQ
theorem L8 {i w:Int}:DQ x o tv hg q b m vm y (.s9 i w):=by
 intro B0 S W R l ro hx hk hy h H
 obtain⟨dD,cG,eu,eO,eL,eP,bq,da,eQ,eY,dX,eM,ml,lQ⟩:=aK hx hk
 cases h with
 |@s9 i w a1 a2 a3 a4 a5 a6 a7 a8 a9 a10 a11 a12 bK=>
 refine Vx.fm H eH (b:=Tryz.a21) ?_;(repeat' first|constructor|exact ZQ|intro _);all_goals apply zL
 next p l' hP=>exact aa rfl (.p2 (by omega) (show jv x.t o.c false p 0 (.p .a) l' from hP) rfl) rfl HQ
end
end
section
open av
section
variable{B0 S:AH}{W:List Nat}{R l:List Own}{ro:List aQ}{m q:Nat}{vm tv:AV}{y:Me}{x:Xc}{o:Od}{b hg:Int}
theorem L9 {z}{i w e:Int}:DQ x o tv hg q b m vm y (.b1 i w e z):=by
 intro B0 S W R l ro hx hk hy h H
 obtain⟨dD,cG,eu,eO,eL,eP,bq,da,eQ,eY,dX,eM,ml,lQ⟩:=aK hx hk
 cases h with
 |@b1 z i w e lm qm a1 a2 a3 a4 a6 a7 a8 a9 a10 a11 a12 bK hi he h ho=>
 refine Vx.fm H eH (b:=Tryz.a21) ?_;(repeat' first|constructor|exact ZQ|intro _);all_goals apply zL
 refine Vx.fz (A:=[_]) (fun B W S H=>uc cG hy h H) fun a' x' l' e1 hl=>?_
 have e2:av.step x o (.b1 i w e z) y=(if a'.over then av.b2 i w e (.new x.j i o.c) else .b1 i w e a',x'):=by
  show(if _ then _ else _,_)=_
  rw[e1]
 cases ho:a'.over
 ·(repeat' first|constructor|exact ZQ|intro _)
  all_goals apply zL
  have e3:av.step x o (.b1 i w e z) y=(av.b1 i w e a',x'):=e2.trans (Prod.ext (if_neg (by rw[ho];simp)) rfl)
  exact aa e3 (.b1 bK hi he hl ho) rfl HQ
 ·(repeat' first|constructor|exact ZQ|intro _)
  all_goals apply zL
  exact aa (e2.trans (Prod.ext ((if_pos ho).trans (congrArg (av.b2 i w e) (bE.db hi (by omega)))) rfl)) (.b2 (lm:=[_,_]) bK he (.l hi) rfl) rfl HQ
theorem L_ {z}{i w e:Int}:DQ x o tv hg q b m vm y (.b2 i w e z):=by
 intro B0 S W R l ro hx hk hy h H
 obtain⟨dD,cG,eu,eO,eL,eP,bq,da,eQ,eY,dX,eM,ml,lQ⟩:=aK hx hk
 cases h with
 |@b2 z i w e lm qm a1 a2 a3 a5 a6 a7 a8 a9 a10 a11 a12 bK he h ho=>
 refine Vx.fm H eH (b:=Tryz.a21) ?_;(repeat' first|constructor|exact ZQ|intro _);all_goals apply zL
 refine Vx.fz (A:=[_]) (fun B W S H=>iX cG (by omega) (by omega) (by omega) hy h H) fun a' x' l' e1 hl=>?_
 have e2:av.step x o (.b2 i w e z) y=(if a'.over then av.b3 i w e else .b2 i w e a',x'):=by
  show(if _ then _ else _,_)=_
  rw[e1]
 cases ho:a'.over
 ·(repeat' first|constructor|exact ZQ|intro _)
  all_goals apply zL
  have e3:av.step x o (.b2 i w e z) y=(av.b2 i w e a',x'):=e2.trans (Prod.ext (if_neg (by rw[ho];simp)) rfl)
  exact aa e3 (.b2 bK he hl ho) rfl HQ
 ·(repeat' first|constructor|exact ZQ|intro _)
  all_goals apply zL
  all_goals first|(exfalso;omega)|exact aa (e2.trans (Prod.ext (if_pos ho) rfl)) (.b3 bK he) rfl HQ
theorem Ma {i w e:Int}:DQ x o tv hg q b m vm y (.b3 i w e):=by
 intro B0 S W R l ro hx hk hy h H
 obtain⟨dD,cG,eu,eO,eL,eP,bq,da,eQ,eY,dX,eM,ml,lQ⟩:=aK hx hk
 cases h with
 |@b3 i w e a1 a2 a3 a4 a5 a6 a7 a8 a9 a10 a11 a12 bK he=>
 refine Vx.fm H eH (b:=Tryz.a21) ?_;(repeat' first|constructor|exact ZQ|intro _);all_goals apply zL
 exact aa rfl (.b4 bK he) rfl HQ
theorem Mb {i w e:Int}:DQ x o tv hg q b m vm y (.b4 i w e):=by
 intro B0 S W R l ro hx hk hy h H
 obtain⟨dD,cG,eu,eO,eL,eP,bq,da,eQ,eY,dX,eM,ml,lQ⟩:=aK hx hk
 cases h with
 |@b4 i w e a1 a2 a3 a4 a5 a6 a7 a8 a9 a10 a11 a12 bK he=>
 refine Vx.fm H eH (b:=Tryz.a21) ?_;(repeat' first|constructor|exact ZQ|intro _);all_goals apply zL
 exact aa rfl (.d (fun h=>absurd h he)) rfl HQ
theorem Mc (hx:x.ok) (hk:o.ok x) (hy:y.gd) (h:bM x o tv hg q b (.c1) l) (H:Cx B0 W S (l++(aj m vm y++R)) ro):
  aO EM (zF 21) [.ptr q 0,.ptr m 0] S fun u S'=>∃ab,eD (bM x o tv hg q (av.cz x o (.c1))) av.over (av.step x o (.c1) y) (aj m vm) R u ab∧Cx B0 W S' ab ro:=by
 obtain⟨dD,cG,eu,eO,eL,eP,bq,da,eQ,eY,dX,eM,ml,lQ⟩:=aK hx hk
 cases h with
 |@c1 i w a1 a2 a3 a4 a5 a6 a7 a8 a9 a10 a11 a12 bK=>
 refine Vx.fm H eH (b:=Tryz.a21) ?_;(repeat' first|constructor|exact ZQ|intro _);all_goals apply zL
 ·have hr:x.rd (y.word (x.own+o.c))=-1:=if_pos (by omega)
  have e3:av.step x o .c1 y=(.d 0 0 15 false,y.ld (x.own+o.c)):=Prod.ext (if_pos (by rw[hr];omega)) rfl
  exact aa (e3) (.d (fun h=>absurd h (by decide))) rfl HQ
 ·have hr:x.rd (y.word (x.own+o.c))=-1:=if_pos (by omega)
  have e3:av.step x o .c1 y=(.d 0 0 15 false,y.ld (x.own+o.c)):=Prod.ext (if_pos (by rw[hr];omega)) rfl
  exact aa (e3) (.d (fun h=>absurd h (by decide))) rfl HQ
 ·have hr:x.rd (y.word (x.own+o.c))=y.word (x.own+o.c)-1:=if_neg (by omega)
  have hi:0≤y.word (x.own+o.c)-1∧y.word (x.own+o.c)-1<x.j.f.size:=by omega
  have e3:av.step x o .c1 y=(.c2 (y.word (x.own+o.c)-1) .a,y.ld (x.own+o.c)):=by
   show(if x.rd (y.word (x.own+o.c))<0 then av.d 0 0 15 false else .c2 (x.rd (y.word (x.own+o.c))) (bO.new x.j (x.rd (y.word (x.own+o.c)))),_)=_
   rw[hr,if_neg (by omega),bO.db hi]
  exact aa (e3) (.c2 (lm:=[_]) bK hi (.a hi) rfl) rfl HQ
theorem Md {z}{i:Int}:DQ x o tv hg q b m vm y (.c2 i z):=by
 intro B0 S W R l ro hx hk hy h H
 obtain⟨dD,cG,eu,eO,eL,eP,bq,da,eQ,eY,dX,eM,ml,lQ⟩:=aK hx hk
 cases h with
 |@c2 z i lm qm w a1 a2 a3 a4 a5 a7 a8 a9 a10 a11 a12 bK hi h ho=>
 refine Vx.fm H eH (b:=Tryz.a21) ?_;(repeat' first|constructor|exact ZQ|intro _);all_goals apply zL
 refine Vx.fz (A:=[_]) (fun B W S H=>oT cG hy h H) fun a' x' l' e1 hl=>?_
 have e2:av.step x o (.c2 i z) y=(rA x o i a',x'):=by
  show(rA x o i _,_)=_
  rw[e1]
 cases ho:a'.over
 ·(repeat' first|constructor|exact ZQ|intro _)
  all_goals apply zL
  have e3:av.step x o (.c2 i z) y=(av.c2 i a',x'):=e2.trans (Prod.ext (by cases a'<;>first|rfl|cases ho) rfl)
  exact aa e3 (.c2 bK hi hl ho) rfl HQ
 ·cases hl with
  |@d w2 JJ=>
   (repeat' first|constructor|exact ZQ|intro _)
   all_goals apply zL
   have e3:rA x o i (.d w2 0)=.c3 i w2 .l:=by
    show av.c3 i w2 (bE.new x.j i o.c)=_
    rw[bE.db hi (by omega)]
   exact aa (e2.trans (Prod.ext e3 rfl)) (.c3 (lm:=[_,_]) bK hi (.l hi) rfl) rfl HQ
  |_=>cases ho
theorem Mf {z}{i w:Int}:DQ x o tv hg q b m vm y (.c3 i w z):=by
 intro B0 S W R l ro hx hk hy h H
 obtain⟨dD,cG,eu,eO,eL,eP,bq,da,eQ,eY,dX,eM,ml,lQ⟩:=aK hx hk
 cases h with
 |@c3 z i w lm qm a1 a2 a3 a5 a6 a7 a8 a9 a10 a11 a12 bK hi h ho=>
 refine Vx.fm H eH (b:=Tryz.a21) ?_;(repeat' first|constructor|exact ZQ|intro _);all_goals apply zL
 refine Vx.fz (A:=[_]) (fun B W S H=>iX cG (by omega) (by omega) (by omega) hy h H) fun a' x' l' e1 hl=>?_
 have e2:av.step x o (.c3 i w z) y=(if a'.over then av.c4 i w else .c3 i w a',x'):=by
  show(if _ then _ else _,_)=_
  rw[e1]
 cases ho:a'.over
 ·(repeat' first|constructor|exact ZQ|intro _)
  all_goals apply zL
  have e3:av.step x o (.c3 i w z) y=(av.c3 i w a',x'):=e2.trans (Prod.ext (if_neg (by rw[ho];simp)) rfl)
  exact aa e3 (.c3 bK hi hl ho) rfl HQ
 ·(repeat' first|constructor|exact ZQ|intro _)
  all_goals apply zL
  all_goals first|(exfalso;omega)|exact aa (e2.trans (Prod.ext (if_pos ho) rfl)) (.c4 bK hi) rfl HQ
theorem Mg {i w:Int}:DQ x o tv hg q b m vm y (.c4 i w):=by
 intro B0 S W R l ro hx hk hy h H
 obtain⟨dD,cG,eu,eO,eL,eP,bq,da,eQ,eY,dX,eM,ml,lQ⟩:=aK hx hk
 cases h with
 |@c4 i w a1 a2 a3 a4 a5 a6 a7 a8 a9 a10 a11 a12 bK hi=>
 refine Vx.fm H eH (b:=Tryz.a21) ?_;(repeat' first|constructor|exact ZQ|intro _);all_goals apply zL
 exact aa rfl (.c5 bK hi) rfl HQ
theorem Mh {i w:Int}:DQ x o tv hg q b m vm y (.c5 i w):=by
 intro B0 S W R l ro hx hk hy h H
 obtain⟨dD,cG,eu,eO,eL,eP,bq,da,eQ,eY,dX,eM,ml,lQ⟩:=aK hx hk
 cases h with
 |@c5 i w a1 a2 a3 a4 a5 a6 a7 a8 a9 a10 a11 a12 bK hi=>
 refine Vx.fm H eH (b:=Tryz.a21) ?_;(repeat' first|constructor|exact ZQ|intro _);all_goals apply zL
 have e3:av.step x o (.c5 i w) y=(.c6 i w .l,y.st (x.r.runs+o.c) 18446744073709551615):=by
  show(av.c6 i w (dm.new x.j i),_)=_
  rw[dm.db hi]
 exact aa (e3) (.c6 (lm:=[_,_]) bK (.l hi) rfl) rfl HQ
theorem Mi {z}{i w:Int}:DQ x o tv hg q b m vm y (.c6 i w z):=by
 intro B0 S W R l ro hx hk hy h H
 obtain⟨dD,cG,eu,eO,eL,eP,bq,da,eQ,eY,dX,eM,ml,lQ⟩:=aK hx hk
 cases h with
 |@c6 z i w lm qm a1 a2 a4 a5 a6 a7 a8 a9 a10 a11 a12 bK h ho=>
 refine Vx.fm H eH (b:=Tryz.a21) ?_;(repeat' first|constructor|exact ZQ|intro _);all_goals apply zL
 refine Vx.fz (A:=[_]) (fun B W S H=>wx cG hy h H) fun a' x' l' e1 hl=>?_
 have e2:av.step x o (.c6 i w z) y=(if a'.over then av.balance x i w else .c6 i w a',x'):=by
  show(if _ then _ else _,_)=_
  rw[e1]
 cases ho:a'.over
 ·(repeat' first|constructor|exact ZQ|intro _)
  all_goals apply zL
  have e3:av.step x o (.c6 i w z) y=(av.c6 i w a',x'):=e2.trans (Prod.ext (if_neg (by rw[ho];simp)) rfl)
  exact aa e3 (.c6 bK hl ho) rfl HQ
 ·(repeat' first|constructor|exact ZQ|intro _)
  all_goals apply zL
  next p l' hB=>exact aa (e2.trans (Prod.ext (if_pos ho) rfl)) (.oN (show iG x.t x.r o.c p 0 (.k (.p .a)) l' from hB) rfl) rfl HQ
end
end
section
section
variable{B0 S:AH}{W:List Nat}{R l:List Own}{ro:List aQ}{m q:Nat}{vm tv:AV}{y:Me}{x:Xc}{o:Od}{b hg:Int}
theorem Iu {σ:av}(hx:x.ok)(hk:o.ok x)(hy:y.gd)(ht:o.k=1→∃(L:List (List AV)) (c:List AV),aQ.sl tv 4 L∈ro∧L[o.tk.toNat]?=some c∧c[1]?=some (I o.prio))(h:bM x o tv hg q b σ l)(H:Cx B0 W S (l++(aj m vm y++R)) ro):
  aO EM (zF 21) [.ptr q 0,.ptr m 0] S fun u S'=>∃ab,eD (bM x o tv hg q (if σ.over then b else σ.cz x o)) av.over (σ.step x o y) (aj m vm) R u ab∧Cx B0 W S' ab ro:=by
 cases σ with
 |d i w e n=>
  cases h with
  |d hw=>
   refine Vx.fm H eH (b:=Tryz.a21) ?_;(repeat' first|constructor|exact ZQ|intro _);all_goals apply zL
   exact aa rfl (.d hw) rfl HQ
 |r3 i=>
  have h1:o.k=1:=by cases h;assumption
  exact LG hx hk hy (ht h1) h H
 |r1=>exact LD hx hk hy h H
 |r2=>exact LF hx hk hy h H
 |r4=>exact LH hx hk hy h H
 |r5=>exact LI hx hk hy h H
 |r6=>exact LJ hx hk hy h H
 |t1=>exact LK hx hk hy h H
 |t2=>exact LL hx hk hy h H
 |t3=>exact LM hx hk hy h H
 |t4=>exact LN hx hk hy h H
 |t5=>exact LP hx hk hy h H
 |t6=>exact LQ hx hk hy h H
 |oN=>exact It hx hk hy h H
 |p1=>exact LR hx hk hy h H
 |p2=>exact LS hx hk hy h H
 |p3=>exact LU hx hk hy h H
 |p4=>exact LV hx hk hy h H
 |p5=>exact LW hx hk hy h H
 |s1=>exact LX hx hk hy h H
 |s2=>exact LY hx hk hy h H
 |s3=>exact LZ hx hk hy h H
 |s4=>exact L3 hx hk hy h H
 |s5=>exact L4 hx hk hy h H
 |s6=>exact L5 hx hk hy h H
 |s7=>exact L6 hx hk hy h H
 |s8=>exact L7 hx hk hy h H
 |s9=>exact L8 hx hk hy h H
 |b1=>exact L9 hx hk hy h H
 |b2=>exact L_ hx hk hy h H
 |b3=>exact Ma hx hk hy h H
 |b4=>exact Mb hx hk hy h H
 |c1=>exact Mc hx hk hy h H
 |c2=>exact Md hx hk hy h H
 |c3=>exact Mf hx hk hy h H
 |c4=>exact Mg hx hk hy h H
 |c5=>exact Mh hx hk hy h H
 |c6=>exact Mi hx hk hy h H
end
end
end Go.cY
