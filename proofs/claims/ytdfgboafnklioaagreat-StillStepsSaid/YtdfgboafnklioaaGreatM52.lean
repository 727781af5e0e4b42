/- Contracts. Conditions: in each theorem. -/
import Derived.Test.YtdfgboafnklioaaGreatM50
import Derived.Test.YtdfgboafnklioaaGreatM51
set_option linter.all false
set_option maxRecDepth 100000
set_option maxHeartbeats 4000000
namespace Go.cI
open Go.Proofs
section
open az
section
variable{B0 S:AH}{W:List Nat}{R l:List Own}{ro:List aF}{m q:Nat}{vm tv:AV}{y:Me}{x:Xc}{o:Od}{b hg:Int}
theorem Oq {z:bC}{i:Int}:DQ x o tv hg q b m vm y (.s4 i z):=by
 intro B0 S W R l ro hx hk hy h H;obtain⟨dK,cR,eD,eU,eQ,eV,bt,dk,eR,eL,eo,eS,mU,ml⟩:=aS hx hk;cases h with
 |@s4 z i lm qm w a1 a2 a3 a4 a5 a7 a8 a9 a10 a11 a12 bK hh hi h ho=>
 subst hh;refine y1 H eN ?_;intros;refine Vx.fy (A:=[_]) (λB W S H=>py cR hy h H) λa' x' l' e1 hl=>?_;have e2:az.step x o (.s4 i z) y=(mG x o i a',x'):=by show(mG x o i _,_)=_;rw[e1]
 cases ho:a'.over
 .refine z1 ?_;have e3:az.step x o (.s4 i z) y=(az.s4 i a',x'):=e2.trans (Prod.ext (by cases a'<;>first|rfl|cases ho) rfl);exact aa e3 (.s4 bK rfl hi hl ho) rfl HQ
 .cases hl with
  |@d w2 Be=>
   refine z3 ?_ ?_ ?_<;>intros
   .have hb:bY w2:=Decidable.byContradiction λh=>by simp[h] at*
    have e3:mG x o i (.d w2 0)=.d 0 0 5 false:=by show(if bY w2 then az.d 0 0 5 false else if w2%65536=65535 then .d 0 0 12 false else .s5 i w2 (bh.new x.j i o.c))=_;rw[if_pos hb]
    exact aa (e2.trans (Prod.ext e3 rfl)) (.d (λh=>absurd h dl)) rfl HQ
   .next hz _=>
    have hb:¬bY w2:=λh=>by simp[h] at*
    have hz:w2%65536=65535:=by simpa[hb] using(by assumption:(if bY w2 then 0 else w2%65536)=65535)
    have e3:mG x o i (.d w2 0)=.d 0 0 12 false:=by show(if bY w2 then az.d 0 0 5 false else if w2%65536=65535 then .d 0 0 12 false else .s5 i w2 (bh.new x.j i o.c))=_;rw[if_neg hb,if_pos hz]
    exact aa (e2.trans (Prod.ext e3 rfl)) (.d (λh=>absurd h dl)) rfl HQ
   .have hb:¬bY w2:=λh=>by simp[h] at*
    have hz:¬w2%65536=65535:=by simpa[hb] using(by assumption:¬(if bY w2 then 0 else w2%65536)=65535)
    have e3:mG x o i (.d w2 0)=.s5 i w2 .l:=by show(if bY w2 then az.d 0 0 5 false else if w2%65536=65535 then .d 0 0 12 false else .s5 i w2 (bh.new x.j i o.c))=_;rw[if_neg hb,if_neg hz,bh.df hi am]
    exact aa (e2.trans (Prod.ext e3 rfl)) (.s5 (lm:=[_,_]) bK rfl hi ⟨Be,hb⟩ (.l hi) rfl) rfl HQ
  |_=>cases ho
theorem Ot {z:bh}{i w:Int}:DQ x o tv hg q b m vm y (.s5 i w z):=by
 intro B0 S W R l ro hx hk hy h H;obtain⟨dK,cR,eD,eU,eQ,eV,bt,dk,eR,eL,eo,eS,mU,ml⟩:=aS hx hk;cases h with
 |@s5 z i w lm qm a1 a2 a3 a5 a6 a7 a8 a9 a10 a11 a12 bK hh hi c_ h ho=>
 subst hh;have Tm:0<=w/\w<18446744073709551615:=by have:=c_.1;have:=c_.2;unfold Me.au bY at*;omega
 have Qk:0<=(w+1)%18446744073709551616/\(w+1)%18446744073709551616<18446744073709551615:=by have:=c_.1;have:=c_.2;unfold Me.au bY at*;omega
 refine y1 H eN ?_;intros;refine Vx.fy (A:=[_]) (λB W S H=>jd cR am am am hy h H) λa' x' l' e1 hl=>?_;have e2:az.step x o (.s5 i w z) y=(if a'.over then az.s6 i w else .s5 i w a',x'):=by show(if _ then _ else _,_)=_;rw[e1]
 cases ho:a'.over
 .refine z1 ?_;have e3:az.step x o (.s5 i w z) y=(az.s5 i w a',x'):=e2.trans (Prod.ext (if_neg (by rw[ho];simp)) rfl);exact aa e3 (.s5 bK rfl hi c_ hl ho) rfl HQ
 .refine z1 ?_;all_goals first|(exfalso;omega)|exact aa (e2.trans (Prod.ext (if_pos ho) rfl)) (.s6 bK rfl hi c_) rfl HQ
theorem Ou {i w:Int}:DQ x o tv hg q b m vm y (.s6 i w):=by
 intro B0 S W R l ro hx hk hy h H;obtain⟨dK,cR,eD,eU,eQ,eV,bt,dk,eR,eL,eo,eS,mU,ml⟩:=aS hx hk;cases h with
 |@s6 i w a1 a2 a3 a4 a5 a6 a7 a8 a9 a10 a11 a12 bK hh hi c_=>
 subst hh;have Tm:0<=w/\w<18446744073709551615:=by have:=c_.1;have:=c_.2;unfold Me.au bY at*;omega
 have Qk:0<=(w+1)%18446744073709551616/\(w+1)%18446744073709551616<18446744073709551615:=by have:=c_.1;have:=c_.2;unfold Me.au bY at*;omega
 refine y1 H eN ?_;intros;have e3:az.step x o (.s6 i w) y=(.s7 i w .a,y.st (x.r.runs+o.c) 18446744073709551615):=by show(az.s7 i w (bC.new x.j i),_)=_;rw[bC.df hi]
 exact aa (e3) (.s7 (lm:=[_]) bK rfl hi c_ (.a hi) rfl) rfl HQ
theorem Ov {z:bC}{i w:Int}:DQ x o tv hg q b m vm y (.s7 i w z):=by
 intro B0 S W R l ro hx hk hy h H;obtain⟨dK,cR,eD,eU,eQ,eV,bt,dk,eR,eL,eo,eS,mU,ml⟩:=aS hx hk;cases h with
 |@s7 z i w lm qm a1 a2 a3 a4 a6 a7 a8 a9 a10 a11 a12 bK hh hi c_ h ho=>
 subst hh;have Tm:0<=w/\w<18446744073709551615:=by have:=c_.1;have:=c_.2;unfold Me.au bY at*;omega
 have Qk:0<=(w+1)%18446744073709551616/\(w+1)%18446744073709551616<18446744073709551615:=by have:=c_.1;have:=c_.2;unfold Me.au bY at*;omega
 refine y1 H eN ?_;intros;refine Vx.fy (A:=[_]) (λB W S H=>vJ cR hy h H) λa' x' l' e1 hl=>?_;have e2:az.step x o (.s7 i w z) y=(if a'.over then az.s8 i w (.p .a 0) else .s7 i w a',x'):=by show(if _ then _ else _,_)=_;rw[e1]
 cases ho:a'.over
 .refine z1 ?_;have e3:az.step x o (.s7 i w z) y=(az.s7 i w a',x'):=e2.trans (Prod.ext (if_neg (by rw[ho];simp)) rfl);exact aa e3 (.s7 bK rfl hi c_ hl ho) rfl HQ
 .refine z1 ?_;intros;next p l' hP=>exact aa (e2.trans (Prod.ext (if_pos ho) rfl)) (.s8 bK rfl hi c_ (show gw x.t o.c ((w+1)%18446744073709551616) i o.high p 0 (.p .a 0) l' from hP) rfl) rfl HQ
theorem Ow {z:aW}{i w:Int}:DQ x o tv hg q b m vm y (.s8 i w z):=by
 intro B0 S W R l ro hx hk hy h H;obtain⟨dK,cR,eD,eU,eQ,eV,bt,dk,eR,eL,eo,eS,mU,ml⟩:=aS hx hk;cases h with
 |@s8 z i w bp lm qm a1 a2 a3 a4 a5 a6 a7 a8 a9 a11 a12 bK hh hi c_ h ho=>
 subst hh;have Tm:0<=w/\w<18446744073709551615:=by have:=c_.1;have:=c_.2;unfold Me.au bY at*;omega
 have Qk:0<=(w+1)%18446744073709551616/\(w+1)%18446744073709551616<18446744073709551615:=by have:=c_.1;have:=c_.2;unfold Me.au bY at*;omega
 refine y1 H eN ?_;intros;refine Vx.fy (A:=[_]) (λB W S H=>Bc dK am ⟨am,am,am⟩ hy ho (by unfold Me.au;omega) h H) λa' x' l' e1 hl=>?_;have e2:az.step x o (.s8 i w z) y=(qI x o i w a',x'):=by show(qI x o i w _,_)=_;rw[e1]
 by_cases ho:a'.over=true
 .cases hl with
  |@d lF mI al co ly ins n2 p2 Oe er=>
   simp only[Tw.qX,Tw.cs,Lb.cs,Ar.cs,Ep.cs,lA,lB];refine z2 ?_ ?_<;>intros
   .have e3:qI x o i w (.d er)=.b1 i w er .a:=by show(if er=0 then az.s9 i w else .b1 i w er (bC.new x.j i))=_;rw[if_neg am,bC.df hi]
    exact aa (e2.trans (Prod.ext e3 rfl)) (.b1 (lm:=[_]) bK hi am (.a hi) rfl) rfl HQ
   .have e3:qI x o i w (.d er)=.s9 i w:=by show(if er=0 then az.s9 i w else .b1 i w er (bC.new x.j i))=_;rw[if_pos am]
    exact aa (e2.trans (Prod.ext e3 rfl)) (.s9 bK) rfl HQ
  |_=>first|cases ho|skip
 .rw[Bool.not_eq_true] at ho;obtain⟨Ko,N2,p2,N3,e5,n2,al2,co2,Oe,ly2,Y1,LZ,rfl⟩:=hl.row;simp only[Tw.qX,Tw.cs,Lb.cs,Ar.cs,Ep.cs,lA,lB];rw[ho];refine z1 ?_;have e3:az.step x o (.s8 i w z) y=(az.s8 i w a',x'):=e2.trans (Prod.ext (by cases a'<;>first|rfl|cases ho) rfl);exact aa e3 (.s8 bK rfl hi c_ hl ho) rfl HQ
theorem Ox {i w:Int}:DQ x o tv hg q b m vm y (.s9 i w):=by
 intro B0 S W R l ro hx hk hy h H;obtain⟨dK,cR,eD,eU,eQ,eV,bt,dk,eR,eL,eo,eS,mU,ml⟩:=aS hx hk;cases h with
 |@s9 i w a1 a2 a3 a4 a5 a6 a7 a8 a9 a10 a11 a12 bK=>
 refine y1 H eN ?_;intros;next p l' hP=>exact aa rfl (.p2 am (show jN x.t o.c false p 0 (.p .a) l' from hP) rfl) rfl HQ
end
end
section
open az
section
variable{B0 S:AH}{W:List Nat}{R l:List Own}{ro:List aF}{m q:Nat}{vm tv:AV}{y:Me}{x:Xc}{o:Od}{b hg:Int}
theorem Oy {z:bC}{i w e:Int}:DQ x o tv hg q b m vm y (.b1 i w e z):=by
 intro B0 S W R l ro hx hk hy h H;obtain⟨dK,cR,eD,eU,eQ,eV,bt,dk,eR,eL,eo,eS,mU,ml⟩:=aS hx hk;cases h with
 |@b1 z i w e lm qm a1 a2 a3 a4 a6 a7 a8 a9 a10 a11 a12 bK hi he h ho=>
 refine y1 H eN ?_;intros;refine Vx.fy (A:=[_]) (λB W S H=>vJ cR hy h H) λa' x' l' e1 hl=>?_;have e2:az.step x o (.b1 i w e z) y=(if a'.over then az.b2 i w e (.new x.j i o.c) else .b1 i w e a',x'):=by show(if _ then _ else _,_)=_;rw[e1]
 cases ho:a'.over
 .refine z1 ?_;have e3:az.step x o (.b1 i w e z) y=(az.b1 i w e a',x'):=e2.trans (Prod.ext (if_neg (by rw[ho];simp)) rfl);exact aa e3 (.b1 bK hi he hl ho) rfl HQ
 .refine z1 ?_;intros;exact aa (e2.trans (Prod.ext ((if_pos ho).trans (congrArg (az.b2 i w e) (bh.df hi am))) rfl)) (.b2 (lm:=[_,_]) bK he (.l hi) rfl) rfl HQ
theorem Oz {z:bh}{i w e:Int}:DQ x o tv hg q b m vm y (.b2 i w e z):=by
 intro B0 S W R l ro hx hk hy h H;obtain⟨dK,cR,eD,eU,eQ,eV,bt,dk,eR,eL,eo,eS,mU,ml⟩:=aS hx hk;cases h with
 |@b2 z i w e lm qm a1 a2 a3 a5 a6 a7 a8 a9 a10 a11 a12 bK he h ho=>
 refine y1 H eN ?_;intros;refine Vx.fy (A:=[_]) (λB W S H=>jd cR am am am hy h H) λa' x' l' e1 hl=>?_;have e2:az.step x o (.b2 i w e z) y=(if a'.over then az.b3 i w e else .b2 i w e a',x'):=by show(if _ then _ else _,_)=_;rw[e1]
 cases ho:a'.over
 .refine z1 ?_;have e3:az.step x o (.b2 i w e z) y=(az.b2 i w e a',x'):=e2.trans (Prod.ext (if_neg (by rw[ho];simp)) rfl);exact aa e3 (.b2 bK he hl ho) rfl HQ
 .refine z1 ?_;all_goals first|(exfalso;omega)|exact aa (e2.trans (Prod.ext (if_pos ho) rfl)) (.b3 bK he) rfl HQ
theorem OA {i w e:Int}:DQ x o tv hg q b m vm y (.b3 i w e):=by
 intro B0 S W R l ro hx hk hy h H;obtain⟨dK,cR,eD,eU,eQ,eV,bt,dk,eR,eL,eo,eS,mU,ml⟩:=aS hx hk;cases h with
 |@b3 i w e a1 a2 a3 a4 a5 a6 a7 a8 a9 a10 a11 a12 bK he=>
 refine y1 H eN ?_;intros;exact aa rfl (.b4 bK he) rfl HQ
theorem OB {i w e:Int}:DQ x o tv hg q b m vm y (.b4 i w e):=by
 intro B0 S W R l ro hx hk hy h H;obtain⟨dK,cR,eD,eU,eQ,eV,bt,dk,eR,eL,eo,eS,mU,ml⟩:=aS hx hk;cases h with
 |@b4 i w e a1 a2 a3 a4 a5 a6 a7 a8 a9 a10 a11 a12 bK he=>
 refine y1 H eN ?_;intros;exact aa rfl (.d (λh=>absurd h he)) rfl HQ
theorem OC (hx:x.ok) (hk:o.ok x) (hy:y.gd) (h:bH x o tv hg q b (.c1) l) (H:Cx B0 W S (l++(ai m vm y++R)) ro):
  aG EM (zF 21) [.ptr q 0,.ptr m 0] S λu S'=>∃ab,eH (bH x o tv hg q (az.cG x o (.c1))) az.over (az.step x o (.c1) y) (ai m vm) R u ab/\Cx B0 W S' ab ro:=by
 obtain⟨dK,cR,eD,eU,eQ,eV,bt,dk,eR,eL,eo,eS,mU,ml⟩:=aS hx hk;cases h with
 |@c1 i w a1 a2 a3 a4 a5 a6 a7 a8 a9 a10 a11 a12 bK=>
 refine y3 H eN ?_ ?_ ?_<;>intros
 .have hr:x.rd (y.word (x.own+o.c))=-1:=if_pos am;have e3:az.step x o .c1 y=(.d 0 0 15 false,y.ld (x.own+o.c)):=Prod.ext (if_pos (by rw[hr];omega)) rfl;exact aa (e3) (.d (λh=>absurd h dl)) rfl HQ
 .have hr:x.rd (y.word (x.own+o.c))=-1:=if_pos am;have e3:az.step x o .c1 y=(.d 0 0 15 false,y.ld (x.own+o.c)):=Prod.ext (if_pos (by rw[hr];omega)) rfl;exact aa (e3) (.d (λh=>absurd h dl)) rfl HQ
 .have hr:x.rd (y.word (x.own+o.c))=y.word (x.own+o.c)-1:=if_neg am;have hi:0<=y.word (x.own+o.c)-1/\y.word (x.own+o.c)-1<x.j.f.size:=am;have e3:az.step x o .c1 y=(.c2 (y.word (x.own+o.c)-1) .a,y.ld (x.own+o.c)):=by show(if x.rd (y.word (x.own+o.c))<0 then az.d 0 0 15 false else .c2 (x.rd (y.word (x.own+o.c))) (bC.new x.j (x.rd (y.word (x.own+o.c)))),_)=_;rw[hr,if_neg am,bC.df hi]
  exact aa (e3) (.c2 (lm:=[_]) bK hi (.a hi) rfl) rfl HQ
theorem OD {z:bC}{i:Int}:DQ x o tv hg q b m vm y (.c2 i z):=by
 intro B0 S W R l ro hx hk hy h H;obtain⟨dK,cR,eD,eU,eQ,eV,bt,dk,eR,eL,eo,eS,mU,ml⟩:=aS hx hk;cases h with
 |@c2 z i lm qm w a1 a2 a3 a4 a5 a7 a8 a9 a10 a11 a12 bK hi h ho=>
 refine y1 H eN ?_;intros;refine Vx.fy (A:=[_]) (λB W S H=>py cR hy h H) λa' x' l' e1 hl=>?_;have e2:az.step x o (.c2 i z) y=(sJ x o i a',x'):=by show(sJ x o i _,_)=_;rw[e1]
 cases ho:a'.over
 .refine z1 ?_;have e3:az.step x o (.c2 i z) y=(az.c2 i a',x'):=e2.trans (Prod.ext (by cases a'<;>first|rfl|cases ho) rfl);exact aa e3 (.c2 bK hi hl ho) rfl HQ
 .cases hl with
  |@d w2 Be=>
   refine z1 ?_;intros;have e3:sJ x o i (.d w2 0)=.c3 i w2 .l:=by show az.c3 i w2 (bh.new x.j i o.c)=_;rw[bh.df hi am]
   exact aa (e2.trans (Prod.ext e3 rfl)) (.c3 (lm:=[_,_]) bK hi (.l hi) rfl) rfl HQ
  |_=>cases ho
theorem OE {z:bh}{i w:Int}:DQ x o tv hg q b m vm y (.c3 i w z):=by
 intro B0 S W R l ro hx hk hy h H;obtain⟨dK,cR,eD,eU,eQ,eV,bt,dk,eR,eL,eo,eS,mU,ml⟩:=aS hx hk;cases h with
 |@c3 z i w lm qm a1 a2 a3 a5 a6 a7 a8 a9 a10 a11 a12 bK hi h ho=>
 refine y1 H eN ?_;intros;refine Vx.fy (A:=[_]) (λB W S H=>jd cR am am am hy h H) λa' x' l' e1 hl=>?_;have e2:az.step x o (.c3 i w z) y=(if a'.over then az.c4 i w else .c3 i w a',x'):=by show(if _ then _ else _,_)=_;rw[e1]
 cases ho:a'.over
 .refine z1 ?_;have e3:az.step x o (.c3 i w z) y=(az.c3 i w a',x'):=e2.trans (Prod.ext (if_neg (by rw[ho];simp)) rfl);exact aa e3 (.c3 bK hi hl ho) rfl HQ
 .refine z1 ?_;all_goals first|(exfalso;omega)|exact aa (e2.trans (Prod.ext (if_pos ho) rfl)) (.c4 bK hi) rfl HQ
theorem OG {i w:Int}:DQ x o tv hg q b m vm y (.c4 i w):=by
 intro B0 S W R l ro hx hk hy h H;obtain⟨dK,cR,eD,eU,eQ,eV,bt,dk,eR,eL,eo,eS,mU,ml⟩:=aS hx hk;cases h with
 |@c4 i w a1 a2 a3 a4 a5 a6 a7 a8 a9 a10 a11 a12 bK hi=>
 refine y1 H eN ?_;intros;exact aa rfl (.c5 bK hi) rfl HQ
theorem OH {i w:Int}:DQ x o tv hg q b m vm y (.c5 i w):=by
 intro B0 S W R l ro hx hk hy h H;obtain⟨dK,cR,eD,eU,eQ,eV,bt,dk,eR,eL,eo,eS,mU,ml⟩:=aS hx hk;cases h with
 |@c5 i w a1 a2 a3 a4 a5 a6 a7 a8 a9 a10 a11 a12 bK hi=>
 refine y1 H eN ?_;intros;have e3:az.step x o (.c5 i w) y=(.c6 i w .l,y.st (x.r.runs+o.c) 18446744073709551615):=by show(az.c6 i w (cQ.new x.j i),_)=_;rw[cQ.df hi]
 exact aa (e3) (.c6 (lm:=[_,_]) bK (.l hi) rfl) rfl HQ
theorem OI {z:cQ}{i w:Int}:DQ x o tv hg q b m vm y (.c6 i w z):=by
 intro B0 S W R l ro hx hk hy h H;obtain⟨dK,cR,eD,eU,eQ,eV,bt,dk,eR,eL,eo,eS,mU,ml⟩:=aS hx hk;cases h with
 |@c6 z i w lm qm a1 a2 a4 a5 a6 a7 a8 a9 a10 a11 a12 bK h ho=>
 refine y1 H eN ?_;intros;refine Vx.fy (A:=[_]) (λB W S H=>xJ cR hy h H) λa' x' l' e1 hl=>?_;have e2:az.step x o (.c6 i w z) y=(if a'.over then az.balance x i w else .c6 i w a',x'):=by show(if _ then _ else _,_)=_;rw[e1]
 cases ho:a'.over
 .refine z1 ?_;have e3:az.step x o (.c6 i w z) y=(az.c6 i w a',x'):=e2.trans (Prod.ext (if_neg (by rw[ho];simp)) rfl);exact aa e3 (.c6 bK hl ho) rfl HQ
 .refine z1 ?_;intros;next p l' hB=>exact aa (e2.trans (Prod.ext (if_pos ho) rfl)) (.pg (show iQ x.t x.r o.c p 0 (.k (.p .a)) l' from hB) rfl) rfl HQ
end
end
section
variable{B0 S:AH}{W:List Nat}{R l:List Own}{ro:List aF}{m q:Nat}{vm tv:AV}{y:Me}{x:Xc}{o:Od}{b hg:Int}
theorem Kt {σ:az}(hx:x.ok)(hk:o.ok x)(hy:y.gd)(ht:o.k=1->∃(L:List (List AV)) (c:List AV),aF.sl tv 4 L∈ro/\L[o.tk.toNat]?=some c/\c[1]?=some (I o.prio))(h:bH x o tv hg q b σ l)(H:Cx B0 W S (l++(ai m vm y++R)) ro):
  aG EM (zF 21) [.ptr q 0,.ptr m 0] S λu S'=>∃ab,eH (bH x o tv hg q (if σ.over then b else σ.cG x o)) az.over (σ.step x o y) (ai m vm) R u ab/\Cx B0 W S' ab ro:=by
 cases σ with
 |d i w e n=>
  cases h with
  |d hw=>
   refine y1 H eN ?_;exact aa rfl (.d hw) rfl HQ
 |r3 i=>
  have h1:o.k=1:=by cases h;assumption
  exact N6 hx hk hy (ht h1) h H
 |r1=>exact N4 hx hk hy h H
 |r2=>exact N5 hx hk hy h H
 |r4=>exact N7 hx hk hy h H
 |r5=>exact N8 hx hk hy h H
 |r6=>exact N9 hx hk hy h H
 |t1=>exact N_ hx hk hy h H
 |t2=>exact Oa hx hk hy h H
 |t3=>exact Ob hx hk hy h H
 |t4=>exact Oc hx hk hy h H
 |t5=>exact Of hx hk hy h H
 |t6=>exact Og hx hk hy h H
 |pg=>exact Ks hx hk hy h H
 |p1=>exact Oh hx hk hy h H
 |p2=>exact Oi hx hk hy h H
 |p3=>exact Oj hx hk hy h H
 |p4=>exact Ok hx hk hy h H
 |p5=>exact Ol hx hk hy h H
 |s1=>exact Om hx hk hy h H
 |s2=>exact On hx hk hy h H
 |s3=>exact Oo hx hk hy h H
 |s4=>exact Oq hx hk hy h H
 |s5=>exact Ot hx hk hy h H
 |s6=>exact Ou hx hk hy h H
 |s7=>exact Ov hx hk hy h H
 |s8=>exact Ow hx hk hy h H
 |s9=>exact Ox hx hk hy h H
 |b1=>exact Oy hx hk hy h H
 |b2=>exact Oz hx hk hy h H
 |b3=>exact OA hx hk hy h H
 |b4=>exact OB hx hk hy h H
 |c1=>exact OC hx hk hy h H
 |c2=>exact OD hx hk hy h H
 |c3=>exact OE hx hk hy h H
 |c4=>exact OG hx hk hy h H
 |c5=>exact OH hx hk hy h H
 |c6=>exact OI hx hk hy h H
end
end Go.cI
