/- Contracts of functions, over the abstract machine. Conditions: stated in each theorem. -/
import Derived.Test.YtdfgboafnklioaaGreatM50
set_option linter.all false
set_option maxRecDepth 100000
set_option maxHeartbeats 4000000
namespace Go.cY
open Go.Proofs
section
open av
section
variable{B0 S:AH}{W:List Nat}{R l:List Own}{ro:List aQ}{m q:Nat}{vm tv:AV}{y:Me}{x:Xc}{o:Od}{b hg:Int}
theorem LK {z}:DQ x o tv hg q b m vm y (.t1 z):=by
 intro B0 S W R l ro hx hk hy h H
 obtain⟨dD,cG,eu,eO,eL,eP,bq,da,eQ,eY,dX,eM,ml,lQ⟩:=aK hx hk
 cases h with
 |@t1 z lm qm i w a1 a2 a3 a4 a5 a6 a7 a9 a10 a11 a12 bK hh h ho=>
 subst hh
 refine Vx.fm H eH (b:=Tryz.a21) ?_;(repeat' first|constructor|exact ZQ|intro _);all_goals apply zL
 refine Vx.fz (A:=[_]) (fun B W S H=>A3 dX hy h H) fun a' x' l' e1 hl=>?_
 have e2:av.step x o (.t1 z) y=(l8 x o a',x'):=by
  show(l8 x o _,_)=_
  rw[e1]
 cases ho:a'.over
 ·(repeat' first|constructor|exact ZQ|intro _)
  all_goals apply zL
  have e3:av.step x o (.t1 z) y=(av.t1 a',x'):=e2.trans (Prod.ext (by cases a'<;>first|rfl|cases ho) rfl)
  exact aa e3 (.t1 bK rfl hl ho) rfl HQ
 ·cases hl with
  |@d zN v2 NB zP eG=>
   (repeat' first|constructor|exact ZQ|intro _)
   all_goals apply zL
   ·have e3:l8 x o (.d zN v2 NB)=.d 0 0 15 false:=by
     show(if NB=0 then(if x.j.f.size≤v2 then av.d 0 0 5 false else .t2 v2 zN (bO.new x.j v2)) else .d 0 0 15 false)=_
     rw[if_neg (by omega)]
    exact aa (e2.trans (Prod.ext e3 rfl)) (.d (fun h=>absurd h (by decide))) rfl HQ
   ·have e3:l8 x o (.d zN v2 NB)=.d 0 0 5 false:=by
     show(if NB=0 then(if x.j.f.size≤v2 then av.d 0 0 5 false else .t2 v2 zN (bO.new x.j v2)) else .d 0 0 15 false)=_
     rw[if_pos (by omega),if_pos (by omega)]
    exact aa (e2.trans (Prod.ext e3 rfl)) (.d (fun h=>absurd h (by decide))) rfl HQ
   ·have e3:l8 x o (.d zN v2 NB)=.t2 v2 zN .a:=by
     show(if NB=0 then(if x.j.f.size≤v2 then av.d 0 0 5 false else .t2 v2 zN (bO.new x.j v2)) else .d 0 0 15 false)=_
     rw[if_pos (by omega),if_neg (by omega),bO.db ⟨eG.1,by omega⟩]
    exact aa (e2.trans (Prod.ext e3 rfl)) (.t2 (lm:=[_]) (qf:=qm) bK rfl zP ⟨eG.1,by omega⟩ (.a ⟨eG.1,by omega⟩) rfl) rfl HQ
  |_=>cases ho
theorem LL {z}{i hd:Int}:DQ x o tv hg q b m vm y (.t2 i hd z):=by
 intro B0 S W R l ro hx hk hy h H
 obtain⟨dD,cG,eu,eO,eL,eP,bq,da,eQ,eY,dX,eM,ml,lQ⟩:=aK hx hk
 cases h with
 |@t2 z i hd lm qm qf w fv fe a1 a2 a3 a4 a5 a7 a9 a10 a11 a12 bK hh zP hi h ho=>
 subst hh
 refine Vx.fm H eH (b:=Tryz.a21) ?_;(repeat' first|constructor|exact ZQ|intro _);all_goals apply zL
 refine Vx.fz (A:=[_,_]) (fun B W S H=>oT cG hy h H) fun a' x' l' e1 hl=>?_
 have e2:av.step x o (.t2 i hd z) y=(nW x o i hd a',x'):=by
  show(nW x o i hd _,_)=_
  rw[e1]
 cases ho:a'.over
 ·(repeat' first|constructor|exact ZQ|intro _)
  all_goals apply zL
  have e3:av.step x o (.t2 i hd z) y=(av.t2 i hd a',x'):=e2.trans (Prod.ext (by cases a'<;>first|rfl|cases ho) rfl)
  exact aa e3 (.t2 bK rfl zP hi hl ho) rfl HQ
 ·cases hl with
  |@d w2 JJ=>
   (repeat' first|constructor|exact ZQ|intro _)
   all_goals apply zL
   ·have hb:bU w2:=Decidable.byContradiction fun h=>by simp[h] at*
    have e3:nW x o i hd (.d w2 0)=.d 0 0 5 false:=by
     show(if bU w2 then av.d 0 0 5 false else .t3 i hd w2 (bE.new x.j i o.c))=_
     rw[if_pos hb]
    exact aa (e2.trans (Prod.ext e3 rfl)) (.d (fun h=>absurd h (by decide))) rfl HQ
   ·have hb:¬bU w2:=fun h=>by simp[h] at*
    have e3:nW x o i hd (.d w2 0)=.t3 i hd w2 .l:=by
     show(if bU w2 then av.d 0 0 5 false else .t3 i hd w2 (bE.new x.j i o.c))=_
     rw[if_neg hb,bE.db hi (by omega)]
    exact aa (e2.trans (Prod.ext e3 rfl)) (.t3 (lm:=[_,_]) bK rfl zP hi ⟨JJ,hb⟩ (.l hi) rfl) rfl HQ
  |_=>cases ho
theorem LM {z}{i hd w:Int}:DQ x o tv hg q b m vm y (.t3 i hd w z):=by
 intro B0 S W R l ro hx hk hy h H
 obtain⟨dD,cG,eu,eO,eL,eP,bq,da,eQ,eY,dX,eM,ml,lQ⟩:=aK hx hk
 cases h with
 |@t3 z i hd w lm qm qf fv fe a1 a2 a3 a5 a6 a7 a9 a10 a11 a12 bK hh zP hi cV h ho=>
 subst hh
 have Qz:0≤w∧w<18446744073709551615:=by have:=cV.1;have:=cV.2;unfold Me.ar bU at*;omega
 have Ed:0≤(w+1)%18446744073709551616∧(w+1)%18446744073709551616<18446744073709551615:=by have:=cV.1;have:=cV.2;unfold Me.ar bU at*;omega
 refine Vx.fm H eH (b:=Tryz.a21) ?_;(repeat' first|constructor|exact ZQ|intro _);all_goals apply zL
 refine Vx.fz (A:=[_,_]) (fun B W S H=>iX cG (by omega) (by omega) (by omega) hy h H) fun a' x' l' e1 hl=>?_
 have e2:av.step x o (.t3 i hd w z) y=(if a'.over then av.t4 i hd w (.p .a 0) else .t3 i hd w a',x'):=by
  show(if _ then _ else _,_)=_
  rw[zu (c2:=0) (by decide) (by decide),e1]
 cases ho:a'.over
 ·(repeat' first|constructor|exact ZQ|intro _)
  all_goals apply zL
  have e3:av.step x o (.t3 i hd w z) y=(av.t3 i hd w a',x'):=e2.trans (Prod.ext (if_neg (by rw[ho];simp)) rfl)
  exact aa e3 (.t3 bK rfl zP hi cV hl ho) rfl HQ
 ·(repeat' first|constructor|exact ZQ|intro _)
  all_goals apply zL
  next p l' hP=>exact aa (e2.trans (Prod.ext (if_pos ho) rfl)) (.t4 bK rfl zP hi cV (show gz x.t o.c w i o.high p 0 (.p .a 0) l' from hP) rfl) rfl HQ
theorem LN {z}{i hd w:Int}:DQ x o tv hg q b m vm y (.t4 i hd w z):=by
 intro B0 S W R l ro hx hk hy h H
 obtain⟨dD,cG,eu,eO,eL,eP,bq,da,eQ,eY,dX,eM,ml,lQ⟩:=aK hx hk
 cases h with
 |@t4 z i hd w bp lm qm qf fv fe a1 a2 a3 a4 a5 a6 a7 a9 a11 a12 bK hh zP hi cV h ho=>
 subst hh
 have Qz:0≤w∧w<18446744073709551615:=by have:=cV.1;have:=cV.2;unfold Me.ar bU at*;omega
 have Ed:0≤(w+1)%18446744073709551616∧(w+1)%18446744073709551616<18446744073709551615:=by have:=cV.1;have:=cV.2;unfold Me.ar bU at*;omega
 have hcm:0≤o.c*(x.room+2)∧o.c*(x.room+2)≤63*18:=⟨Int.mul_nonneg eL.1 (by omega),Int.le_trans (Int.mul_le_mul_of_nonneg_right (show o.c≤63 by omega) (by omega)) (by omega)⟩
 refine Vx.fm H eH (b:=Tryz.a21) ?_;(repeat' first|constructor|exact ZQ|intro _);all_goals apply zL
 refine Vx.fz (A:=[_,_]) (fun B W S H=>zt dD (by omega) ⟨by omega,by omega,by omega⟩ hy ho cV.1 h H) fun a' x' l' e1 hl=>?_
 have e2:av.step x o (.t4 i hd w z) y=(pO x o i hd w a',x'):=by
  show(pO x o i hd w _,_)=_
  rw[e1]
 by_cases ho:a'.over=true
 ·cases hl with
  |@d kR ma al co ly ins n2 p2 LO er=>
   simp only[Tw.p_,Tw.cs,Lb.cs,Ar.cs,Ep.cs,lA,lB]
   (repeat' first|constructor|exact ZQ|intro _)
   all_goals apply zL
   ·have e3:pO x o i hd w (.d er)=.t5 i w er .l:=by
     show(if er=0 then av.t6 i hd w .a else .t5 i w er (bE.new x.j i o.c))=_
     rw[if_neg (by omega),bE.db hi (by omega)]
    exact aa (e2.trans (Prod.ext e3 rfl)) (.t5 (lm:=[_,_]) bK (by omega) (.l hi) rfl) rfl HQ
   ·have e3:pO x o i hd w (.d er)=.t6 i hd w .a:=by
     show(if er=0 then av.t6 i hd w .a else .t5 i w er (bE.new x.j i o.c))=_
     rw[if_pos (by omega)]
    exact aa (e2.trans (Prod.ext e3 rfl)) (.t6 (lm:=[_]) bK (.a zP) rfl) rfl HQ
  |_=>first|cases ho|skip
 ·rw[Bool.not_eq_true] at ho
  obtain⟨Ip,LB,p2,LC,e5,n2,Z9,Z_,LO,cA,VU,JI,rfl⟩:=hl.row
  simp only[Tw.p_,Tw.cs,Lb.cs,Ar.cs,Ep.cs,lA,lB]
  rw[ho]
  (repeat' first|constructor|exact ZQ|intro _)
  all_goals apply zL
  have e3:av.step x o (.t4 i hd w z) y=(av.t4 i hd w a',x'):=e2.trans (Prod.ext (by cases a'<;>first|rfl|cases ho) rfl)
  exact aa e3 (.t4 bK rfl zP hi cV hl ho) rfl HQ
theorem LP {z}{i w e:Int}:DQ x o tv hg q b m vm y (.t5 i w e z):=by
 intro B0 S W R l ro hx hk hy h H
 obtain⟨dD,cG,eu,eO,eL,eP,bq,da,eQ,eY,dX,eM,ml,lQ⟩:=aK hx hk
 cases h with
 |@t5 z i w e lm qm w2 a1 a2 a3 a5 a6 a7 a8 a9 a10 a11 a12 bK he h ho=>
 refine Vx.fm H eH (b:=Tryz.a21) ?_;(repeat' first|constructor|exact ZQ|intro _);all_goals apply zL
 refine Vx.fz (A:=[_]) (fun B W S H=>iX cG (by omega) (by omega) (by omega) hy h H) fun a' x' l' e1 hl=>?_
 have e2:av.step x o (.t5 i w e z) y=(if a'.over then av.d i w e false else .t5 i w e a',x'):=by
  show(if _ then _ else _,_)=_
  rw[zu (c2:=0) (by decide) (by decide),e1]
 cases ho:a'.over
 ·(repeat' first|constructor|exact ZQ|intro _)
  all_goals apply zL
  have e3:av.step x o (.t5 i w e z) y=(av.t5 i w e a',x'):=e2.trans (Prod.ext (if_neg (by rw[ho];simp)) rfl)
  exact aa e3 (.t5 bK he hl ho) rfl HQ
 ·(repeat' first|constructor|exact ZQ|intro _)
  all_goals apply zL
  all_goals first|(exfalso;omega)|exact aa (e2.trans (Prod.ext (if_pos ho) rfl)) (.d (fun h=>absurd h he)) rfl HQ
theorem LQ {z}{i hd w:Int}:DQ x o tv hg q b m vm y (.t6 i hd w z):=by
 intro B0 S W R l ro hx hk hy h H
 obtain⟨dD,cG,eu,eO,eL,eP,bq,da,eQ,eY,dX,eM,ml,lQ⟩:=aK hx hk
 cases h with
 |@t6 z i hd w lm qm a1 a2 a3 a4 a5 a6 a7 a8 a10 a11 a12 bK h ho=>
 refine Vx.fm H eH (b:=Tryz.a21) ?_;(repeat' first|constructor|exact ZQ|intro _);all_goals apply zL
 refine Vx.fz (A:=[_]) (fun B W S H=>Di dX hy h H) fun a' x' l' e1 hl=>?_
 have e2:av.step x o (.t6 i hd w z) y=(if a'.over then av.balance x i w else .t6 i hd w a',x'):=by
  show(if _ then _ else _,_)=_
  rw[e1]
 cases ho:a'.over
 ·(repeat' first|constructor|exact ZQ|intro _)
  all_goals apply zL
  have e3:av.step x o (.t6 i hd w z) y=(av.t6 i hd w a',x'):=e2.trans (Prod.ext (if_neg (by rw[ho];simp)) rfl)
  exact aa e3 (.t6 bK hl ho) rfl HQ
 ·(repeat' first|constructor|exact ZQ|intro _)
  all_goals apply zL
  next p l' hB=>exact aa (e2.trans (Prod.ext (if_pos ho) rfl)) (.oN (show iG x.t x.r o.c p 0 (.k (.p .a)) l' from hB) rfl) rfl HQ
theorem It {z}{i w:Int}:DQ x o tv hg q b m vm y (.oN i w z):=by
 intro B0 S W R l ro hx hk hy h H
 obtain⟨dD,cG,eu,eO,eL,eP,bq,da,eQ,eY,dX,eM,ml,lQ⟩:=aK hx hk
 cases h with
 |@oN z i w bp lm qm a1 a2 a3 a4 a5 a6 a7 a8 a9 a10 a11 h ho=>
 refine Vx.fm H eH (b:=Tryz.a21) ?_;(repeat' first|constructor|exact ZQ|intro _);all_goals apply zL
 refine Vx.fz (A:=[_]) (fun B W S H=>GB dD eu (by omega) hy ho h H) fun a' x' l' e1 hl=>?_
 have e2:av.step x o (.oN i w z) y=(if a'.over then av.d i w 0 false else .oN i w a',x'):=by
  show(if _ then _ else _,_)=_
  rw[e1]
 by_cases ho:a'.over=true
 ·obtain⟨QA,Ip,LA,L2,QB,e5,JI,rfl⟩:=hl.row
  simp only[Rs.cH]
  rw[ho]
  (repeat' first|constructor|exact ZQ|intro _)
  all_goals apply zL
  all_goals first|(exfalso;omega)|exact aa (e2.trans (Prod.ext (if_pos ho) rfl)) (.d (fun _ _=>⟨rfl,rfl⟩)) rfl HQ
 ·rw[Bool.not_eq_true] at ho
  obtain⟨QA,Ip,LA,L2,QB,e5,JI,rfl⟩:=hl.row
  simp only[Rs.cH]
  rw[ho]
  (repeat' first|constructor|exact ZQ|intro _)
  all_goals apply zL
  have e3:av.step x o (.oN i w z) y=(av.oN i w a',x'):=e2.trans (Prod.ext (if_neg (by rw[ho];simp)) rfl)
  exact aa e3 (.oN hl ho) rfl HQ
end
end
section
open av
section
variable{B0 S:AH}{W:List Nat}{R l:List Own}{ro:List aQ}{m q:Nat}{vm tv:AV}{y:Me}{x:Xc}{o:Od}{b hg:Int}
theorem LR (hx:x.ok) (hk:o.ok x) (hy:y.gd) (h:bM x o tv hg q b (.p1) l) (H:Cx B0 W S (l++(aj m vm y++R)) ro):
  aO EM (zF 21) [.ptr q 0,.ptr m 0] S fun u S'=>∃ab,eD (bM x o tv hg q (av.cz x o (.p1))) av.over (av.step x o (.p1) y) (aj m vm) R u ab∧Cx B0 W S' ab ro:=by
 obtain⟨dD,cG,eu,eO,eL,eP,bq,da,eQ,eY,dX,eM,ml,lQ⟩:=aK hx hk
 cases h with
 |@p1 i w a1 a2 a3 a4 a5 a6 a7 a8 a9 a10 a11 a12 bK=>
 refine Vx.fm H eH (b:=Tryz.a21) ?_;(repeat' first|constructor|exact ZQ|intro _);all_goals apply zL
 ·have hr:x.rd (y.word (x.own+o.c))=-1:=if_pos (by omega)
  have e3:av.step x o .p1 y=(av.pick,y.ld (x.own+o.c)):=Prod.ext (if_neg (by rw[hr];omega)) rfl
  next p l' hP=>exact aa e3 (.p2 (by omega) (show jv x.t o.c false p 0 (.p .a) l' from hP) rfl) rfl HQ
 ·have hr:x.rd (y.word (x.own+o.c))=-1:=if_pos (by omega)
  have e3:av.step x o .p1 y=(av.pick,y.ld (x.own+o.c)):=Prod.ext (if_neg (by rw[hr];omega)) rfl
  next p l' hP=>exact aa e3 (.p2 (by omega) (show jv x.t o.c false p 0 (.p .a) l' from hP) rfl) rfl HQ
 ·have hr:x.rd (y.word (x.own+o.c))=y.word (x.own+o.c)-1:=if_neg (by omega)
  have e3:av.step x o .p1 y=(.d 0 0 11 false,y.ld (x.own+o.c)):=Prod.ext (if_pos (by rw[hr];omega)) rfl
  exact aa (e3) (.d (fun h=>absurd h (by decide))) rfl HQ
theorem LS {z}:DQ x o tv hg q b m vm y (.p2 z):=by
 intro B0 S W R l ro hx hk hy h H
 obtain⟨dD,cG,eu,eO,eL,eP,bq,da,eQ,eY,dX,eM,ml,lQ⟩:=aK hx hk
 cases h with
 |@p2 z bp lm qm i w a1 a2 a3 a4 a5 a6 a7 a8 a9 a10 a12 bK h ho=>
 refine Vx.fm H eH (b:=Tryz.a21) ?_;(repeat' first|constructor|exact ZQ|intro _);all_goals apply zL
 refine Vx.fz (A:=[_]) (fun B W S H=>Iq dD (by omega) hy ho h H) fun a' x' l' e1 hl=>?_
 have e2:av.step x o (.p2 z) y=(jf x o a',x'):=by
  show(jf x o _,_)=_
  rw[e1]
 by_cases ho:a'.over=true
 ·cases hl with
  |@d qc kR ma p3 ud gC Ha bc lc h2=>
   cases h2 with
   |d=>
   simp only[Tw.vz,Tw.kQ,Tw.cs,Lb.cs,Ar.cs,Ep.cs,lA,lB]
   (repeat' first|constructor|exact ZQ|intro _)
   all_goals apply zL
   ·have e3:jf x o (.d ud gC Ha)=.d 0 0 0 true:=by
     show(if Ha=0 then(if gC<0∨x.j.f.size≤gC then av.d 0 0 5 false else .p3 gC ud (bE.new x.j gC o.c)) else if o.k=4 then .d 0 0 0 true else .d 0 0 15 false)=_
     rw[if_neg (by omega),if_pos (by omega)]
    exact aa (e2.trans (Prod.ext e3 rfl)) (.d (fun _ h=>by cases h)) rfl HQ
   ·have e3:jf x o (.d ud gC Ha)=.d 0 0 15 false:=by
     show(if Ha=0 then(if gC<0∨x.j.f.size≤gC then av.d 0 0 5 false else .p3 gC ud (bE.new x.j gC o.c)) else if o.k=4 then .d 0 0 0 true else .d 0 0 15 false)=_
     rw[if_neg (by omega),if_neg (by omega)]
    exact aa (e2.trans (Prod.ext e3 rfl)) (.d (fun h=>absurd h (by decide))) rfl HQ
   ·have e3:jf x o (.d ud gC Ha)=.d 0 0 5 false:=by
     show(if Ha=0 then(if gC<0∨x.j.f.size≤gC then av.d 0 0 5 false else .p3 gC ud (bE.new x.j gC o.c)) else if o.k=4 then .d 0 0 0 true else .d 0 0 15 false)=_
     rw[if_pos (by omega),if_pos (by omega)]
    exact aa (e2.trans (Prod.ext e3 rfl)) (.d (fun h=>absurd h (by decide))) rfl HQ
   ·have e3:jf x o (.d ud gC Ha)=.d 0 0 5 false:=by
     show(if Ha=0 then(if gC<0∨x.j.f.size≤gC then av.d 0 0 5 false else .p3 gC ud (bE.new x.j gC o.c)) else if o.k=4 then .d 0 0 0 true else .d 0 0 15 false)=_
     rw[if_pos (by omega),if_pos (by omega)]
    exact aa (e2.trans (Prod.ext e3 rfl)) (.d (fun h=>absurd h (by decide))) rfl HQ
   ·have hj:0≤gC∧gC<x.j.f.size:=by omega
    have e3:jf x o (.d ud gC Ha)=.p3 gC ud .l:=by
     show(if Ha=0 then(if gC<0∨x.j.f.size≤gC then av.d 0 0 5 false else .p3 gC ud (bE.new x.j gC o.c)) else if o.k=4 then .d 0 0 0 true else .d 0 0 15 false)=_
     rw[if_pos (by omega),if_neg (by omega),bE.db hj (by omega)]
    exact aa (e2.trans (Prod.ext e3 rfl)) (.p3 (lm:=[_,_]) hj (.l hj) rfl) rfl HQ
  |_=>first|cases ho|skip
 ·rw[Bool.not_eq_true] at ho
  obtain⟨Ip,LB,p2,LC,na,JI,rfl⟩:=hl.row
  simp only[Tw.vz,Tw.cs,Lb.cs,Ar.cs,Ep.cs,lA,lB]
  rw[ho]
  (repeat' first|constructor|exact ZQ|intro _)
  all_goals apply zL
  have e3:av.step x o (.p2 z) y=(av.p2 a',x'):=e2.trans (Prod.ext (by cases a'<;>first|rfl|cases ho) rfl)
  exact aa e3 (.p2 bK hl ho) rfl HQ
theorem LU {z}{i w:Int}:DQ x o tv hg q b m vm y (.p3 i w z):=by
 intro B0 S W R l ro hx hk hy h H
 obtain⟨dD,cG,eu,eO,eL,eP,bq,da,eQ,eY,dX,eM,ml,lQ⟩:=aK hx hk
 cases h with
 |@p3 z i w lm qm a1 a2 a3 a5 a6 a7 a8 a9 a10 a11 a12 hi h ho=>
 refine Vx.fm H eH (b:=Tryz.a21) ?_;(repeat' first|constructor|exact ZQ|intro _);all_goals apply zL
 refine Vx.fz (A:=[_]) (fun B W S H=>iX cG (by omega) (by omega) (by omega) hy h H) fun a' x' l' e1 hl=>?_
 have e2:av.step x o (.p3 i w z) y=(if a'.over then av.p4 i w else .p3 i w a',x'):=by
  show(if _ then _ else _,_)=_
  rw[e1]
 cases ho:a'.over
 ·(repeat' first|constructor|exact ZQ|intro _)
  all_goals apply zL
  have e3:av.step x o (.p3 i w z) y=(av.p3 i w a',x'):=e2.trans (Prod.ext (if_neg (by rw[ho];simp)) rfl)
  exact aa e3 (.p3 hi hl ho) rfl HQ
 ·(repeat' first|constructor|exact ZQ|intro _)
  all_goals apply zL
  all_goals first|(exfalso;omega)|exact aa (e2.trans (Prod.ext (if_pos ho) rfl)) (.p4 hi) rfl HQ
theorem LV {i w:Int}:DQ x o tv hg q b m vm y (.p4 i w):=by
 intro B0 S W R l ro hx hk hy h H
 obtain⟨dD,cG,eu,eO,eL,eP,bq,da,eQ,eY,dX,eM,ml,lQ⟩:=aK hx hk
 cases h with
 |@p4 i w a1 a2 a3 a4 a5 a6 a7 a8 a9 a10 a11 a12 hi=>
 refine Vx.fm H eH (b:=Tryz.a21) ?_;(repeat' first|constructor|exact ZQ|intro _);all_goals apply zL
 rw[show(i+1)%18446744073709551616=i+1 by omega]
 exact aa rfl .p5 rfl HQ
theorem LW {i w:Int}:DQ x o tv hg q b m vm y (.p5 i w):=by
 intro B0 S W R l ro hx hk hy h H
 obtain⟨dD,cG,eu,eO,eL,eP,bq,da,eQ,eY,dX,eM,ml,lQ⟩:=aK hx hk
 cases h with
 |@p5 i w a1 a2 a3 a4 a5 a6 a7 a8 a9 a10 a11 a12=>
 refine Vx.fm H eH (b:=Tryz.a21) ?_;(repeat' first|constructor|exact ZQ|intro _);all_goals apply zL
 next p l' hB=>exact aa rfl (.oN (show iG x.t x.r o.c p 0 (.k (.p .a)) l' from hB) rfl) rfl HQ
theorem LX (hx:x.ok) (hk:o.ok x) (hy:y.gd) (h:bM x o tv hg q b (.s1) l) (H:Cx B0 W S (l++(aj m vm y++R)) ro):
  aO EM (zF 21) [.ptr q 0,.ptr m 0] S fun u S'=>∃ab,eD (bM x o tv hg q (av.cz x o (.s1))) av.over (av.step x o (.s1) y) (aj m vm) R u ab∧Cx B0 W S' ab ro:=by
 obtain⟨dD,cG,eu,eO,eL,eP,bq,da,eQ,eY,dX,eM,ml,lQ⟩:=aK hx hk
 cases h with
 |@s1 i w a1 a2 a3 a4 a5 a6 a7 a8 a9 a10 a11 a12 bK hh=>
 subst hh
 refine Vx.fm H eH (b:=Tryz.a21) ?_;(repeat' first|constructor|exact ZQ|intro _);all_goals apply zL
 ·exact aa (Prod.ext (if_pos (by omega)) rfl) (.d (fun h=>absurd h (by decide))) rfl HQ
 ·exact aa (Prod.ext (if_neg (by omega)) rfl) (.s2 bK rfl) rfl HQ
theorem LY (hx:x.ok) (hk:o.ok x) (hy:y.gd) (h:bM x o tv hg q b (.s2) l) (H:Cx B0 W S (l++(aj m vm y++R)) ro):
  aO EM (zF 21) [.ptr q 0,.ptr m 0] S fun u S'=>∃ab,eD (bM x o tv hg q (av.cz x o (.s2))) av.over (av.step x o (.s2) y) (aj m vm) R u ab∧Cx B0 W S' ab ro:=by
 obtain⟨dD,cG,eu,eO,eL,eP,bq,da,eQ,eY,dX,eM,ml,lQ⟩:=aK hx hk
 cases h with
 |@s2 i w a1 a2 a3 a4 a5 a6 a7 a8 a9 a10 a11 a12 bK hh=>
 subst hh
 refine Vx.fm H eH (b:=Tryz.a21) ?_;(repeat' first|constructor|exact ZQ|intro _);all_goals apply zL
 exact aa rfl (.s3 bK rfl) rfl HQ
theorem LZ (hx:x.ok) (hk:o.ok x) (hy:y.gd) (h:bM x o tv hg q b (.s3) l) (H:Cx B0 W S (l++(aj m vm y++R)) ro):
  aO EM (zF 21) [.ptr q 0,.ptr m 0] S fun u S'=>∃ab,eD (bM x o tv hg q (av.cz x o (.s3))) av.over (av.step x o (.s3) y) (aj m vm) R u ab∧Cx B0 W S' ab ro:=by
 obtain⟨dD,cG,eu,eO,eL,eP,bq,da,eQ,eY,dX,eM,ml,lQ⟩:=aK hx hk
 cases h with
 |@s3 i w a1 a2 a3 a4 a5 a6 a7 a8 a9 a10 a11 a12 bK hh=>
 subst hh
 refine Vx.fm H eH (b:=Tryz.a21) ?_;(repeat' first|constructor|exact ZQ|intro _);all_goals apply zL
 ·have hr:x.rd (y.word (x.own+o.c))=-1:=if_pos (by omega)
  have e3:av.step x o .s3 y=(av.pick,y.ld (x.own+o.c)):=Prod.ext (if_pos (by rw[hr];omega)) rfl
  next p l' hP=>exact aa e3 (.p2 (by omega) (show jv x.t o.c false p 0 (.p .a) l' from hP) rfl) rfl HQ
 ·have hr:x.rd (y.word (x.own+o.c))=-1:=if_pos (by omega)
  have e3:av.step x o .s3 y=(av.pick,y.ld (x.own+o.c)):=Prod.ext (if_pos (by rw[hr];omega)) rfl
  next p l' hP=>exact aa e3 (.p2 (by omega) (show jv x.t o.c false p 0 (.p .a) l' from hP) rfl) rfl HQ
 ·have hr:x.rd (y.word (x.own+o.c))=y.word (x.own+o.c)-1:=if_neg (by omega)
  have hi:0≤y.word (x.own+o.c)-1∧y.word (x.own+o.c)-1<x.j.f.size:=by omega
  have e3:av.step x o .s3 y=(.s4 (y.word (x.own+o.c)-1) .a,y.ld (x.own+o.c)):=by
   show(if x.rd (y.word (x.own+o.c))<0 then av.pick else .s4 (x.rd (y.word (x.own+o.c))) (bO.new x.j (x.rd (y.word (x.own+o.c)))),_)=_
   rw[hr,if_neg (by omega),bO.db hi]
  exact aa (e3) (.s4 (lm:=[_]) bK rfl hi (.a hi) rfl) rfl HQ
end
end
end Go.cY
