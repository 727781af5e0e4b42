/- Contracts. Conditions: in each theorem. -/
import Derived.Test.YtdfgboafnklioaaGreatM50
import Derived.Test.YtdfgboafnklioaaGreatM51
set_option linter.all false
set_option maxRecDepth 100000
set_option maxHeartbeats 4000000
namespace Go.cG
open Go.Proofs
section
open aG
section
variable{B0 S:AH}{W:List Nat}{R l:List Own}{ro:List aI}{m q:Nat}{vm tv:AV}{y:Me}{x:Xc}{o:Od}{b hg:Int}
theorem OQ {z:bF}{i:Int}:DQ x o tv hg q b m vm y (.s4 i z):=by
 intro B0 S W R l ro hx hk hy h H;obtain⟨eg,cX,eV,fu,fp,fw,bz,dH,fy,fE,eM,fq,nr,mM⟩:=aS hx hk;cases h with
 |@s4 z i lm qm w a1 a2 a3 a4 a5 a7 a8 a9 a10 a11 a12 cB hh hi h ho=>
 subst hh;refine y1 H fi ?_;intros;refine Vx.f_ (A:=[_]) (λB W S H=>pZ cX hy h H) λa' x' l' e1 hl=>?_;have e2:aG.step x o (.s4 i z) y=(n8 x o i a',x'):=by show(n8 x o i _,_)=_;rw[e1]
 cases ho:a'.over
 .refine z1 ?_;have e3:aG.step x o (.s4 i z) y=(aG.s4 i a',x'):=e2.trans (Prod.ext (by cases a'<;>first|rfl|cases ho) rfl);exact aa e3 (.s4 cB rfl hi hl ho) rfl HQ
 .cases hl with
  |@d w2 VZ=>
   refine z3 ?_ ?_ ?_<;>intros
   .have hb:cb w2:=Decidable.byContradiction λh=>by simp[h] at*
    have e3:n8 x o i (.d w2 0)=.d 0 0 5 false:=by show(if cb w2 then aG.d 0 0 5 false else if w2%65536=65535 then .d 0 0 12 false else .s5 i w2 (bg.new x.j i o.c))=_;rw[if_pos hb]
    exact aa (e2.trans (Prod.ext e3 rfl)) (.d (λh=>absurd h ce)) rfl HQ
   .next hz _=>
    have hb:¬cb w2:=λh=>by simp[h] at*
    have hz:w2%65536=65535:=by simpa[hb] using(by assumption:(if cb w2 then 0 else w2%65536)=65535)
    have e3:n8 x o i (.d w2 0)=.d 0 0 12 false:=by show(if cb w2 then aG.d 0 0 5 false else if w2%65536=65535 then .d 0 0 12 false else .s5 i w2 (bg.new x.j i o.c))=_;rw[if_neg hb,if_pos hz]
    exact aa (e2.trans (Prod.ext e3 rfl)) (.d (λh=>absurd h ce)) rfl HQ
   .have hb:¬cb w2:=λh=>by simp[h] at*
    have hz:¬w2%65536=65535:=by simpa[hb] using(by assumption:¬(if cb w2 then 0 else w2%65536)=65535)
    have e3:n8 x o i (.d w2 0)=.s5 i w2 .l:=by show(if cb w2 then aG.d 0 0 5 false else if w2%65536=65535 then .d 0 0 12 false else .s5 i w2 (bg.new x.j i o.c))=_;rw[if_neg hb,if_neg hz,bg.dD hi am]
    exact aa (e2.trans (Prod.ext e3 rfl)) (.s5 (lm:=[_,_]) cB rfl hi ⟨VZ,hb⟩ (.l hi) rfl) rfl HQ
  |_=>cases ho
theorem OS {z:bg}{i w:Int}:DQ x o tv hg q b m vm y (.s5 i w z):=by
 intro B0 S W R l ro hx hk hy h H;obtain⟨eg,cX,eV,fu,fp,fw,bz,dH,fy,fE,eM,fq,nr,mM⟩:=aS hx hk;cases h with
 |@s5 z i w lm qm a1 a2 a3 a5 a6 a7 a8 a9 a10 a11 a12 cB hh hi dL h ho=>
 subst hh;have TN:0<=w/\w<18446744073709551615:=by have:=dL.1;have:=dL.2;unfold Me.aC cb at*;omega
 have JX:0<=(w+1)%18446744073709551616/\(w+1)%18446744073709551616<18446744073709551615:=by have:=dL.1;have:=dL.2;unfold Me.aC cb at*;omega
 refine y1 H fi ?_;intros;refine Vx.f_ (A:=[_]) (λB W S H=>jG cX am am am hy h H) λa' x' l' e1 hl=>?_;have e2:aG.step x o (.s5 i w z) y=(if a'.over then aG.s6 i w else .s5 i w a',x'):=by show(if _ then _ else _,_)=_;rw[e1]
 cases ho:a'.over
 .refine z1 ?_;have e3:aG.step x o (.s5 i w z) y=(aG.s5 i w a',x'):=e2.trans (Prod.ext (if_neg (by rw[ho];simp)) rfl);exact aa e3 (.s5 cB rfl hi dL hl ho) rfl HQ
 .refine z1 ?_;all_goals first|(exfalso;omega)|exact aa (e2.trans (Prod.ext (if_pos ho) rfl)) (.s6 cB rfl hi dL) rfl HQ
theorem OT {i w:Int}:DQ x o tv hg q b m vm y (.s6 i w):=by
 intro B0 S W R l ro hx hk hy h H;obtain⟨eg,cX,eV,fu,fp,fw,bz,dH,fy,fE,eM,fq,nr,mM⟩:=aS hx hk;cases h with
 |@s6 i w a1 a2 a3 a4 a5 a6 a7 a8 a9 a10 a11 a12 cB hh hi dL=>
 subst hh;have TN:0<=w/\w<18446744073709551615:=by have:=dL.1;have:=dL.2;unfold Me.aC cb at*;omega
 have JX:0<=(w+1)%18446744073709551616/\(w+1)%18446744073709551616<18446744073709551615:=by have:=dL.1;have:=dL.2;unfold Me.aC cb at*;omega
 refine y1 H fi ?_;intros;have e3:aG.step x o (.s6 i w) y=(.s7 i w .a,y.st (x.r.runs+o.c) 18446744073709551615):=by show(aG.s7 i w (bF.new x.j i),_)=_;rw[bF.dD hi]
 exact aa (e3) (.s7 (lm:=[_]) cB rfl hi dL (.a hi) rfl) rfl HQ
theorem OU {z:bF}{i w:Int}:DQ x o tv hg q b m vm y (.s7 i w z):=by
 intro B0 S W R l ro hx hk hy h H;obtain⟨eg,cX,eV,fu,fp,fw,bz,dH,fy,fE,eM,fq,nr,mM⟩:=aS hx hk;cases h with
 |@s7 z i w lm qm a1 a2 a3 a4 a6 a7 a8 a9 a10 a11 a12 cB hh hi dL h ho=>
 subst hh;have TN:0<=w/\w<18446744073709551615:=by have:=dL.1;have:=dL.2;unfold Me.aC cb at*;omega
 have JX:0<=(w+1)%18446744073709551616/\(w+1)%18446744073709551616<18446744073709551615:=by have:=dL.1;have:=dL.2;unfold Me.aC cb at*;omega
 refine y1 H fi ?_;intros;refine Vx.f_ (A:=[_]) (λB W S H=>vY cX hy h H) λa' x' l' e1 hl=>?_;have e2:aG.step x o (.s7 i w z) y=(if a'.over then aG.s8 i w (.p .a 0) else .s7 i w a',x'):=by show(if _ then _ else _,_)=_;rw[e1]
 cases ho:a'.over
 .refine z1 ?_;have e3:aG.step x o (.s7 i w z) y=(aG.s7 i w a',x'):=e2.trans (Prod.ext (if_neg (by rw[ho];simp)) rfl);exact aa e3 (.s7 cB rfl hi dL hl ho) rfl HQ
 .refine z1 ?_;intros;next p l' hP=>exact aa (e2.trans (Prod.ext (if_pos ho) rfl)) (.s8 cB rfl hi dL (show ij x.t o.c ((w+1)%18446744073709551616) i o.high p 0 (.p .a 0) l' from hP) rfl) rfl HQ
theorem OV {z:aX}{i w:Int}:DQ x o tv hg q b m vm y (.s8 i w z):=by
 intro B0 S W R l ro hx hk hy h H;obtain⟨eg,cX,eV,fu,fp,fw,bz,dH,fy,fE,eM,fq,nr,mM⟩:=aS hx hk;cases h with
 |@s8 z i w bp lm qm a1 a2 a3 a4 a5 a6 a7 a8 a9 a11 a12 cB hh hi dL h ho=>
 subst hh;have TN:0<=w/\w<18446744073709551615:=by have:=dL.1;have:=dL.2;unfold Me.aC cb at*;omega
 have JX:0<=(w+1)%18446744073709551616/\(w+1)%18446744073709551616<18446744073709551615:=by have:=dL.1;have:=dL.2;unfold Me.aC cb at*;omega
 refine y1 H fi ?_;intros;refine Vx.f_ (A:=[_]) (λB W S H=>Bb eg am ⟨am,am,am⟩ hy ho (by unfold Me.aC;omega) h H) λa' x' l' e1 hl=>?_;have e2:aG.step x o (.s8 i w z) y=(ta x o i w a',x'):=by show(ta x o i w _,_)=_;rw[e1]
 by_cases ho:a'.over=true
 .cases hl with
  |@d mf m8 al co ly ins n2 p2 OE er=>
   simp only[Tw.rF,Tw.cs,Lb.cs,Ar.cs,Ep.cs,lA,lB];refine z2 ?_ ?_<;>intros
   .have e3:ta x o i w (.d er)=.b1 i w er .a:=by show(if er=0 then aG.s9 i w else .b1 i w er (bF.new x.j i))=_;rw[if_neg am,bF.dD hi]
    exact aa (e2.trans (Prod.ext e3 rfl)) (.b1 (lm:=[_]) cB hi am (.a hi) rfl) rfl HQ
   .have e3:ta x o i w (.d er)=.s9 i w:=by show(if er=0 then aG.s9 i w else .b1 i w er (bF.new x.j i))=_;rw[if_pos am]
    exact aa (e2.trans (Prod.ext e3 rfl)) (.s9 cB) rfl HQ
  |_=>first|cases ho|skip
 .rw[Bool.not_eq_true] at ho;obtain⟨KS,Oq,p2,Ot,e5,n2,al2,co2,OE,ly2,Zd,Mq,rfl⟩:=hl.row;simp only[Tw.rF,Tw.cs,Lb.cs,Ar.cs,Ep.cs,lA,lB];rw[ho];refine z1 ?_;have e3:aG.step x o (.s8 i w z) y=(aG.s8 i w a',x'):=e2.trans (Prod.ext (by cases a'<;>first|rfl|cases ho) rfl);exact aa e3 (.s8 cB rfl hi dL hl ho) rfl HQ
theorem OW {i w:Int}:DQ x o tv hg q b m vm y (.s9 i w):=by
 intro B0 S W R l ro hx hk hy h H;obtain⟨eg,cX,eV,fu,fp,fw,bz,dH,fy,fE,eM,fq,nr,mM⟩:=aS hx hk;cases h with
 |@s9 i w a1 a2 a3 a4 a5 a6 a7 a8 a9 a10 a11 a12 cB=>
 refine y1 H fi ?_;intros;next p l' hP=>exact aa rfl (.p2 am (show lN x.t o.c false p 0 (.p .a) l' from hP) rfl) rfl HQ
end
end
section
open aG
section
variable{B0 S:AH}{W:List Nat}{R l:List Own}{ro:List aI}{m q:Nat}{vm tv:AV}{y:Me}{x:Xc}{o:Od}{b hg:Int}
theorem OX {z:bF}{i w e:Int}:DQ x o tv hg q b m vm y (.b1 i w e z):=by
 intro B0 S W R l ro hx hk hy h H;obtain⟨eg,cX,eV,fu,fp,fw,bz,dH,fy,fE,eM,fq,nr,mM⟩:=aS hx hk;cases h with
 |@b1 z i w e lm qm a1 a2 a3 a4 a6 a7 a8 a9 a10 a11 a12 cB hi he h ho=>
 refine y1 H fi ?_;intros;refine Vx.f_ (A:=[_]) (λB W S H=>vY cX hy h H) λa' x' l' e1 hl=>?_;have e2:aG.step x o (.b1 i w e z) y=(if a'.over then aG.b2 i w e (.new x.j i o.c) else .b1 i w e a',x'):=by show(if _ then _ else _,_)=_;rw[e1]
 cases ho:a'.over
 .refine z1 ?_;have e3:aG.step x o (.b1 i w e z) y=(aG.b1 i w e a',x'):=e2.trans (Prod.ext (if_neg (by rw[ho];simp)) rfl);exact aa e3 (.b1 cB hi he hl ho) rfl HQ
 .refine z1 ?_;intros;exact aa (e2.trans (Prod.ext ((if_pos ho).trans (congrArg (aG.b2 i w e) (bg.dD hi am))) rfl)) (.b2 (lm:=[_,_]) cB he (.l hi) rfl) rfl HQ
theorem OY {z:bg}{i w e:Int}:DQ x o tv hg q b m vm y (.b2 i w e z):=by
 intro B0 S W R l ro hx hk hy h H;obtain⟨eg,cX,eV,fu,fp,fw,bz,dH,fy,fE,eM,fq,nr,mM⟩:=aS hx hk;cases h with
 |@b2 z i w e lm qm a1 a2 a3 a5 a6 a7 a8 a9 a10 a11 a12 cB he h ho=>
 refine y1 H fi ?_;intros;refine Vx.f_ (A:=[_]) (λB W S H=>jG cX am am am hy h H) λa' x' l' e1 hl=>?_;have e2:aG.step x o (.b2 i w e z) y=(if a'.over then aG.b3 i w e else .b2 i w e a',x'):=by show(if _ then _ else _,_)=_;rw[e1]
 cases ho:a'.over
 .refine z1 ?_;have e3:aG.step x o (.b2 i w e z) y=(aG.b2 i w e a',x'):=e2.trans (Prod.ext (if_neg (by rw[ho];simp)) rfl);exact aa e3 (.b2 cB he hl ho) rfl HQ
 .refine z1 ?_;all_goals first|(exfalso;omega)|exact aa (e2.trans (Prod.ext (if_pos ho) rfl)) (.b3 cB he) rfl HQ
theorem OZ {i w e:Int}:DQ x o tv hg q b m vm y (.b3 i w e):=by
 intro B0 S W R l ro hx hk hy h H;obtain⟨eg,cX,eV,fu,fp,fw,bz,dH,fy,fE,eM,fq,nr,mM⟩:=aS hx hk;cases h with
 |@b3 i w e a1 a2 a3 a4 a5 a6 a7 a8 a9 a10 a11 a12 cB he=>
 refine y1 H fi ?_;intros;exact aa rfl (.b4 cB he) rfl HQ
theorem O5 {i w e:Int}:DQ x o tv hg q b m vm y (.b4 i w e):=by
 intro B0 S W R l ro hx hk hy h H;obtain⟨eg,cX,eV,fu,fp,fw,bz,dH,fy,fE,eM,fq,nr,mM⟩:=aS hx hk;cases h with
 |@b4 i w e a1 a2 a3 a4 a5 a6 a7 a8 a9 a10 a11 a12 cB he=>
 refine y1 H fi ?_;intros;exact aa rfl (.d (λh=>absurd h he)) rfl HQ
theorem O6 (hx:x.ok) (hk:o.ok x) (hy:y.gd) (h:cd x o tv hg q b (.c1) l) (H:Cx B0 W S (l++(ai m vm y++R)) ro):
  aN EM (zF 21) [.ptr q 0,.ptr m 0] S λu S'=>∃ab,fb (cd x o tv hg q (aG.cR x o (.c1))) aG.over (aG.step x o (.c1) y) (ai m vm) R u ab/\Cx B0 W S' ab ro:=by
 obtain⟨eg,cX,eV,fu,fp,fw,bz,dH,fy,fE,eM,fq,nr,mM⟩:=aS hx hk;cases h with
 |@c1 i w a1 a2 a3 a4 a5 a6 a7 a8 a9 a10 a11 a12 cB=>
 refine y3 H fi ?_ ?_ ?_<;>intros
 .have hr:x.rd (y.word (x.own+o.c))=-1:=if_pos am;have e3:aG.step x o .c1 y=(.d 0 0 15 false,y.ld (x.own+o.c)):=Prod.ext (if_pos (by rw[hr];omega)) rfl;exact aa (e3) (.d (λh=>absurd h ce)) rfl HQ
 .have hr:x.rd (y.word (x.own+o.c))=-1:=if_pos am;have e3:aG.step x o .c1 y=(.d 0 0 15 false,y.ld (x.own+o.c)):=Prod.ext (if_pos (by rw[hr];omega)) rfl;exact aa (e3) (.d (λh=>absurd h ce)) rfl HQ
 .have hr:x.rd (y.word (x.own+o.c))=y.word (x.own+o.c)-1:=if_neg am;have hi:0<=y.word (x.own+o.c)-1/\y.word (x.own+o.c)-1<x.j.f.size:=am;have e3:aG.step x o .c1 y=(.c2 (y.word (x.own+o.c)-1) .a,y.ld (x.own+o.c)):=by show(if x.rd (y.word (x.own+o.c))<0 then aG.d 0 0 15 false else .c2 (x.rd (y.word (x.own+o.c))) (bF.new x.j (x.rd (y.word (x.own+o.c)))),_)=_;rw[hr,if_neg am,bF.dD hi]
  exact aa (e3) (.c2 (lm:=[_]) cB hi (.a hi) rfl) rfl HQ
theorem O7 {z:bF}{i:Int}:DQ x o tv hg q b m vm y (.c2 i z):=by
 intro B0 S W R l ro hx hk hy h H;obtain⟨eg,cX,eV,fu,fp,fw,bz,dH,fy,fE,eM,fq,nr,mM⟩:=aS hx hk;cases h with
 |@c2 z i lm qm w a1 a2 a3 a4 a5 a7 a8 a9 a10 a11 a12 cB hi h ho=>
 refine y1 H fi ?_;intros;refine Vx.f_ (A:=[_]) (λB W S H=>pZ cX hy h H) λa' x' l' e1 hl=>?_;have e2:aG.step x o (.c2 i z) y=(vH x o i a',x'):=by show(vH x o i _,_)=_;rw[e1]
 cases ho:a'.over
 .refine z1 ?_;have e3:aG.step x o (.c2 i z) y=(aG.c2 i a',x'):=e2.trans (Prod.ext (by cases a'<;>first|rfl|cases ho) rfl);exact aa e3 (.c2 cB hi hl ho) rfl HQ
 .cases hl with
  |@d w2 VZ=>
   refine z1 ?_;intros;have e3:vH x o i (.d w2 0)=.c3 i w2 .l:=by show aG.c3 i w2 (bg.new x.j i o.c)=_;rw[bg.dD hi am]
   exact aa (e2.trans (Prod.ext e3 rfl)) (.c3 (lm:=[_,_]) cB hi (.l hi) rfl) rfl HQ
  |_=>cases ho
theorem O8 {z:bg}{i w:Int}:DQ x o tv hg q b m vm y (.c3 i w z):=by
 intro B0 S W R l ro hx hk hy h H;obtain⟨eg,cX,eV,fu,fp,fw,bz,dH,fy,fE,eM,fq,nr,mM⟩:=aS hx hk;cases h with
 |@c3 z i w lm qm a1 a2 a3 a5 a6 a7 a8 a9 a10 a11 a12 cB hi h ho=>
 refine y1 H fi ?_;intros;refine Vx.f_ (A:=[_]) (λB W S H=>jG cX am am am hy h H) λa' x' l' e1 hl=>?_;have e2:aG.step x o (.c3 i w z) y=(if a'.over then aG.c4 i w else .c3 i w a',x'):=by show(if _ then _ else _,_)=_;rw[e1]
 cases ho:a'.over
 .refine z1 ?_;have e3:aG.step x o (.c3 i w z) y=(aG.c3 i w a',x'):=e2.trans (Prod.ext (if_neg (by rw[ho];simp)) rfl);exact aa e3 (.c3 cB hi hl ho) rfl HQ
 .refine z1 ?_;all_goals first|(exfalso;omega)|exact aa (e2.trans (Prod.ext (if_pos ho) rfl)) (.c4 cB hi) rfl HQ
theorem O9 {i w:Int}:DQ x o tv hg q b m vm y (.c4 i w):=by
 intro B0 S W R l ro hx hk hy h H;obtain⟨eg,cX,eV,fu,fp,fw,bz,dH,fy,fE,eM,fq,nr,mM⟩:=aS hx hk;cases h with
 |@c4 i w a1 a2 a3 a4 a5 a6 a7 a8 a9 a10 a11 a12 cB hi=>
 refine y1 H fi ?_;intros;exact aa rfl (.c5 cB hi) rfl HQ
theorem O_ {i w:Int}:DQ x o tv hg q b m vm y (.c5 i w):=by
 intro B0 S W R l ro hx hk hy h H;obtain⟨eg,cX,eV,fu,fp,fw,bz,dH,fy,fE,eM,fq,nr,mM⟩:=aS hx hk;cases h with
 |@c5 i w a1 a2 a3 a4 a5 a6 a7 a8 a9 a10 a11 a12 cB hi=>
 refine y1 H fi ?_;intros;have e3:aG.step x o (.c5 i w) y=(.c6 i w .l,y.st (x.r.runs+o.c) 18446744073709551615):=by show(aG.c6 i w (cW.new x.j i),_)=_;rw[cW.dD hi]
 exact aa (e3) (.c6 (lm:=[_,_]) cB (.l hi) rfl) rfl HQ
theorem Pb {z:cW}{i w:Int}:DQ x o tv hg q b m vm y (.c6 i w z):=by
 intro B0 S W R l ro hx hk hy h H;obtain⟨eg,cX,eV,fu,fp,fw,bz,dH,fy,fE,eM,fq,nr,mM⟩:=aS hx hk;cases h with
 |@c6 z i w lm qm a1 a2 a4 a5 a6 a7 a8 a9 a10 a11 a12 cB h ho=>
 refine y1 H fi ?_;intros;refine Vx.f_ (A:=[_]) (λB W S H=>xY cX hy h H) λa' x' l' e1 hl=>?_;have e2:aG.step x o (.c6 i w z) y=(if a'.over then aG.balance x i w else .c6 i w a',x'):=by show(if _ then _ else _,_)=_;rw[e1]
 cases ho:a'.over
 .refine z1 ?_;have e3:aG.step x o (.c6 i w z) y=(aG.c6 i w a',x'):=e2.trans (Prod.ext (if_neg (by rw[ho];simp)) rfl);exact aa e3 (.c6 cB hl ho) rfl HQ
 .refine z1 ?_;intros;next p l' hB=>exact aa (e2.trans (Prod.ext (if_pos ho) rfl)) (.rk (show kf x.t x.r o.c p 0 (.k (.p .a)) l' from hB) rfl) rfl HQ
end
end
section
variable{B0 S:AH}{W:List Nat}{R l:List Own}{ro:List aI}{m q:Nat}{vm tv:AV}{y:Me}{x:Xc}{o:Od}{b hg:Int}
theorem KX {σ:aG}(hx:x.ok)(hk:o.ok x)(hy:y.gd)(ht:o.k=1->∃(L:List (List AV)) (c:List AV),aI.sl tv 4 L∈ro/\L[o.tk.toNat]?=some c/\c[1]?=some (I o.prio))(h:cd x o tv hg q b σ l)(H:Cx B0 W S (l++(ai m vm y++R)) ro):
  aN EM (zF 21) [.ptr q 0,.ptr m 0] S λu S'=>∃ab,fb (cd x o tv hg q (if σ.over then b else σ.cR x o)) aG.over (σ.step x o y) (ai m vm) R u ab/\Cx B0 W S' ab ro:=by
 cases σ with
 |d i w e n=>
  cases h with
  |d hw=>
   refine y1 H fi ?_;exact aa rfl (.d hw) rfl HQ
 |r3 i=>
  have h1:o.k=1:=by cases h;assumption
  exact Ow hx hk hy (ht h1) h H
 |r1=>exact Ou hx hk hy h H
 |r2=>exact Ov hx hk hy h H
 |r4=>exact Ox hx hk hy h H
 |r5=>exact Oy hx hk hy h H
 |r6=>exact Oz hx hk hy h H
 |t1=>exact OA hx hk hy h H
 |t2=>exact OB hx hk hy h H
 |t3=>exact OC hx hk hy h H
 |t4=>exact OD hx hk hy h H
 |t5=>exact OG hx hk hy h H
 |t6=>exact OH hx hk hy h H
 |rk=>exact KW hx hk hy h H
 |p1=>exact OI hx hk hy h H
 |p2=>exact OJ hx hk hy h H
 |p3=>exact OK hx hk hy h H
 |p4=>exact OL hx hk hy h H
 |p5=>exact OM hx hk hy h H
 |s1=>exact ON hx hk hy h H
 |s2=>exact OO hx hk hy h H
 |s3=>exact OP hx hk hy h H
 |s4=>exact OQ hx hk hy h H
 |s5=>exact OS hx hk hy h H
 |s6=>exact OT hx hk hy h H
 |s7=>exact OU hx hk hy h H
 |s8=>exact OV hx hk hy h H
 |s9=>exact OW hx hk hy h H
 |b1=>exact OX hx hk hy h H
 |b2=>exact OY hx hk hy h H
 |b3=>exact OZ hx hk hy h H
 |b4=>exact O5 hx hk hy h H
 |c1=>exact O6 hx hk hy h H
 |c2=>exact O7 hx hk hy h H
 |c3=>exact O8 hx hk hy h H
 |c4=>exact O9 hx hk hy h H
 |c5=>exact O_ hx hk hy h H
 |c6=>exact Pb hx hk hy h H
end
end Go.cG
