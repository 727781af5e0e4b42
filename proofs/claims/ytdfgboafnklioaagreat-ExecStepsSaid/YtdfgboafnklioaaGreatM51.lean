/- Contracts. Conditions: in each theorem. -/
import Derived.Test.YtdfgboafnklioaaGreatM50
set_option linter.all false
set_option maxRecDepth 100000
set_option maxHeartbeats 4000000
namespace Go.cG
open Go.Proofs
section
open aG
section
variable{B0 S:AH}{W:List Nat}{R l:List Own}{ro:List aI}{m q:Nat}{vm tv:AV}{y:Me}{x:Xc}{o:Od}{b hg:Int}
theorem OA {z:eS}:DQ x o tv hg q b m vm y (.t1 z):=by
 intro B0 S W R l ro hx hk hy h H;obtain⟨eg,cX,eV,fu,fp,fw,bz,dH,fy,fE,eM,fq,nr,mM⟩:=aS hx hk;cases h with
 |@t1 z lm qm i w a1 a2 a3 a4 a5 a6 a7 a9 a10 a11 a12 cB hh h ho=>
 subst hh;refine y1 H fi ?_;intros;refine Vx.f_ (A:=[_]) (λB W S H=>CA eM hy h H) λa' x' l' e1 hl=>?_;have e2:aG.step x o (.t1 z) y=(nZ x o a',x'):=by show(nZ x o _,_)=_;rw[e1]
 cases ho:a'.over
 .refine z1 ?_;have e3:aG.step x o (.t1 z) y=(aG.t1 a',x'):=e2.trans (Prod.ext (by cases a'<;>first|rfl|cases ho) rfl);exact aa e3 (.t1 cB rfl hl ho) rfl HQ
 .cases hl with
  |@d Bv v2 QH Fh fh=>
   refine z3 ?_ ?_ ?_<;>intros
   .have e3:nZ x o (.d Bv v2 QH)=.d 0 0 15 false:=by show(if QH=0 then(if x.j.f.size<=v2 then aG.d 0 0 5 false else .t2 v2 Bv (bF.new x.j v2)) else .d 0 0 15 false)=_;rw[if_neg am]
    exact aa (e2.trans (Prod.ext e3 rfl)) (.d (λh=>absurd h ce)) rfl HQ
   .have e3:nZ x o (.d Bv v2 QH)=.d 0 0 5 false:=by show(if QH=0 then(if x.j.f.size<=v2 then aG.d 0 0 5 false else .t2 v2 Bv (bF.new x.j v2)) else .d 0 0 15 false)=_;rw[if_pos am,if_pos am]
    exact aa (e2.trans (Prod.ext e3 rfl)) (.d (λh=>absurd h ce)) rfl HQ
   .have e3:nZ x o (.d Bv v2 QH)=.t2 v2 Bv .a:=by show(if QH=0 then(if x.j.f.size<=v2 then aG.d 0 0 5 false else .t2 v2 Bv (bF.new x.j v2)) else .d 0 0 15 false)=_;rw[if_pos am,if_neg am,bF.dD ⟨fh.1,am⟩]
    exact aa (e2.trans (Prod.ext e3 rfl)) (.t2 (lm:=[_]) (qf:=qm) cB rfl Fh ⟨fh.1,am⟩ (.a ⟨fh.1,am⟩) rfl) rfl HQ
  |_=>cases ho
theorem OB {z:bF}{i hd:Int}:DQ x o tv hg q b m vm y (.t2 i hd z):=by
 intro B0 S W R l ro hx hk hy h H;obtain⟨eg,cX,eV,fu,fp,fw,bz,dH,fy,fE,eM,fq,nr,mM⟩:=aS hx hk;cases h with
 |@t2 z i hd lm qm qf w fv fe a1 a2 a3 a4 a5 a7 a9 a10 a11 a12 cB hh Fh hi h ho=>
 subst hh;refine y1 H fi ?_;intros;refine Vx.f_ (A:=[_,_]) (λB W S H=>pZ cX hy h H) λa' x' l' e1 hl=>?_;have e2:aG.step x o (.t2 i hd z) y=(rl x o i hd a',x'):=by show(rl x o i hd _,_)=_;rw[e1]
 cases ho:a'.over
 .refine z1 ?_;have e3:aG.step x o (.t2 i hd z) y=(aG.t2 i hd a',x'):=e2.trans (Prod.ext (by cases a'<;>first|rfl|cases ho) rfl);exact aa e3 (.t2 cB rfl Fh hi hl ho) rfl HQ
 .cases hl with
  |@d w2 VZ=>
   refine z2 ?_ ?_<;>intros
   .have hb:cb w2:=Decidable.byContradiction λh=>by simp[h] at*
    have e3:rl x o i hd (.d w2 0)=.d 0 0 5 false:=by show(if cb w2 then aG.d 0 0 5 false else .t3 i hd w2 (bg.new x.j i o.c))=_;rw[if_pos hb]
    exact aa (e2.trans (Prod.ext e3 rfl)) (.d (λh=>absurd h ce)) rfl HQ
   .have hb:¬cb w2:=λh=>by simp[h] at*
    have e3:rl x o i hd (.d w2 0)=.t3 i hd w2 .l:=by show(if cb w2 then aG.d 0 0 5 false else .t3 i hd w2 (bg.new x.j i o.c))=_;rw[if_neg hb,bg.dD hi am]
    exact aa (e2.trans (Prod.ext e3 rfl)) (.t3 (lm:=[_,_]) cB rfl Fh hi ⟨VZ,hb⟩ (.l hi) rfl) rfl HQ
  |_=>cases ho
theorem OC {z:bg}{i hd w:Int}:DQ x o tv hg q b m vm y (.t3 i hd w z):=by
 intro B0 S W R l ro hx hk hy h H;obtain⟨eg,cX,eV,fu,fp,fw,bz,dH,fy,fE,eM,fq,nr,mM⟩:=aS hx hk;cases h with
 |@t3 z i hd w lm qm qf fv fe a1 a2 a3 a5 a6 a7 a9 a10 a11 a12 cB hh Fh hi dL h ho=>
 subst hh;have TN:0<=w/\w<18446744073709551615:=by have:=dL.1;have:=dL.2;unfold Me.aC cb at*;omega
 have JX:0<=(w+1)%18446744073709551616/\(w+1)%18446744073709551616<18446744073709551615:=by have:=dL.1;have:=dL.2;unfold Me.aC cb at*;omega
 refine y1 H fi ?_;intros;refine Vx.f_ (A:=[_,_]) (λB W S H=>jG cX am am am hy h H) λa' x' l' e1 hl=>?_;have e2:aG.step x o (.t3 i hd w z) y=(if a'.over then aG.t4 i hd w (.p .a 0) else .t3 i hd w a',x'):=by show(if _ then _ else _,_)=_;rw[Bc (c2:=0) ce ce,e1]
 cases ho:a'.over
 .refine z1 ?_;have e3:aG.step x o (.t3 i hd w z) y=(aG.t3 i hd w a',x'):=e2.trans (Prod.ext (if_neg (by rw[ho];simp)) rfl);exact aa e3 (.t3 cB rfl Fh hi dL hl ho) rfl HQ
 .refine z1 ?_;intros;next p l' hP=>exact aa (e2.trans (Prod.ext (if_pos ho) rfl)) (.t4 cB rfl Fh hi dL (show ij x.t o.c w i o.high p 0 (.p .a 0) l' from hP) rfl) rfl HQ
theorem OD {z:aX}{i hd w:Int}:DQ x o tv hg q b m vm y (.t4 i hd w z):=by
 intro B0 S W R l ro hx hk hy h H;obtain⟨eg,cX,eV,fu,fp,fw,bz,dH,fy,fE,eM,fq,nr,mM⟩:=aS hx hk;cases h with
 |@t4 z i hd w bp lm qm qf fv fe a1 a2 a3 a4 a5 a6 a7 a9 a11 a12 cB hh Fh hi dL h ho=>
 subst hh;have TN:0<=w/\w<18446744073709551615:=by have:=dL.1;have:=dL.2;unfold Me.aC cb at*;omega
 have JX:0<=(w+1)%18446744073709551616/\(w+1)%18446744073709551616<18446744073709551615:=by have:=dL.1;have:=dL.2;unfold Me.aC cb at*;omega
 have hcm:0<=o.c*(x.room+2)/\o.c*(x.room+2)<=63*18:=⟨Int.mul_nonneg fp.1 am,Int.le_trans (Int.mul_le_mul_of_nonneg_right (show o.c<=63 by omega) am) am⟩;refine y1 H fi ?_;intros;refine Vx.f_ (A:=[_,_]) (λB W S H=>Bb eg am ⟨am,am,am⟩ hy ho dL.1 h H) λa' x' l' e1 hl=>?_;have e2:aG.step x o (.t4 i hd w z) y=(s_ x o i hd w a',x'):=by show(s_ x o i hd w _,_)=_;rw[e1]
 by_cases ho:a'.over=true
 .cases hl with
  |@d mf m8 al co ly ins n2 p2 OE er=>
   simp only[Tw.rF,Tw.cs,Lb.cs,Ar.cs,Ep.cs,lA,lB];refine z2 ?_ ?_<;>intros
   .have e3:s_ x o i hd w (.d er)=.t5 i w er .l:=by show(if er=0 then aG.t6 i hd w .a else .t5 i w er (bg.new x.j i o.c))=_;rw[if_neg am,bg.dD hi am]
    exact aa (e2.trans (Prod.ext e3 rfl)) (.t5 (lm:=[_,_]) cB am (.l hi) rfl) rfl HQ
   .have e3:s_ x o i hd w (.d er)=.t6 i hd w .a:=by show(if er=0 then aG.t6 i hd w .a else .t5 i w er (bg.new x.j i o.c))=_;rw[if_pos am]
    exact aa (e2.trans (Prod.ext e3 rfl)) (.t6 (lm:=[_]) cB (.a Fh) rfl) rfl HQ
  |_=>first|cases ho|skip
 .rw[Bool.not_eq_true] at ho;obtain⟨KS,Oq,p2,Ot,e5,n2,al2,co2,OE,ly2,Zd,Mq,rfl⟩:=hl.row;simp only[Tw.rF,Tw.cs,Lb.cs,Ar.cs,Ep.cs,lA,lB];rw[ho];refine z1 ?_;have e3:aG.step x o (.t4 i hd w z) y=(aG.t4 i hd w a',x'):=e2.trans (Prod.ext (by cases a'<;>first|rfl|cases ho) rfl);exact aa e3 (.t4 cB rfl Fh hi dL hl ho) rfl HQ
theorem OG {z:bg}{i w e:Int}:DQ x o tv hg q b m vm y (.t5 i w e z):=by
 intro B0 S W R l ro hx hk hy h H;obtain⟨eg,cX,eV,fu,fp,fw,bz,dH,fy,fE,eM,fq,nr,mM⟩:=aS hx hk;cases h with
 |@t5 z i w e lm qm w2 a1 a2 a3 a5 a6 a7 a8 a9 a10 a11 a12 cB he h ho=>
 refine y1 H fi ?_;intros;refine Vx.f_ (A:=[_]) (λB W S H=>jG cX am am am hy h H) λa' x' l' e1 hl=>?_;have e2:aG.step x o (.t5 i w e z) y=(if a'.over then aG.d i w e false else .t5 i w e a',x'):=by show(if _ then _ else _,_)=_;rw[Bc (c2:=0) ce ce,e1]
 cases ho:a'.over
 .refine z1 ?_;have e3:aG.step x o (.t5 i w e z) y=(aG.t5 i w e a',x'):=e2.trans (Prod.ext (if_neg (by rw[ho];simp)) rfl);exact aa e3 (.t5 cB he hl ho) rfl HQ
 .refine z1 ?_;all_goals first|(exfalso;omega)|exact aa (e2.trans (Prod.ext (if_pos ho) rfl)) (.d (λh=>absurd h he)) rfl HQ
theorem OH {z:j7}{i hd w:Int}:DQ x o tv hg q b m vm y (.t6 i hd w z):=by
 intro B0 S W R l ro hx hk hy h H;obtain⟨eg,cX,eV,fu,fp,fw,bz,dH,fy,fE,eM,fq,nr,mM⟩:=aS hx hk;cases h with
 |@t6 z i hd w lm qm a1 a2 a3 a4 a5 a6 a7 a8 a10 a11 a12 cB h ho=>
 refine y1 H fi ?_;intros;refine Vx.f_ (A:=[_]) (λB W S H=>Fa eM hy h H) λa' x' l' e1 hl=>?_;have e2:aG.step x o (.t6 i hd w z) y=(if a'.over then aG.balance x i w else .t6 i hd w a',x'):=by show(if _ then _ else _,_)=_;rw[e1]
 cases ho:a'.over
 .refine z1 ?_;have e3:aG.step x o (.t6 i hd w z) y=(aG.t6 i hd w a',x'):=e2.trans (Prod.ext (if_neg (by rw[ho];simp)) rfl);exact aa e3 (.t6 cB hl ho) rfl HQ
 .refine z1 ?_;intros;next p l' hB=>exact aa (e2.trans (Prod.ext (if_pos ho) rfl)) (.rk (show kf x.t x.r o.c p 0 (.k (.p .a)) l' from hB) rfl) rfl HQ
theorem KW {z:cS}{i w:Int}:DQ x o tv hg q b m vm y (.rk i w z):=by
 intro B0 S W R l ro hx hk hy h H;obtain⟨eg,cX,eV,fu,fp,fw,bz,dH,fy,fE,eM,fq,nr,mM⟩:=aS hx hk;cases h with
 |@rk z i w bp lm qm a1 a2 a3 a4 a5 a6 a7 a8 a9 a10 a11 h ho=>
 refine y1 H fi ?_;refine Vx.f_ (A:=[_]) (λB W S H=>IC eg eV am hy ho h H) λa' x' l' e1 hl=>?_;have e2:aG.step x o (.rk i w z) y=(if a'.over then aG.d i w 0 false else .rk i w a',x'):=by show(if _ then _ else _,_)=_;rw[e1]
 by_cases ho:a'.over=true
 .obtain⟨TO,KS,Oo,L2,TP,e5,Mq,rfl⟩:=hl.row;simp only[Rs.cY];rw[ho];refine z1 ?_;all_goals first|(exfalso;omega)|exact aa (e2.trans (Prod.ext (if_pos ho) rfl)) (.d (λ_ _=>⟨rfl,rfl⟩)) rfl HQ
 .rw[Bool.not_eq_true] at ho;obtain⟨TO,KS,Oo,L2,TP,e5,Mq,rfl⟩:=hl.row;simp only[Rs.cY];rw[ho];refine z1 ?_;have e3:aG.step x o (.rk i w z) y=(aG.rk i w a',x'):=e2.trans (Prod.ext (if_neg (by rw[ho];simp)) rfl);exact aa e3 (.rk hl ho) rfl HQ
end
end
section
open aG
section
variable{B0 S:AH}{W:List Nat}{R l:List Own}{ro:List aI}{m q:Nat}{vm tv:AV}{y:Me}{x:Xc}{o:Od}{b hg:Int}
theorem OI (hx:x.ok) (hk:o.ok x) (hy:y.gd) (h:cd x o tv hg q b (.p1) l) (H:Cx B0 W S (l++(ai m vm y++R)) ro):
  aN EM (zF 21) [.ptr q 0,.ptr m 0] S λu S'=>∃ab,fb (cd x o tv hg q (aG.cR x o (.p1))) aG.over (aG.step x o (.p1) y) (ai m vm) R u ab/\Cx B0 W S' ab ro:=by
 obtain⟨eg,cX,eV,fu,fp,fw,bz,dH,fy,fE,eM,fq,nr,mM⟩:=aS hx hk;cases h with
 |@p1 i w a1 a2 a3 a4 a5 a6 a7 a8 a9 a10 a11 a12 cB=>
 refine y3 H fi ?_ ?_ ?_<;>intros
 .have hr:x.rd (y.word (x.own+o.c))=-1:=if_pos am;have e3:aG.step x o .p1 y=(aG.pick,y.ld (x.own+o.c)):=Prod.ext (if_neg (by rw[hr];omega)) rfl;next p l' hP=>exact aa e3 (.p2 am (show lN x.t o.c false p 0 (.p .a) l' from hP) rfl) rfl HQ
 .have hr:x.rd (y.word (x.own+o.c))=-1:=if_pos am;have e3:aG.step x o .p1 y=(aG.pick,y.ld (x.own+o.c)):=Prod.ext (if_neg (by rw[hr];omega)) rfl;next p l' hP=>exact aa e3 (.p2 am (show lN x.t o.c false p 0 (.p .a) l' from hP) rfl) rfl HQ
 .have hr:x.rd (y.word (x.own+o.c))=y.word (x.own+o.c)-1:=if_neg am;have e3:aG.step x o .p1 y=(.d 0 0 11 false,y.ld (x.own+o.c)):=Prod.ext (if_pos (by rw[hr];omega)) rfl;exact aa (e3) (.d (λh=>absurd h ce)) rfl HQ
theorem OJ {z:et}:DQ x o tv hg q b m vm y (.p2 z):=by
 intro B0 S W R l ro hx hk hy h H;obtain⟨eg,cX,eV,fu,fp,fw,bz,dH,fy,fE,eM,fq,nr,mM⟩:=aS hx hk;cases h with
 |@p2 z bp lm qm i w a1 a2 a3 a4 a5 a6 a7 a8 a9 a10 a12 cB h ho=>
 refine y1 H fi ?_;refine Vx.f_ (A:=[_]) (λB W S H=>KT eg am hy ho h H) λa' x' l' e1 hl=>?_;have e2:aG.step x o (.p2 z) y=(kQ x o a',x'):=by show(kQ x o _,_)=_;rw[e1]
 by_cases ho:a'.over=true
 .cases hl with
  |@d qc mf m8 p3 vZ hO Jz bc lc h2=>
   cases h2 with
   |d=>
   simp only[Tw.xe,Tw.mb,Tw.cs,Lb.cs,Ar.cs,Ep.cs,lA,lB]
   (repeat' first|constructor|exact ZQ|intro _)
   all_goals apply zL
   .have e3:kQ x o (.d vZ hO Jz)=.d 0 0 0 true:=by show(if Jz=0 then(if hO<0\/x.j.f.size<=hO then aG.d 0 0 5 false else .p3 hO vZ (bg.new x.j hO o.c)) else if o.k=4 then .d 0 0 0 true else .d 0 0 15 false)=_;rw[if_neg am,if_pos am]
    exact aa (e2.trans (Prod.ext e3 rfl)) (.d (λ_ h=>by cases h)) rfl HQ
   .have e3:kQ x o (.d vZ hO Jz)=.d 0 0 15 false:=by show(if Jz=0 then(if hO<0\/x.j.f.size<=hO then aG.d 0 0 5 false else .p3 hO vZ (bg.new x.j hO o.c)) else if o.k=4 then .d 0 0 0 true else .d 0 0 15 false)=_;rw[if_neg am,if_neg am]
    exact aa (e2.trans (Prod.ext e3 rfl)) (.d (λh=>absurd h ce)) rfl HQ
   .have e3:kQ x o (.d vZ hO Jz)=.d 0 0 5 false:=by show(if Jz=0 then(if hO<0\/x.j.f.size<=hO then aG.d 0 0 5 false else .p3 hO vZ (bg.new x.j hO o.c)) else if o.k=4 then .d 0 0 0 true else .d 0 0 15 false)=_;rw[if_pos am,if_pos am]
    exact aa (e2.trans (Prod.ext e3 rfl)) (.d (λh=>absurd h ce)) rfl HQ
   .have e3:kQ x o (.d vZ hO Jz)=.d 0 0 5 false:=by show(if Jz=0 then(if hO<0\/x.j.f.size<=hO then aG.d 0 0 5 false else .p3 hO vZ (bg.new x.j hO o.c)) else if o.k=4 then .d 0 0 0 true else .d 0 0 15 false)=_;rw[if_pos am,if_pos am]
    exact aa (e2.trans (Prod.ext e3 rfl)) (.d (λh=>absurd h ce)) rfl HQ
   .have hj:0<=hO/\hO<x.j.f.size:=am;have e3:kQ x o (.d vZ hO Jz)=.p3 hO vZ .l:=by show(if Jz=0 then(if hO<0\/x.j.f.size<=hO then aG.d 0 0 5 false else .p3 hO vZ (bg.new x.j hO o.c)) else if o.k=4 then .d 0 0 0 true else .d 0 0 15 false)=_;rw[if_pos am,if_neg am,bg.dD hj am]
    exact aa (e2.trans (Prod.ext e3 rfl)) (.p3 (lm:=[_,_]) hj (.l hj) rfl) rfl HQ
  |_=>first|cases ho|skip
 .rw[Bool.not_eq_true] at ho;obtain⟨KS,Oq,p2,Ot,oq,Mq,rfl⟩:=hl.row;simp only[Tw.xe,Tw.cs,Lb.cs,Ar.cs,Ep.cs,lA,lB];rw[ho];refine z1 ?_;have e3:aG.step x o (.p2 z) y=(aG.p2 a',x'):=e2.trans (Prod.ext (by cases a'<;>first|rfl|cases ho) rfl);exact aa e3 (.p2 cB hl ho) rfl HQ
theorem OK {z:bg}{i w:Int}:DQ x o tv hg q b m vm y (.p3 i w z):=by
 intro B0 S W R l ro hx hk hy h H;obtain⟨eg,cX,eV,fu,fp,fw,bz,dH,fy,fE,eM,fq,nr,mM⟩:=aS hx hk;cases h with
 |@p3 z i w lm qm a1 a2 a3 a5 a6 a7 a8 a9 a10 a11 a12 hi h ho=>
 refine y1 H fi ?_;refine Vx.f_ (A:=[_]) (λB W S H=>jG cX am am am hy h H) λa' x' l' e1 hl=>?_;have e2:aG.step x o (.p3 i w z) y=(if a'.over then aG.p4 i w else .p3 i w a',x'):=by show(if _ then _ else _,_)=_;rw[e1]
 cases ho:a'.over
 .refine z1 ?_;have e3:aG.step x o (.p3 i w z) y=(aG.p3 i w a',x'):=e2.trans (Prod.ext (if_neg (by rw[ho];simp)) rfl);exact aa e3 (.p3 hi hl ho) rfl HQ
 .refine z1 ?_;all_goals first|(exfalso;omega)|exact aa (e2.trans (Prod.ext (if_pos ho) rfl)) (.p4 hi) rfl HQ
theorem OL {i w:Int}:DQ x o tv hg q b m vm y (.p4 i w):=by
 intro B0 S W R l ro hx hk hy h H;obtain⟨eg,cX,eV,fu,fp,fw,bz,dH,fy,fE,eM,fq,nr,mM⟩:=aS hx hk;cases h with
 |@p4 i w a1 a2 a3 a4 a5 a6 a7 a8 a9 a10 a11 a12 hi=>
 refine y1 H fi ?_;rw[show(i+1)%18446744073709551616=i+1 by omega];exact aa rfl .p5 rfl HQ
theorem OM {i w:Int}:DQ x o tv hg q b m vm y (.p5 i w):=by
 intro B0 S W R l ro hx hk hy h H;obtain⟨eg,cX,eV,fu,fp,fw,bz,dH,fy,fE,eM,fq,nr,mM⟩:=aS hx hk;cases h with
 |@p5 i w a1 a2 a3 a4 a5 a6 a7 a8 a9 a10 a11 a12=>
 refine y1 H fi ?_;intros;next p l' hB=>exact aa rfl (.rk (show kf x.t x.r o.c p 0 (.k (.p .a)) l' from hB) rfl) rfl HQ
theorem ON (hx:x.ok) (hk:o.ok x) (hy:y.gd) (h:cd x o tv hg q b (.s1) l) (H:Cx B0 W S (l++(ai m vm y++R)) ro):
  aN EM (zF 21) [.ptr q 0,.ptr m 0] S λu S'=>∃ab,fb (cd x o tv hg q (aG.cR x o (.s1))) aG.over (aG.step x o (.s1) y) (ai m vm) R u ab/\Cx B0 W S' ab ro:=by
 obtain⟨eg,cX,eV,fu,fp,fw,bz,dH,fy,fE,eM,fq,nr,mM⟩:=aS hx hk;cases h with
 |@s1 i w a1 a2 a3 a4 a5 a6 a7 a8 a9 a10 a11 a12 cB hh=>
 subst hh;refine y2 H fi ?_ ?_<;>intros
 .exact aa (Prod.ext (if_pos am) rfl) (.d (λh=>absurd h ce)) rfl HQ
 .exact aa (Prod.ext (if_neg am) rfl) (.s2 cB rfl) rfl HQ
theorem OO (hx:x.ok) (hk:o.ok x) (hy:y.gd) (h:cd x o tv hg q b (.s2) l) (H:Cx B0 W S (l++(ai m vm y++R)) ro):
  aN EM (zF 21) [.ptr q 0,.ptr m 0] S λu S'=>∃ab,fb (cd x o tv hg q (aG.cR x o (.s2))) aG.over (aG.step x o (.s2) y) (ai m vm) R u ab/\Cx B0 W S' ab ro:=by
 obtain⟨eg,cX,eV,fu,fp,fw,bz,dH,fy,fE,eM,fq,nr,mM⟩:=aS hx hk;cases h with
 |@s2 i w a1 a2 a3 a4 a5 a6 a7 a8 a9 a10 a11 a12 cB hh=>
 subst hh;refine y1 H fi ?_;intros;exact aa rfl (.s3 cB rfl) rfl HQ
theorem OP (hx:x.ok) (hk:o.ok x) (hy:y.gd) (h:cd x o tv hg q b (.s3) l) (H:Cx B0 W S (l++(ai m vm y++R)) ro):
  aN EM (zF 21) [.ptr q 0,.ptr m 0] S λu S'=>∃ab,fb (cd x o tv hg q (aG.cR x o (.s3))) aG.over (aG.step x o (.s3) y) (ai m vm) R u ab/\Cx B0 W S' ab ro:=by
 obtain⟨eg,cX,eV,fu,fp,fw,bz,dH,fy,fE,eM,fq,nr,mM⟩:=aS hx hk;cases h with
 |@s3 i w a1 a2 a3 a4 a5 a6 a7 a8 a9 a10 a11 a12 cB hh=>
 subst hh;refine y3 H fi ?_ ?_ ?_<;>intros
 .have hr:x.rd (y.word (x.own+o.c))=-1:=if_pos am;have e3:aG.step x o .s3 y=(aG.pick,y.ld (x.own+o.c)):=Prod.ext (if_pos (by rw[hr];omega)) rfl;next p l' hP=>exact aa e3 (.p2 am (show lN x.t o.c false p 0 (.p .a) l' from hP) rfl) rfl HQ
 .have hr:x.rd (y.word (x.own+o.c))=-1:=if_pos am;have e3:aG.step x o .s3 y=(aG.pick,y.ld (x.own+o.c)):=Prod.ext (if_pos (by rw[hr];omega)) rfl;next p l' hP=>exact aa e3 (.p2 am (show lN x.t o.c false p 0 (.p .a) l' from hP) rfl) rfl HQ
 .have hr:x.rd (y.word (x.own+o.c))=y.word (x.own+o.c)-1:=if_neg am;have hi:0<=y.word (x.own+o.c)-1/\y.word (x.own+o.c)-1<x.j.f.size:=am;have e3:aG.step x o .s3 y=(.s4 (y.word (x.own+o.c)-1) .a,y.ld (x.own+o.c)):=by show(if x.rd (y.word (x.own+o.c))<0 then aG.pick else .s4 (x.rd (y.word (x.own+o.c))) (bF.new x.j (x.rd (y.word (x.own+o.c)))),_)=_;rw[hr,if_neg am,bF.dD hi]
  exact aa (e3) (.s4 (lm:=[_]) cB rfl hi (.a hi) rfl) rfl HQ
end
end
end Go.cG
