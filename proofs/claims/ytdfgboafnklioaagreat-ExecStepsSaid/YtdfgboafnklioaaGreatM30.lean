/- Contracts. Conditions: in each theorem. -/
import Derived.Test.YtdfgboafnklioaaGreatM24
set_option linter.all false
set_option maxRecDepth 100000
set_option maxHeartbeats 4000000
namespace Go.cG
open Go.Proofs
def Xc.ok (x:Xc):Prop:=x.t.ok/\x.j.ok/\x.r.ok/\((0<=x.ct/\x.ct<4096)/\1<=x.many/\x.many<4096)/\((0<=x.iZ/\x.iZ<4096)/\(1<=x.aq/\x.aq<=64)/\1<=x.room/\x.room<=16)/\((0<=x.own/\x.own<4096)/\0<=x.seq/\x.seq<4096)/\x.aq=x.t.l.e.ad/\x.r.ad=x.t.l.e.ad/\x.j.f.size<=64
def Od.ok (o:Od)(x:Xc):Prop:=(0<=o.c/\o.c<x.t.l.e.ad)/\(1<=o.high/\o.high<=x.t.ht)/\(o.k=1->(0<=o.tk/\o.tk<x.many)/\(0<=o.prio/\o.prio<=254)/\(0<=o.every/\o.every<=1099511627776)/\0<=o.now/\o.now<=1099511627776)
def lK (sv:AV):Prop:=odd sv=false/\sv.cells=[sv]/\AV.beq sv sv=true
structure Pk where
 fn:Nat
 F:List AV->List Own->Prop
inductive bm:List Pk->List (List AV)->List Own->Prop
 |nil:bm [] [] []
 |cons {p ps cl lo g L}(h:p.F cl lo)(t:bm ps L g):bm (p::ps) (L++[[.fn (.func p.fn) [] cl]]) (lo++g)
theorem bm.len {ps L g}(h:bm ps L g):L.length=ps.length:=by
 induction h with
 |nil=>rfl
 |cons h t ih=>simp[ih]
theorem Cq.inv {sv v L ga}(h:Cq sv (L++[[v]]) ga):lK sv/\ga=[.sl sv 1 (L++[[v]])]:=by
 generalize e:L++[[v]]=M at h;cases h with
 |n=>simp at e
 |s h1 h2 h3=>exact⟨⟨h1,h2,h3⟩,rfl⟩
theorem Cq.SO {sv a b c d e L ga}(h:Cq sv (L++[[a],[b],[c],[d],[e]]) ga):lK sv/\ga=[.sl sv 1 (L++[[a],[b],[c],[d],[e]])]:=by
 generalize e:L++[[a],[b],[c],[d],[e]]=M at h;cases h with
 |n=>simp at e
 |s h1 h2 h3=>exact⟨⟨h1,h2,h3⟩,rfl⟩
theorem Cq.SP {sv a L N ga}(h:Cq sv (L++([a]::N)) ga):lK sv/\ga=[.sl sv 1 (L++([a]::N))]:=by
 generalize e:L++([a]::N)=M at h;cases h with
 |n=>simp at e
 |s h1 h2 h3=>exact⟨⟨h1,h2,h3⟩,rfl⟩
theorem nz {L:List (List AV)}{v:AV}:false=decide ((L++[[v]]).length=0):=ac
theorem Xc.xW (x:Xc){w:Int}(h:0<=x.rd w):0<=x.rd w/\x.rd w<x.j.f.size:=by
 refine⟨h,?_⟩;unfold Xc.rd at*
 split at h;.omega
 .rw[if_neg be];omega
theorem cW.dD {j}{i:Int}(h:0<=i/\i<j.f.size):cW.new j i=.l:=if_neg am
theorem bF.dD {j}{i:Int}(h:0<=i/\i<j.f.size):bF.new j i=.a:=if_neg am
theorem bg.dD {j}{i c:Int}(h:0<=i/\i<j.f.size)(hc:0<=c/\c<64):bg.new j i c=.l:=(if_neg am).trans (if_neg am)
theorem Ct {x:Xc}{c:Int}(h:x.ok)(h0:0<=c)(h1:c<64):(x.ring c).ok:=by
 unfold Xc.ok at h;unfold Rn.ok Xc.ring;have:=h.2.2.2.2.1;have e1:c*(x.room+2)<=63*(x.room+2):=Int.mul_le_mul_of_nonneg_right am am;have e2:0<=c*(x.room+2):=Int.mul_nonneg h0 am;refine⟨?_,?_,?_,?_⟩<;>dsimp only<;>omega
theorem mL.bd {x r}{q:Nat}{cl z lo y}{h v e:Int}(hy:y.gd)(hp:mL x r q cl z lo)(hw:(z.step r y).1=.d h v e)(he:e=0):(0<=v/\v<65536)/\Me.aC h:=by
 subst he;cases hp with
 |f h=>cases hw
 |r dY h ho=>
  cases h with
  |a=>cases hw
  |b hh=>
   have hb:=Me.aj hy;unfold Me.aC at hb;have e0:∀(p:Prop) [Decidable p] (a b:eS),(if p then a else b)=.d h v 0->(a=.d h v 0->(0<=v/\v<65536)/\Me.aC h)->(b≠.d h v 0)->(0<=v/\v<65536)/\Me.aC h:=by
    intro p _ a b Nw h1 h2;split at Nw;.exact h1 Nw
    .exact absurd Nw h2
   refine e0 _ _ _ hw (λe=>?_) (λe=>by cases e);injection e with e1 e2;subst e1 e2;exact⟨am,hh⟩
  |_=>cases ho
theorem rB.bd {x}{vx q:Nat}{i:Int}{cl z lo y}{w e:Int}(hy:y.gd)(hp:rB x vx i q cl z lo)(hw:(z.stepOf x.j i y).1=.d w e):Me.aC w:=by
 cases hp with
 |f hi h=>cases hw;exact Me.aj hy _
 |r dY h ho=>cases z<;>first|(cases ho;done)|(cases hw;exact Me.aj hy _)
theorem rC.bd {x}{vx q:Nat}{i:Int}{cl z lo y}{w e:Int}(hy:y.gd)(hp:rC x vx i q cl z lo)(hw:(z.stepOf x.j i y).1=.d w e):Me.aC w:=by
 cases hp with
 |f hi h=>cases hw;exact Me.aj hy _
 |r dY h ho=>cases z<;>first|(cases ho;done)|(cases hw;exact Me.aj hy _)
theorem rE.bd {x}{vx q:Nat}{cl z lo y}{i e:Int}(hy:y.gd)(hp:rE x vx q cl z lo)(hw:(z.step x.j y).1=.d i e)(he:e=0):0<=i/\i<x.j.f.size:=by
 subst he;have e0:∀w:pU,dR.kP w=.d i 0->False:=by
  intro w;cases w with
  |d j=>
   intro e;have e:(if j<0 then dR.d 0 7 else .l j)=.d i 0:=e;split at e<;>cases e
  |_=>intro e;cases e
 have key:∀σ:dR,σ.over=false->∀lm qm,kS x.j qm σ lm->(σ.step x.j y).1=.d i 0->0<=i/\i<x.j.f.size:=by
  intro σ ho lm qm h hw;cases h with
  |p h LQ=>exact(e0 _ hw).elim
  |l hi=>cases hw
  |s hi dL=>
   have e0:∀(p:Prop) [Decidable p] (j:Int),(if p then dR.d j 0 else .l j)=.d i 0->j=i:=by
    intro p _ j e;split at e<;>cases e
    rfl
   have:=e0 _ _ hw;subst this;exact hi
  |_=>cases ho
 cases hp with
 |f h=>exact(e0 _ hw).elim
 |r dY h ho=>exact key _ ho _ _ h hw
theorem Pk.ext' {α:Type}{a b:α}(h:a=b):b=a:=h.symm
theorem aS {x:Xc}{o:Od}(hx:x.ok)(hk:o.ok x):x.t.ok/\x.j.ok/\x.r.ok/\(((0<=x.ct/\x.ct<4096)/\1<=x.many/\x.many<4096)/\((0<=x.iZ/\x.iZ<4096)/\(1<=x.aq/\x.aq<=64)/\1<=x.room/\x.room<=16)/\((0<=x.own/\x.own<4096)/\0<=x.seq/\x.seq<4096)/\x.aq=x.t.l.e.ad/\x.r.ad=x.t.l.e.ad/\x.j.f.size<=64)/\
  (0<=o.c/\o.c<x.t.l.e.ad)/\(1<=o.high/\o.high<=x.t.ht)/\(o.k=1->(0<=o.tk/\o.tk<x.many)/\(0<=o.prio/\o.prio<=254)/\(0<=o.every/\o.every<=1099511627776)/\0<=o.now/\o.now<=1099511627776)/\
  (1<=x.j.f.size/\x.j.f.size<=4096)/\x.t.l.e.ad<=64/\(1<=x.t.ht/\x.t.ht<=4)/\(x.ring o.c).ok/\((0<=x.r.runs/\x.r.runs<4096)/\(0<=x.r.flags/\x.r.flags<4096)/\1<=x.r.ad/\x.r.ad<=64)/\
  ((0<=x.t.nd/\x.t.nd<4096)/\(0<=x.t.hd/\x.t.hd<4096)/\(1<=x.t.ht/\x.t.ht<=4)/\1<=x.t.l.a.f.size/\x.t.l.a.f.size<=128)/\(((0<=x.j.f.top/\x.j.f.top<100000)/\(0<=x.j.f.links/\x.j.f.links<100000)/\1<=x.j.f.size/\x.j.f.size<=4096)/\(0<=x.j.bE/\x.j.bE<100000)/\0<=x.j.keys/\x.j.keys<100000):=by
 have Ra:=hx;unfold Xc.ok at hx;obtain⟨eg,cX,eV,fu⟩:=hx;obtain⟨fp,fw,bz⟩:=hk;have fy:x.t.l.e.ad<=64:=by have:=eg;unfold Tw.ok Lb.ok Ep.ok at this;omega
 have fq:=eV;unfold Rs.ok at fq;have mM:=cX;unfold Jb.ok Sk.ok at mM;exact⟨eg,cX,eV,fu,fp,fw,bz,cX.1.2.2,fy,eg.2.2.1,Ct Ra am am,fq,⟨eg.1,eg.2.1,eg.2.2.1,eg.2.2.2.2.1.1.2.2.1,eg.2.2.2.1⟩,mM⟩
abbrev Mj (vx q:Nat):Pk:=⟨370,DS vx q⟩
abbrev N9 (vx vt:Nat):Pk:=⟨377,λcl lo=>∃p,cl=[.ptr p 0]/\lo=[.obj p (.row [.fn (.func 267) [] [.ptr vx 0,.ptr vt 0]])]⟩
abbrev DU (vx q:Nat):Pk:=⟨486,DN vx q⟩
abbrev A7 (vx vn q:Nat):Pk:=⟨385,DO vx vn q⟩
abbrev ph (q:Nat):Pk:=⟨481,AZ q⟩
abbrev Mk (vx q:Nat):Pk:=⟨496,DP vx q⟩
abbrev dE (fr to:Int)(q:Nat):Pk:=⟨490,l_ fr to q⟩
abbrev DV (vx:Nat)(high:Int)(q:Nat):Pk:=⟨499,DR vx high q⟩
abbrev vQ (vb vx q:Nat):Pk:=⟨408,za vb vx q⟩
abbrev i5 (q:Nat):Pk:=⟨506,A4 q⟩
abbrev vR (vx:Nat):Pk:=⟨377,λcl lo=>∃p,cl=[.ptr p 0]/\lo=[.obj p (.row [.fn (.func 420) [] [.ptr vx 0]])]⟩
abbrev tH (vx:Nat):Pk:=⟨377,λcl lo=>∃p,cl=[.ptr p 0]/\lo=[.obj p (.row [.fn (.func 421) [] [.ptr vx 0]])]⟩
abbrev te (vx q:Nat):Pk:=⟨510,A6 vx q⟩
abbrev cf (bh w:Int):Pk:=⟨377,λcl lo=>∃p a b,cl=[.ptr p 0]/\lo=[.obj p (.row [.fn (.func 423) [] [.ptr a 0,.ptr b 0]]),.obj a (.row [I bh]),.obj b (.row [U w])]⟩
abbrev Cu (vx vh q:Nat):Pk:=⟨377,λcl lo=>∃p a b,cl=[.ptr p 0]/\lo=[.obj p (.row [.fn (.func 414) [] [.ptr a 0,.ptr b 0]]),.obj a (.row [.ptr q 0]),.obj b (.row [.fn (.func 300) [] [.ptr vx 0,.ptr vh 0]])]⟩
abbrev A8 (vx q:Nat):Pk:=⟨486,A3 vx q⟩
abbrev xX (vx:Nat)(high:Int)(q:Nat):Pk:=⟨499,A5 vx high q⟩
abbrev vS (vx q:Nat):Pk:=⟨486,A1 vx q⟩
abbrev zb (bh:Int)(vx:Nat):Pk:=⟨377,λcl lo=>∃p a,cl=[.ptr p 0]/\lo=[.obj p (.row [.fn (.func 426) [] [.ptr a 0,.ptr vx 0]]),.obj a (.row [I bh])]⟩
abbrev SQ (q:Nat):Pk:=⟨496,KF q⟩
theorem Cv {q vp pr po:Nat}{y6 tc y8 td}(hb:A4 q y6 y8)(ht:l_ 3 4 q tc td):bm [dE 3 4 q,vR vp,tH vp,i5 q] [[.fn (.func 506) [] y6],[.fn (.func 377) [] [.ptr pr 0]],[.fn (.func 377) [] [.ptr po 0]],[.fn (.func 490) [] tc]]
  (td++([.obj po (.row [.fn (.func 420) [] [.ptr vp 0]])]++([.obj pr (.row [.fn (.func 421) [] [.ptr vp 0]])]++(y8++[])))):=
 bm.cons (p:=dE 3 4 q) ht (bm.cons (p:=vR vp) ⟨po,rfl,rfl⟩ (bm.cons (p:=tH vp) ⟨pr,rfl,rfl⟩ (bm.cons (p:=i5 q) hb .nil)))
theorem N_ {x:Xc}{c high:Int}{q vx vp pr po s1 a1 w1 s2 a2 w2:Nat}{y6 tc y7 Oa KK Ob:List AV}{y8 td y9 Oc KM Oe:List Own}(LP:l_ 4 3 q Oa Oc)(hl:A3 vx q KK KM)(Sf:A5 vx high q Ob Oe)(hp:A6 vp q y7 y9)(hb:A4 q y6 y8)(ht:l_ 3 4 q tc td):
  bm [dE 4 3 q,cf (x.r.runs+c) 18446744073709551615,A8 vx q,xX vx high q,cf (x.own+c) 0,te vp q,dE 3 4 q,vR vp,tH vp,i5 q]
  [[.fn (.func 506) [] y6],[.fn (.func 377) [] [.ptr pr 0]],[.fn (.func 377) [] [.ptr po 0]],[.fn (.func 490) [] tc],[.fn (.func 510) [] y7],
   [.fn (.func 377) [] [.ptr s1 0]],[.fn (.func 499) [] Ob],[.fn (.func 486) [] KK],[.fn (.func 377) [] [.ptr s2 0]],[.fn (.func 490) [] Oa]]
  (Oc++([.obj s2 (.row [.fn (.func 423) [] [.ptr a2 0,.ptr w2 0]]),.obj a2 (.row [I (x.r.runs+c)]),.obj w2 (.row [U 18446744073709551615])]++(KM++(Oe++([.obj s1 (.row [.fn (.func 423) [] [.ptr a1 0,.ptr w1 0]]),.obj a1 (.row [I (x.own+c)]),.obj w1 (.row [U 0])]++(y9++
    (td++([.obj po (.row [.fn (.func 420) [] [.ptr vp 0]])]++([.obj pr (.row [.fn (.func 421) [] [.ptr vp 0]])]++(y8++[])))))))))):=
 bm.cons (p:=dE 4 3 q) LP (bm.cons (p:=cf (x.r.runs+c) 18446744073709551615) ⟨s2,a2,w2,rfl,rfl⟩ (bm.cons (p:=A8 vx q) hl (bm.cons (p:=xX vx high q) Sf (bm.cons (p:=cf (x.own+c) 0) ⟨s1,a1,w1,rfl,rfl⟩ (bm.cons (p:=te vp q) hp (Cv hb ht))))))
theorem Of {x:Xc}{c:Int}{q vx u1 ua uw u2 vr:Nat}{KL KB:List AV}{KN SG:List Own}(hu:l_ 3 4 q KL KN)(ho:A1 vx q KB SG):
  bm [vS vx q,dE 3 4 q,zb (x.r.runs+c) vx,cf (x.r.flags+c) 1] [[.fn (.func 377) [] [.ptr u1 0]],[.fn (.func 377) [] [.ptr u2 0]],[.fn (.func 490) [] KL],[.fn (.func 486) [] KB]]
  (SG++(KN++([.obj u2 (.row [.fn (.func 426) [] [.ptr vr 0,.ptr vx 0]]),.obj vr (.row [I (x.r.runs+c)])]++([.obj u1 (.row [.fn (.func 423) [] [.ptr ua 0,.ptr uw 0]]),.obj ua (.row [I (x.r.flags+c)]),.obj uw (.row [U 1])]++[])))):=
 bm.cons (p:=vS vx q) ho (bm.cons (p:=dE 3 4 q) hu (bm.cons (p:=zb (x.r.runs+c) vx) ⟨u2,vr,rfl,rfl⟩ (bm.cons (p:=cf (x.r.flags+c) 1) ⟨u1,ua,uw,rfl,rfl⟩ .nil)))
inductive ft (x:Xc)(o:Od)(q:Nat)(b:Int):aG->List Own->Prop
 |r1 {z cl lo L g sv uv}{vx vn vt vw:Nat}{t0 t3 i key aw:Int}(hv:lK sv)(qu:o.k=1)(h:xR x vx vn vt vw o.tk o.every o.now q cl z lo)(t:bm [Mj vx q,N9 vx vt,DU vx q,A7 vx vn q] L g):ft x o q b (.r1 z) (.obj q (.row (x.row o.k o.c sv uv i key aw false b 0))::.sl sv 1 (L++[[.fn (.func 368) [] cl]])::(lo++(g++(.obj vx (.row [.ptr q 0])::.obj vn (.row [I o.tk])::.obj vt (.row [I t0,I o.prio,I o.every,I t3])::.obj vw (.row [I o.now])::[]))))
 |r2 {z cl lo L g sv uv}{vx vn vt:Nat}{t0 t3 i key aw:Int}(hv:lK sv)(qu:o.k=1)(h:rE x vx q cl z lo)(t:bm [N9 vx vt,DU vx q,A7 vx vn q] L g):ft x o q b (.r2 z) (.obj q (.row (x.row o.k o.c sv uv i key aw false b 0))::.sl sv 1 (L++[[.fn (.func 370) [] cl]])::(lo++(g++(.obj vx (.row [.ptr q 0])::.obj vn (.row [I o.tk])::.obj vt (.row [I t0,I o.prio,I o.every,I t3])::[]))))
 |r3 {i:Int}{p1:Nat}{L g sv uv UL gu}{vx vn vt:Nat}{t0 t3 key aw:Int}(hv:lK sv)(qu:o.k=1)(hi:0<=i/\i<x.j.f.size)(tu:bm [ph q] UL gu)(t:bm [DU vx q,A7 vx vn q] L g):ft x o q b (.r3 i) (.obj q (.row (x.row o.k o.c sv uv i key aw false b 0))::.sl sv 1 (L++[[.fn (.func 377) [] [.ptr p1 0]]])::([.obj p1 (.row [.fn (.func 267) [] [.ptr vx 0,.ptr vt 0]])]++(g++(gu++(.sl uv 1 UL::.obj vx (.row [.ptr q 0])::.obj vt (.row [I t0,I o.prio,I o.every,I t3])::.obj vn (.row [I o.tk])::[])))))
 |r4 {z}{i w:Int}{cl lo L g sv uv UL gu}{vx vn:Nat}{aw:Int}(hv:lK sv)(qu:o.k=1)(hi:0<=i/\i<x.j.f.size)(h:xO x i w vx q cl z lo)(tu:bm [ph q] UL gu)(t:bm [A7 vx vn q] L g):ft x o q b (.r4 i w z) (.obj q (.row (x.row o.k o.c sv uv i w aw false b 0))::.sl sv 1 (L++[[.fn (.func 486) [] cl]])::(lo++(g++(gu++(.obj vx (.row [.ptr q 0])::.sl uv 1 UL::.obj vn (.row [I o.tk])::[])))))
 |r5 {z}{i w:Int}{cl lo L g sv uv UL gu}{vx vn:Nat}{aw:Int}(hv:lK sv)(qu:o.k=1)(hi:0<=i/\i<x.j.f.size)(h:xS x vx vn o.tk i q cl z lo)(tu:bm [ph q] UL gu)(t:bm [] L g):ft x o q b (.r5 i w z) (.obj q (.row (x.row o.k o.c sv uv i w aw false b 0))::.sl sv 1 (L++[[.fn (.func 385) [] cl]])::(lo++(g++(gu++(.sl uv 1 UL::.obj vx (.row [.ptr q 0])::.obj vn (.row [I o.tk])::[])))))
 |r6 {z}{i w e:Int}{cl lo L g sv uv}{key aw:Int}(hv:lK sv)(he:e≠0)(h:vP x i q cl z lo)(t:bm [] L g):ft x o q b (.r6 i w e z) (.obj q (.row (x.row o.k o.c sv uv i key aw false b e))::.sl sv 1 (L++[[.fn (.func 481) [] cl]])::(lo++(g++([]))))
 |t1 {z cl lo L g sv uv UL gu}{vx vb:Nat}{i key aw:Int}(hv:lK sv)(h:mL x (x.ring o.c) q cl z lo)(tu:bm [dE 3 2 q] UL gu)(t:bm [Mk vx q,dE 2 3 q,DV vx o.high q,vQ vb vx q,i5 q] L g):ft x o q b (.t1 z) (.obj q (.row (x.row o.k o.c sv uv i key aw false b 0))::.sl sv 1 (L++[[.fn (.func 493) [] cl]])::(lo++(g++(gu++(.sl uv 1 UL::.obj vx (.row [.ptr q 0])::.obj vb (.row [I (x.ring o.c).head,I (x.ring o.c).tail,I (x.ring o.c).fg,I (x.ring o.c).size])::[])))))
 |t2 {z}{i hd:Int}{cl lo L g sv uv UL gu}{vx vb:Nat}{key:Int}(hv:lK sv)(hh:Me.aC hd)(hi:0<=i/\i<x.j.f.size)(h:rB x vx i q cl z lo)(tu:bm [dE 3 2 q] UL gu)(t:bm [dE 2 3 q,DV vx o.high q,vQ vb vx q,i5 q] L g):ft x o q b (.t2 i hd z) (.obj q (.row (x.row o.k o.c sv uv i key hd false b 0))::.sl sv 1 (L++[[.fn (.func 496) [] cl]])::(lo++(g++(gu++(.obj vx (.row [.ptr q 0])::.sl uv 1 UL::.obj vb (.row [I (x.ring o.c).head,I (x.ring o.c).tail,I (x.ring o.c).fg,I (x.ring o.c).size])::[])))))
 |t3 {z}{i hd w:Int}{cl lo L g sv uv UL gu}{vx vb:Nat}(hv:lK sv)(hh:Me.aC hd)(hi:0<=i/\i<x.j.f.size)(dL:Me.aC w/\¬cb w)(h:om x i 2 3 o.c q cl z lo)(tu:bm [dE 3 2 q] UL gu)(t:bm [DV vx o.high q,vQ vb vx q,i5 q] L g):ft x o q b (.t3 i hd w z) (.obj q (.row (x.row o.k o.c sv uv i w hd false b 0))::.sl sv 1 (L++[[.fn (.func 490) [] cl]])::(lo++(g++(gu++(.sl uv 1 UL::.obj vx (.row [.ptr q 0])::.obj vb (.row [I (x.ring o.c).head,I (x.ring o.c).tail,I (x.ring o.c).fg,I (x.ring o.c).size])::[])))))
 |t4 {z}{i hd w:Int}{cl lo L g sv uv UL gu}{vx vb:Nat}(hv:lK sv)(hh:Me.aC hd)(hi:0<=i/\i<x.j.f.size)(dL:Me.aC w/\¬cb w)(h:xT x o.c i w o.high vx q cl z lo)(tu:bm [dE 3 2 q] UL gu)(t:bm [vQ vb vx q,i5 q] L g):ft x o q b (.t4 i hd w z) (.obj q (.row (x.row o.k o.c sv uv i w hd false b 0))::.sl sv 1 (L++[[.fn (.func 499) [] cl]])::(lo++(g++(gu++(.sl uv 1 UL::.obj vx (.row [.ptr q 0])::.obj vb (.row [I (x.ring o.c).head,I (x.ring o.c).tail,I (x.ring o.c).fg,I (x.ring o.c).size])::[])))))
 |t5 {z}{i w e:Int}{cl lo L g sv uv}{key aw:Int}(hv:lK sv)(he:e≠0)(h:om x i 3 2 o.c q cl z lo)(t:bm [] L g):ft x o q b (.t5 i w e z) (.obj q (.row (x.row o.k o.c sv uv i key aw false b e))::.sl sv 1 (L++[[.fn (.func 490) [] cl]])::(lo++(g++([]))))
 |t6 {z}{i hd w:Int}{cl lo L g sv uv}{vx vb:Nat}(hv:lK sv)(h:sq x (x.ring o.c) hd vb vx q cl z lo)(t:bm [i5 q] L g):ft x o q b (.t6 i hd w z) (.obj q (.row (x.row o.k o.c sv uv i w hd false b 0))::.sl sv 1 (L++[[.fn (.func 408) [] cl]])::(lo++(g++(.obj vx (.row [.ptr q 0])::.obj vb (.row [I (x.ring o.c).head,I (x.ring o.c).tail,I (x.ring o.c).fg,I (x.ring o.c).size])::[]))))
 |rk {z}{i w:Int}{cl lo L g sv uv}{aw:Int}(hv:lK sv)(h:E2 x o.c q cl z lo)(t:bm [] L g):ft x o q b (.rk i w z) (.obj q (.row (x.row o.k o.c sv uv i w aw false b 0))::.sl sv 1 (L++[[.fn (.func 506) [] cl]])::(lo++(g++([]))))
 |p1 {p1 a1 b1:Nat}{L g sv uv}{vx:Nat}{i key aw:Int}(hv:lK sv)(t:bm [] L g):ft x o q b (.p1) (.obj q (.row (x.row o.k o.c sv uv i key aw false b 0))::.sl sv 1 (L++[[.fn (.func 377) [] [.ptr p1 0]]])::([.obj p1 (.row [.fn (.func 414) [] [.ptr a1 0,.ptr b1 0]]),.obj a1 (.row [.ptr q 0]),.obj b1 (.row [.fn (.func 294) [] [.ptr vx 0]])]++(g++(.obj vx (.row [.ptr q 0])::[]))))
 |p2 {z cl lo L g sv uv}{vp:Nat}{i key aw:Int}(hv:lK sv)(h:xV x o.c vp q cl z lo)(t:bm [dE 3 4 q,vR vp,tH vp,i5 q] L g):ft x o q b (.p2 z) (.obj q (.row (x.row o.k o.c sv uv i key aw false b 0))::.sl sv 1 (L++[[.fn (.func 510) [] cl]])::(lo++(g++(.obj vp (.row [.ptr q 0])::[]))))
 |p3 {z}{i w:Int}{cl lo L g sv uv}{vp:Nat}{aw:Int}(hv:lK sv)(hi:0<=i/\i<x.j.f.size)(h:om x i 3 4 o.c q cl z lo)(t:bm [vR vp,tH vp,i5 q] L g):ft x o q b (.p3 i w z) (.obj q (.row (x.row o.k o.c sv uv i w aw false b 0))::.sl sv 1 (L++[[.fn (.func 490) [] cl]])::(lo++(g++(.obj vp (.row [.ptr q 0])::[]))))
 |p4 {i w:Int}{p1:Nat}{L g sv uv}{vp:Nat}{aw:Int}(hv:lK sv)(hi:0<=i/\i<x.j.f.size)(t:bm [tH vp,i5 q] L g):ft x o q b (.p4 i w) (.obj q (.row (x.row o.k o.c sv uv i w aw false b 0))::.sl sv 1 (L++[[.fn (.func 377) [] [.ptr p1 0]]])::([.obj p1 (.row [.fn (.func 420) [] [.ptr vp 0]])]++(g++(.obj vp (.row [.ptr q 0])::[]))))
 |p5 {i w:Int}{p1:Nat}{L g sv uv}{vp:Nat}{aw:Int}(hv:lK sv)(t:bm [i5 q] L g):ft x o q b (.p5 i w) (.obj q (.row (x.row o.k o.c sv uv i w aw false b 0))::.sl sv 1 (L++[[.fn (.func 377) [] [.ptr p1 0]]])::([.obj p1 (.row [.fn (.func 421) [] [.ptr vp 0]])]++(g++(.obj vp (.row [.ptr q 0])::[]))))
 |s1 {p1:Nat}{L g sv uv}{vx vh vf:Nat}{i key aw:Int}(hv:lK sv)(t:bm [cf (x.r.flags+o.c) 0,Cu vx vh q] L g):ft x o q b (.s1) (.obj q (.row (x.row o.k o.c sv uv i key aw false b 0))::.sl sv 1 (L++[[.fn (.func 377) [] [.ptr p1 0]]])::([.obj p1 (.row [.fn (.func 297) [] [.ptr vf 0,.ptr vx 0]])]++(g++(.obj vx (.row [.ptr q 0])::.obj vf (.row [I (x.r.flags+o.c)])::.obj vh (.row [I o.high])::[]))))
 |s2 {p1 a1 b1:Nat}{L g sv uv}{vx vh:Nat}{i key aw:Int}(hv:lK sv)(t:bm [Cu vx vh q] L g):ft x o q b (.s2) (.obj q (.row (x.row o.k o.c sv uv i key aw false b 0))::.sl sv 1 (L++[[.fn (.func 377) [] [.ptr p1 0]]])::([.obj p1 (.row [.fn (.func 423) [] [.ptr a1 0,.ptr b1 0]]),.obj a1 (.row [I (x.r.flags+o.c)]),.obj b1 (.row [U 0])]++(g++(.obj vx (.row [.ptr q 0])::.obj vh (.row [I o.high])::[]))))
 |s3 {p1 a1 b1:Nat}{L g sv uv}{vx vh:Nat}{i key aw:Int}(hv:lK sv)(t:bm [] L g):ft x o q b (.s3) (.obj q (.row (x.row o.k o.c sv uv i key aw false b 0))::.sl sv 1 (L++[[.fn (.func 377) [] [.ptr p1 0]]])::([.obj p1 (.row [.fn (.func 414) [] [.ptr a1 0,.ptr b1 0]]),.obj a1 (.row [.ptr q 0]),.obj b1 (.row [.fn (.func 300) [] [.ptr vx 0,.ptr vh 0]])]++(g++(.obj vx (.row [.ptr q 0])::.obj vh (.row [I o.high])::[]))))
 |s4 {z}{i:Int}{cl lo L g sv uv UL gu}{vx vp:Nat}{key aw:Int}(hv:lK sv)(hi:0<=i/\i<x.j.f.size)(h:rC x vx i q cl z lo)(tu:bm [vS vx q,dE 3 4 q,zb (x.r.runs+o.c) vx,cf (x.r.flags+o.c) 1] UL gu)(t:bm [dE 4 3 q,cf (x.r.runs+o.c) 18446744073709551615,A8 vx q,xX vx o.high q,cf (x.own+o.c) 0,te vp q,dE 3 4 q,vR vp,tH vp,i5 q] L g):ft x o q b (.s4 i z) (.obj q (.row (x.row o.k o.c sv uv i key aw false b 0))::.sl sv 1 (L++[[.fn (.func 496) [] cl]])::(lo++(g++(gu++(.obj vx (.row [.ptr q 0])::.sl uv 1 UL::.obj vp (.row [.ptr q 0])::[])))))
 |s5 {z}{i w:Int}{cl lo L g sv uv UL gu}{vx vp:Nat}{aw:Int}(hv:lK sv)(hi:0<=i/\i<x.j.f.size)(dL:Me.aC w/\¬cb w)(h:om x i 4 3 o.c q cl z lo)(tu:bm [vS vx q,dE 3 4 q,zb (x.r.runs+o.c) vx,cf (x.r.flags+o.c) 1] UL gu)(t:bm [cf (x.r.runs+o.c) 18446744073709551615,A8 vx q,xX vx o.high q,cf (x.own+o.c) 0,te vp q,dE 3 4 q,vR vp,tH vp,i5 q] L g):ft x o q b (.s5 i w z) (.obj q (.row (x.row o.k o.c sv uv i w aw false b 0))::.sl sv 1 (L++[[.fn (.func 490) [] cl]])::(lo++(g++(gu++(.sl uv 1 UL::.obj vx (.row [.ptr q 0])::.obj vp (.row [.ptr q 0])::[])))))
 |s6 {i w:Int}{p1 a1 b1:Nat}{L g sv uv UL gu}{vx vp:Nat}{aw:Int}(hv:lK sv)(hi:0<=i/\i<x.j.f.size)(dL:Me.aC w/\¬cb w)(tu:bm [vS vx q,dE 3 4 q,zb (x.r.runs+o.c) vx,cf (x.r.flags+o.c) 1] UL gu)(t:bm [A8 vx q,xX vx o.high q,cf (x.own+o.c) 0,te vp q,dE 3 4 q,vR vp,tH vp,i5 q] L g):ft x o q b (.s6 i w) (.obj q (.row (x.row o.k o.c sv uv i w aw false b 0))::.sl sv 1 (L++[[.fn (.func 377) [] [.ptr p1 0]]])::([.obj p1 (.row [.fn (.func 423) [] [.ptr a1 0,.ptr b1 0]]),.obj a1 (.row [I (x.r.runs+o.c)]),.obj b1 (.row [U 18446744073709551615])]++(g++(gu++(.sl uv 1 UL::.obj vx (.row [.ptr q 0])::.obj vp (.row [.ptr q 0])::[])))))
 |s7 {z}{i w:Int}{cl lo L g sv uv UL gu}{vx vp:Nat}{aw:Int}(hv:lK sv)(hi:0<=i/\i<x.j.f.size)(dL:Me.aC w/\¬cb w)(h:xQ x i w vx q cl z lo)(tu:bm [vS vx q,dE 3 4 q,zb (x.r.runs+o.c) vx,cf (x.r.flags+o.c) 1] UL gu)(t:bm [xX vx o.high q,cf (x.own+o.c) 0,te vp q,dE 3 4 q,vR vp,tH vp,i5 q] L g):ft x o q b (.s7 i w z) (.obj q (.row (x.row o.k o.c sv uv i w aw false b 0))::.sl sv 1 (L++[[.fn (.func 486) [] cl]])::(lo++(g++(gu++(.obj vx (.row [.ptr q 0])::.sl uv 1 UL::.obj vp (.row [.ptr q 0])::[])))))
 |s8 {z}{i w:Int}{cl lo L g sv uv UL gu}{vx vp:Nat}{aw:Int}(hv:lK sv)(hi:0<=i/\i<x.j.f.size)(dL:Me.aC w/\¬cb w)(h:xU x o.c i w o.high vx q cl z lo)(tu:bm [vS vx q,dE 3 4 q,zb (x.r.runs+o.c) vx,cf (x.r.flags+o.c) 1] UL gu)(t:bm [cf (x.own+o.c) 0,te vp q,dE 3 4 q,vR vp,tH vp,i5 q] L g):ft x o q b (.s8 i w z) (.obj q (.row (x.row o.k o.c sv uv i w aw false b 0))::.sl sv 1 (L++[[.fn (.func 499) [] cl]])::(lo++(g++(gu++(.sl uv 1 UL::.obj vx (.row [.ptr q 0])::.obj vp (.row [.ptr q 0])::[])))))
 |s9 {i w:Int}{p1 a1 b1:Nat}{L g sv uv}{vp:Nat}{aw:Int}(hv:lK sv)(t:bm [te vp q,dE 3 4 q,vR vp,tH vp,i5 q] L g):ft x o q b (.s9 i w) (.obj q (.row (x.row o.k o.c sv uv i w aw false b 0))::.sl sv 1 (L++[[.fn (.func 377) [] [.ptr p1 0]]])::([.obj p1 (.row [.fn (.func 423) [] [.ptr a1 0,.ptr b1 0]]),.obj a1 (.row [I (x.own+o.c)]),.obj b1 (.row [U 0])]++(g++(.obj vp (.row [.ptr q 0])::[]))))
 |b1 {z}{i w e:Int}{cl lo L g sv uv}{vx:Nat}{aw:Int}(hv:lK sv)(hi:0<=i/\i<x.j.f.size)(he:e≠0)(h:xP x i w vx q cl z lo)(t:bm [dE 3 4 q,zb (x.r.runs+o.c) vx,cf (x.r.flags+o.c) 1] L g):ft x o q b (.b1 i w e z) (.obj q (.row (x.row o.k o.c sv uv i w aw false b e))::.sl sv 1 (L++[[.fn (.func 486) [] cl]])::(lo++(g++(.obj vx (.row [.ptr q 0])::[]))))
 |b2 {z}{i w e:Int}{cl lo L g sv uv}{vx:Nat}{aw:Int}(hv:lK sv)(he:e≠0)(h:om x i 3 4 o.c q cl z lo)(t:bm [zb (x.r.runs+o.c) vx,cf (x.r.flags+o.c) 1] L g):ft x o q b (.b2 i w e z) (.obj q (.row (x.row o.k o.c sv uv i w aw false b e))::.sl sv 1 (L++[[.fn (.func 490) [] cl]])::(lo++(g++(.obj vx (.row [.ptr q 0])::[]))))
 |b3 {i w e:Int}{p1 a1:Nat}{L g sv uv}{vx:Nat}{aw:Int}(hv:lK sv)(he:e≠0)(t:bm [cf (x.r.flags+o.c) 1] L g):ft x o q b (.b3 i w e) (.obj q (.row (x.row o.k o.c sv uv i w aw false b e))::.sl sv 1 (L++[[.fn (.func 377) [] [.ptr p1 0]]])::([.obj p1 (.row [.fn (.func 426) [] [.ptr a1 0,.ptr vx 0]])]++(g++(.obj vx (.row [.ptr q 0])::.obj a1 (.row [I (x.r.runs+o.c)])::[]))))
 |b4 {i w e:Int}{p1 a1 b1:Nat}{L g sv uv}{aw:Int}(hv:lK sv)(he:e≠0)(t:bm [] L g):ft x o q b (.b4 i w e) (.obj q (.row (x.row o.k o.c sv uv i w aw false b e))::.sl sv 1 (L++[[.fn (.func 377) [] [.ptr p1 0]]])::([.obj p1 (.row [.fn (.func 423) [] [.ptr a1 0,.ptr b1 0]]),.obj a1 (.row [I (x.r.flags+o.c)]),.obj b1 (.row [U 1])]++(g++([]))))
 |c1 {p1 a1 b1:Nat}{L g sv uv}{vx:Nat}{i key aw:Int}(hv:lK sv)(t:bm [SQ q,dE 4 5 q,cf (x.own+o.c) 0,cf (x.r.runs+o.c) 18446744073709551615,ph q,i5 q] L g):ft x o q b (.c1) (.obj q (.row (x.row o.k o.c sv uv i key aw false b 0))::.sl sv 1 (L++[[.fn (.func 377) [] [.ptr p1 0]]])::([.obj p1 (.row [.fn (.func 414) [] [.ptr a1 0,.ptr b1 0]]),.obj a1 (.row [.ptr q 0]),.obj b1 (.row [.fn (.func 303) [] [.ptr vx 0]])]++(g++(.obj vx (.row [.ptr q 0])::[]))))
 |c2 {z}{i:Int}{cl lo L g sv uv}{vx:Nat}{key aw:Int}(hv:lK sv)(hi:0<=i/\i<x.j.f.size)(h:E4 x i q cl z lo)(t:bm [dE 4 5 q,cf (x.own+o.c) 0,cf (x.r.runs+o.c) 18446744073709551615,ph q,i5 q] L g):ft x o q b (.c2 i z) (.obj q (.row (x.row o.k o.c sv uv i key aw false b 0))::.sl sv 1 (L++[[.fn (.func 496) [] cl]])::(lo++(g++(.obj vx (.row [.ptr q 0])::[]))))
 |c3 {z}{i w:Int}{cl lo L g sv uv}{aw:Int}(hv:lK sv)(hi:0<=i/\i<x.j.f.size)(h:om x i 4 5 o.c q cl z lo)(t:bm [cf (x.own+o.c) 0,cf (x.r.runs+o.c) 18446744073709551615,ph q,i5 q] L g):ft x o q b (.c3 i w z) (.obj q (.row (x.row o.k o.c sv uv i w aw false b 0))::.sl sv 1 (L++[[.fn (.func 490) [] cl]])::(lo++(g++([]))))
 |c4 {i w:Int}{p1 a1 b1:Nat}{L g sv uv}{aw:Int}(hv:lK sv)(hi:0<=i/\i<x.j.f.size)(t:bm [cf (x.r.runs+o.c) 18446744073709551615,ph q,i5 q] L g):ft x o q b (.c4 i w) (.obj q (.row (x.row o.k o.c sv uv i w aw false b 0))::.sl sv 1 (L++[[.fn (.func 377) [] [.ptr p1 0]]])::([.obj p1 (.row [.fn (.func 423) [] [.ptr a1 0,.ptr b1 0]]),.obj a1 (.row [I (x.own+o.c)]),.obj b1 (.row [U 0])]++(g++([]))))
 |c5 {i w:Int}{p1 a1 b1:Nat}{L g sv uv}{aw:Int}(hv:lK sv)(hi:0<=i/\i<x.j.f.size)(t:bm [ph q,i5 q] L g):ft x o q b (.c5 i w) (.obj q (.row (x.row o.k o.c sv uv i w aw false b 0))::.sl sv 1 (L++[[.fn (.func 377) [] [.ptr p1 0]]])::([.obj p1 (.row [.fn (.func 423) [] [.ptr a1 0,.ptr b1 0]]),.obj a1 (.row [I (x.r.runs+o.c)]),.obj b1 (.row [U 18446744073709551615])]++(g++([]))))
 |c6 {z}{i w:Int}{cl lo L g sv uv}{aw:Int}(hv:lK sv)(h:vP x i q cl z lo)(t:bm [i5 q] L g):ft x o q b (.c6 i w z) (.obj q (.row (x.row o.k o.c sv uv i w aw false b 0))::.sl sv 1 (L++[[.fn (.func 481) [] cl]])::(lo++(g++([]))))
 |d {i w e i' key aw:Int}{n:Bool}{sv uv ga}(hs:Cq sv [] ga)(hw:e=0->n=false->i'=i/\key=w):ft x o q b (.d i w e n) (.obj q (.row (x.row o.k o.c sv uv i' key aw n b e))::ga)
section
variable{B0 S:AH}{W:List Nat}{R lo G:List Own}{ro:List aI}{m bl q nf:Nat}{y y':Me}{rest cl:List AV}{x:Xc}{o:Od}{k c i key aw cE err b bb:Int}{nn:Bool}{sv uv:AV}{L:List (List AV)}{kT:aG}{xb:Int->List Own->Prop}{AY:AV->Int->AV->List (List AV)->AV->Int->Int->Int->Bool->Int->List Own->Prop}
theorem fz (hL:L.length<=64)
  (hc:∀aT:AV,odd aT=false->aT.cells=[aT]->AV.beq aT aT=true->∀B W S,Cx B W S (.obj q (.row (x.row k c aT uv i key aw nn cE err))::.sl aT 1 L::(lo++(ae m bl y rest++G))) ro->
    aN EM (.fn (.func nf) [] cl) [.ptr m 0] S λu S'=>∃ab,oP x k c q aT uv L i key aw nn cE err xb (AY aT) u ab/\Cx B W S' ab ro)
  (hf:∀(b':Int) (aT:AV) (A:List Own),lK aT->xb b' A->b'=bb/\kT.over=false/\∃l',ft x o q bb kT l'/\Hs (.obj q (.row (x.row k c aT uv i key aw nn b' err))::.sl aT 1 (L++[[.fn (.func nf) [] cl]])::A) (l'++(ae m bl y' rest++R)))
  (ht:∀(lM:AV) (b':Int) (aT:AV) (L':List (List AV)) (cq:AV) (i' aQ aR:Int) (da:Bool) (aP:Int) (A ga:List Own),lK lM->Cq aT L' ga->AY lM b' aT L' cq i' aQ aR da aP A->b'=bb/\kT.over=decide (L'.length=0)/\∃l',ft x o q bb kT l'/\Hs (.obj q (.row (x.row k c aT cq i' aQ aR da b' aP))::(ga++A)) (l'++(ae m bl y' rest++R)))
  (H:Cx B0 W S (.obj q (.row (x.row k c sv uv i key aw nn cE err))::.sl sv 1 (L++[[.fn (.func nf) [] cl]])::(lo++(ae m bl y rest++G))) ro):
  aN EM (zF 20) [.ptr q 0,.ptr m 0] S λu S'=>∃ab,fb (ft x o q bb) aG.over (kT,y') (ae m bl · rest) R u ab/\Cx B0 W S' ab ro:=by
 refine az (KC (xb:=xb) (AY:=λb' aT L' cq i' aQ aR da aP A=>∃lM,lK lM/\AY lM b' aT L' cq i' aQ aR da aP A) hL (λaT h1 h2 h3 B W S H=>az (hc aT h1 h2 h3 B W S H) λu S' ⟨ab,hp,H'⟩=>⟨ab,?_,H'⟩) H) λu S' ⟨ab,ha,H'⟩=>?_
 .cases hp with
  |f h=>exact .f h
  |t hs h=>exact .t hs ⟨aT,⟨h1,h2,h3⟩,h⟩
 .cases ha with
  |f h1 h2 h3 h=>
   obtain⟨rfl,ho,l',hl,hh⟩:=hf _ _ _ ⟨h1,h2,h3⟩ h;exact⟨_,⟨l',⟨hl,by show _=cG.B kT.over;rw[ho]⟩,rfl⟩,hh.cx H'⟩
  |t hs h=>obtain⟨lM,h0,h⟩:=h;obtain⟨rfl,ho,l',hl,hh⟩:=ht _ _ _ _ _ _ _ _ _ _ _ _ h0 hs h;exact⟨_,⟨l',⟨hl,by show _=cG.B kT.over;rw[ho]⟩,rfl⟩,hh.cx H'⟩
end
abbrev PQ (x:Xc)(o:Od)(q:Nat)(b:Int)(m bl:Nat)(rest:List AV)(y:Me)(s:aG):Prop:=∀{B0 S:AH}{W:List Nat}{R l:List Own}{ro:List aI},x.ok->o.ok x->y.gd->ft x o q b s l->Cx B0 W S (l++(ae m bl y rest++R)) ro->aN EM (zF 20) [.ptr q 0,.ptr m 0] S λu S'=>∃ab,fb (ft x o q (aG.cR x o s)) aG.over (aG.step x o s y) (ae m bl · rest) R u ab/\Cx B0 W S' ab ro
section
open aG
section
variable{B0 S:AH}{W:List Nat}{R l:List Own}{ro:List aI}{m bl q:Nat}{y:Me}{rest:List AV}{x:Xc}{o:Od}{b:Int}
theorem SR {z}:PQ x o q b m bl rest y (.r1 z):=by
 intro B0 S W R l ro hx hk hy h H;obtain⟨eg,cX,eV,fu,fp,fw,bz,dH,fy,fE,eM,fq,-⟩:=aS hx hk;cases h with
 |@r1 z cl lo L g sv uv vx vn vt vw t0 t3 i key aw hv qu h t=>
 simp only[lA,lB,lC] at H;have H:=Hs.cx (tgt:=.obj q _::.sl sv 1 _::(lo++(ae m bl y rest++(.obj vx (.row [.ptr q 0])::.obj vn (.row [I o.tk])::.obj vt (.row [I t0,I o.prio,I o.every,I t3])::.obj vw (.row [I o.now])::(g++(R)))))) HQ H;refine fz (kT:=aG.sY x o (z.step (x.ct+o.tk) o.every o.now y).1) (y':=(z.step (x.ct+o.tk) o.every o.now y).2) (by rw[t.len];exact Nat.le_of_ble_eq_true rfl) (λaT h1 h2 h3 B W S H=>Ib h1 h2 h3 ⟨am,by have:=bz qu;omega,by have:=bz qu;omega,by have:=bz qu;omega⟩ hy h H) ?_ ?_ H
 .rintro b' aT A hv ⟨rfl,ho,jx,hP,rfl⟩;generalize hw:(z.step (x.ct+o.tk) o.every o.now y).1=w at*
  cases w<;>first|(cases ho;done)|exact⟨rfl,rfl,_,.r1 hv qu hP t,HQ⟩
 .rintro lM b' aT L' cq i' aQ aR da aP A ga h0 hs ⟨rfl,ho,hE,rfl⟩;generalize hw:(z.step (x.ct+o.tk) o.every o.now y).1=w at*
  cases w<;>first|(cases ho;done)|skip
  rcases hE with⟨rfl,hE⟩|⟨he,hE⟩
  .obtain⟨rfl,rfl,rfl,rfl,rfl,rfl,rfl,rfl⟩:=hE;cases t with
   |@cons _ _ oq oX g2 L2 h2 t2=>
   obtain⟨fh,rfl⟩:=hs.inv;exact⟨rfl,by first|rfl|exact nz,_,.r2 fh qu (.f h2) t2,by(try simp only[lC,lA,lB,List.append_nil]);generalize ae m bl _ rest=MM;exact HQ⟩
  .obtain⟨rfl,rfl,rfl,rfl,rfl,rfl,rfl,rfl⟩:=hE;have e:sY x o (.d _)=.d 0 0 _ false:=if_neg he;rw[e];exact⟨rfl,rfl,_,.d hs (λh=>absurd h he),by(try simp only[lC,lA,lB,List.append_nil]);generalize ae m bl _ rest=MM;exact HQ⟩
theorem SS {z}:PQ x o q b m bl rest y (.r2 z):=by
 intro B0 S W R l ro hx hk hy h H;obtain⟨eg,cX,eV,fu,fp,fw,bz,dH,fy,fE,eM,fq,-⟩:=aS hx hk;cases h with
 |@r2 z cl lo L g sv uv vx vn vt t0 t3 i key aw hv qu h t=>
 simp only[lA,lB,lC] at H;have H:=Hs.cx (tgt:=.obj q _::.sl sv 1 _::(lo++(ae m bl y rest++(.obj vx (.row [.ptr q 0])::(g++(.obj vn (.row [I o.tk])::.obj vt (.row [I t0,I o.prio,I o.every,I t3])::R)))))) HQ H;refine fz (kT:=aG.sZ x o (z.step x.j y).1) (y':=(z.step x.j y).2) (by rw[t.len];exact Nat.le_of_ble_eq_true rfl) (λaT h1 h2 h3 B W S H=>Ip h1 h2 h3 cX hy h H) ?_ ?_ H
 .rintro b' aT A hv ⟨rfl,ho,jx,hP,rfl⟩;generalize hw:(z.step x.j y).1=w at*
  cases w<;>first|(cases ho;done)|exact⟨rfl,rfl,_,.r2 hv qu hP t,HQ⟩
 .rintro lM b' aT L' cq i' aQ aR da aP A ga h0 hs ⟨rfl,ho,ex,hE,rfl⟩;generalize hw:(z.step x.j y).1=w at*
  cases w<;>first|(cases ho;done)|skip
  obtain⟨hu,⟨N7,log,hg,rfl⟩,hE⟩:=hE;have tu:=bm.cons (p:=ph q) hg .nil;have hi:=rE.bd hy h hw;rcases hE with⟨rfl,hE⟩|⟨he,hE⟩
  .obtain⟨rfl,rfl,_,rfl,rfl,rfl,rfl,rfl⟩:=hE;cases t with
   |@cons _ _ oq oX g2 L2 h2 t2=>
   obtain⟨fh,rfl⟩:=hs.inv;obtain⟨p2,rfl,rfl⟩:=h2;exact⟨rfl,by first|rfl|exact nz,_,.r3 fh qu (hi rfl) tu t2,by(try simp only[lC,lA,lB,List.append_nil]);generalize ae m bl _ rest=MM;exact HQ⟩
  .obtain⟨rfl,rfl,_,rfl,rfl,rfl,rfl,rfl⟩:=hE;have e:∀a,sZ x o (.d a aP)=.d 0 0 aP false:=λ_=>if_neg he;rw[e];exact⟨rfl,rfl,_,.d hs (λh=>absurd h he),by(try simp only[lC,lA,lB,List.append_nil]);generalize ae m bl _ rest=MM;exact HQ⟩
theorem SU {i:Int}:PQ x o q b m bl rest y (.r3 i):=by
 intro B0 S W R l ro hx hk hy h H;obtain⟨eg,cX,eV,fu,fp,fw,bz,dH,fy,fE,eM,fq,-⟩:=aS hx hk;cases h with
 |@r3 i p1 L g sv uv UL gu vx vn vt t0 t3 key aw hv qu hi tu t=>
 simp only[lA,lB,lC] at H;have H:=Hs.cx (tgt:=.obj q _::.sl sv 1 _::([.obj p1 (.row [.fn (.func 267) [] [.ptr vx 0,.ptr vt 0]])]++(ae m bl y rest++(.sl uv 1 UL::.obj vx (.row [.ptr q 0])::.obj vt (.row [I t0,I o.prio,I o.every,I t3])::(g++(gu++(.obj vn (.row [I o.tk])::R))))))) HQ H;refine fz (kT:=if(y.add x.seq 1).new<1\/1099511627775<(y.add x.seq 1).new then .r6 i 0 12 (.new x.j i) else .r4 i (mZ o.prio (y.add x.seq 1).new) (.new x.j i)) (y':=y.add x.seq 1) (by rw[t.len];exact Nat.le_of_ble_eq_true rfl) (λaT h1 h2 h3 B W S H=>addPart h1 h2 h3 hy (by rw[tu.len];exact Nat.le_of_ble_eq_true rfl) am (by have:=bz qu;omega) H) ?_ ?_ H;.rintro b' aT A hv ⟨⟩
 .rintro lM b' aT L' cq i' aQ aR da aP A ga h0 hs ⟨rfl,ho,hE,rfl⟩;generalize(y.add x.seq 1).new=s at*
  rcases hE with⟨hr,hE⟩|⟨hr,hE⟩
  .rw[if_neg am,bF.dD hi];obtain⟨rfl,rfl,rfl,rfl,rfl,rfl,rfl,rfl⟩:=hE;cases t with
   |@cons _ _ oq oX g2 L2 h2 t2=>
   obtain⟨fh,rfl⟩:=hs.inv;exact⟨rfl,by first|rfl|exact nz,_,.r4 fh qu hi (.f hi h2) tu t2,by(try simp only[lC,lA,lB,List.append_nil]);generalize ae m bl _ rest=MM;exact HQ⟩
  .obtain⟨rfl,rfl,rfl,rfl,rfl,rfl,rfl⟩:=hE;rw[if_pos hr];cases tu with
   |@cons _ _ oq oX g2 L2 h2 t2=>
   obtain⟨fh,rfl⟩:=hs.inv;rw[cW.dD hi];exact⟨rfl,by first|rfl|exact nz,_,.r6 fh ac (.f hi h2) t2,by(try simp only[lC,lA,lB,List.append_nil]);generalize ae m bl _ rest=MM;exact HQ⟩
theorem SV {z}{i w:Int}:PQ x o q b m bl rest y (.r4 i w z):=by
 intro B0 S W R l ro hx hk hy h H;obtain⟨eg,cX,eV,fu,fp,fw,bz,dH,fy,fE,eM,fq,-⟩:=aS hx hk;cases h with
 |@r4 z i w cl lo L g sv uv UL gu vx vn aw hv qu hi h tu t=>
 simp only[lA,lB,lC] at H;have H:=Hs.cx (tgt:=.obj q _::.sl sv 1 _::(lo++(ae m bl y rest++(.obj vx (.row [.ptr q 0])::(g++(gu++(.sl uv 1 UL::.obj vn (.row [I o.tk])::R))))))) HQ H;refine fz (kT:=if(z.step x.j i w y).1.over then .r5 i w .a else .r4 i w (z.step x.j i w y).1) (y':=(z.step x.j i w y).2) (by rw[t.len];exact Nat.le_of_ble_eq_true rfl) (λaT h1 h2 h3 B W S H=>H8 h1 h2 h3 cX hy h H) ?_ ?_ H
 .rintro b' aT A hv ⟨rfl,ho,jx,hP,rfl⟩;generalize hw:(z.step x.j i w y).1=w at*
  rw[if_neg (by rw[ho];simp)];exact⟨rfl,rfl,_,.r4 hv qu hi hP tu t,HQ⟩
 .rintro lM b' aT L' cq i' aQ aR da aP A ga h0 hs ⟨rfl,ho,hE,rfl⟩;generalize hw:(z.step x.j i w y).1=w at*
  rw[if_pos ho];obtain⟨rfl,rfl,rfl,rfl,rfl,rfl,rfl,rfl⟩:=hE;cases t with
  |@cons _ _ oq oX g2 L2 h2 t2=>
  obtain⟨fh,rfl⟩:=hs.inv;exact⟨rfl,by first|rfl|exact nz,_,.r5 fh qu hi (.f am h2) tu t2,by(try simp only[lC,lA,lB,List.append_nil]);generalize ae m bl _ rest=MM;exact HQ⟩
theorem SW {z}{i w:Int}:PQ x o q b m bl rest y (.r5 i w z):=by
 intro B0 S W R l ro hx hk hy h H;obtain⟨eg,cX,eV,fu,fp,fw,bz,dH,fy,fE,eM,fq,-⟩:=aS hx hk;cases h with
 |@r5 z i w cl lo L g sv uv UL gu vx vn aw hv qu hi h tu t=>
 simp only[lA,lB,lC] at H;have H:=Hs.cx (tgt:=.obj q _::.sl sv 1 _::(lo++(ae m bl y rest++(.sl uv 1 UL::.obj vx (.row [.ptr q 0])::.obj vn (.row [I o.tk])::(g++(gu++(R))))))) HQ H;refine fz (kT:=aG.s0 x o i w (z.step (x.ring (o.tk%x.aq)) i y).1) (y':=(z.step (x.ring (o.tk%x.aq)) i y).2) (by rw[t.len];exact Nat.le_of_ble_eq_true rfl) (λaT h1 h2 h3 B W S H=>Ic h1 h2 h3 (by rw[tu.len];exact Nat.le_of_ble_eq_true rfl) (by have:=bz qu;omega) am (Ct hx (by have:=bz qu;exact Int.emod_nonneg _ am) (by have:=Int.emod_lt_of_pos o.tk (show 0<x.aq by omega);omega)) hy h H) ?_ ?_ H
 .rintro b' aT A hv ⟨rfl,ho,jx,hP,rfl⟩;generalize hw:(z.step (x.ring (o.tk%x.aq)) i y).1=w at*
  cases w<;>first|(cases ho;done)|exact⟨rfl,rfl,_,.r5 hv qu hi hP tu t,HQ⟩
 .rintro lM b' aT L' cq i' aQ aR da aP A ga h0 hs ⟨rfl,ho,hE,rfl⟩;generalize hw:(z.step (x.ring (o.tk%x.aq)) i y).1=w at*
  cases w<;>first|(cases ho;done)|skip
  rcases hE with⟨rfl,hE⟩|⟨he,hE⟩
  .obtain⟨rfl,rfl,rfl,rfl,rfl,rfl,rfl,rfl⟩:=hE;cases t;exact⟨rfl,by first|rfl|exact nz,_,.d hs (λ_ _=>⟨rfl,rfl⟩),by(try simp only[lC,lA,lB,List.append_nil]);generalize ae m bl _ rest=MM;exact HQ⟩
  .obtain⟨rfl,rfl,rfl,rfl,rfl,rfl,rfl⟩:=hE;have e:∀(i w:Int),s0 x o i w (.d _)=.r6 i w _ (.new x.j i):=λ_ _=>if_neg he;rw[e,cW.dD hi];cases tu with
   |@cons _ _ oq oX g2 L2 h2 t2=>
   obtain⟨fh,rfl⟩:=hs.inv;exact⟨rfl,by first|rfl|exact nz,_,.r6 fh he (.f hi h2) t2,by(try simp only[lC,lA,lB,List.append_nil]);generalize ae m bl _ rest=MM;exact HQ⟩
theorem SX {z}{i w e:Int}:PQ x o q b m bl rest y (.r6 i w e z):=by
 intro B0 S W R l ro hx hk hy h H;obtain⟨eg,cX,eV,fu,fp,fw,bz,dH,fy,fE,eM,fq,-⟩:=aS hx hk;cases h with
 |@r6 z i w e cl lo L g sv uv key aw hv he h t=>
 simp only[lA,lB,lC] at H;have H:=Hs.cx (tgt:=.obj q _::.sl sv 1 _::(lo++(ae m bl y rest++((g++(R)))))) HQ H;refine fz (kT:=if(z.step x.j i y).1.over then .d i w e false else .r6 i w e (z.step x.j i y).1) (y':=(z.step x.j i y).2) (by rw[t.len];exact Nat.le_of_ble_eq_true rfl) (λaT h1 h2 h3 B W S H=>A0 h1 h2 h3 cX hy h H) ?_ ?_ H
 .rintro b' aT A hv ⟨rfl,ho,jx,hP,rfl⟩;generalize hw:(z.step x.j i y).1=w at*
  rw[if_neg (by rw[ho];simp)];exact⟨rfl,rfl,_,.r6 hv he hP t,HQ⟩
 .rintro lM b' aT L' cq i' aQ aR da aP A ga h0 hs ⟨rfl,ho,hE,rfl⟩;generalize hw:(z.step x.j i y).1=w at*
  rw[if_pos ho];obtain⟨rfl,rfl,rfl,rfl,rfl,rfl,rfl,rfl⟩:=hE;cases t;exact⟨rfl,by first|rfl|exact nz,_,.d hs (λe _=>absurd e he),by(try simp only[lC,lA,lB,List.append_nil]);generalize ae m bl _ rest=MM;exact HQ⟩
end
end
end Go.cG
