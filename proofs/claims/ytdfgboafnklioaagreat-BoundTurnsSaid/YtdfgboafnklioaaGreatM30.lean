/- Contracts. Conditions: in each theorem. -/
import Derived.Test.YtdfgboafnklioaaGreatM24
set_option linter.all false
set_option maxRecDepth 100000
set_option maxHeartbeats 4000000
namespace Go.cO
open Go.Proofs
def Xc.ok (x:Xc):Prop:=x.t.ok/\x.j.ok/\x.r.ok/\((0<=x.cn/\x.cn<4096)/\1<=x.many/\x.many<4096)/\((0<=x.iW/\x.iW<4096)/\(1<=x.aJ/\x.aJ<=64)/\1<=x.room/\x.room<=16)/\((0<=x.own/\x.own<4096)/\0<=x.seq/\x.seq<4096)/\x.aJ=x.t.l.e.ah/\x.r.ah=x.t.l.e.ah/\x.j.f.size<=64
def Od.ok (o:Od)(x:Xc):Prop:=(0<=o.c/\o.c<x.t.l.e.ah)/\(1<=o.high/\o.high<=x.t.ht)/\(o.k=1->(0<=o.tk/\o.tk<x.many)/\(0<=o.prio/\o.prio<=254)/\(0<=o.every/\o.every<=1099511627776)/\0<=o.now/\o.now<=1099511627776)
def lE (sv:AV):Prop:=odd sv=false/\sv.cells=[sv]/\AV.beq sv sv=true
structure Pk where
 fn:Nat
 F:List AV->List Own->Prop
inductive bg:List Pk->List (List AV)->List Own->Prop
 |nil:bg [] [] []
 |cons {p ps cl lo g L}(h:p.F cl lo)(t:bg ps L g):bg (p::ps) (L++[[.fn (.func p.fn) [] cl]]) (lo++g)
theorem bg.len {ps L g}(h:bg ps L g):L.length=ps.length:=by
 induction h with
 |nil=>rfl
 |cons h t ih=>simp[ih]
theorem Ca.inv {sv v L fW}(h:Ca sv (L++[[v]]) fW):lE sv/\fW=[.sl sv 1 (L++[[v]])]:=by
 generalize e:L++[[v]]=M at h;cases h with
 |n=>simp at e
 |s h1 h2 h3=>exact⟨⟨h1,h2,h3⟩,rfl⟩
theorem Ca.Sx {sv a b c d e L fW}(h:Ca sv (L++[[a],[b],[c],[d],[e]]) fW):lE sv/\fW=[.sl sv 1 (L++[[a],[b],[c],[d],[e]])]:=by
 generalize e:L++[[a],[b],[c],[d],[e]]=M at h;cases h with
 |n=>simp at e
 |s h1 h2 h3=>exact⟨⟨h1,h2,h3⟩,rfl⟩
theorem Ca.Sy {sv a L N fW}(h:Ca sv (L++([a]::N)) fW):lE sv/\fW=[.sl sv 1 (L++([a]::N))]:=by
 generalize e:L++([a]::N)=M at h;cases h with
 |n=>simp at e
 |s h1 h2 h3=>exact⟨⟨h1,h2,h3⟩,rfl⟩
theorem nz {L:List (List AV)}{v:AV}:false=decide ((L++[[v]]).length=0):=ac
theorem Xc.xp (x:Xc){w:Int}(h:0<=x.rd w):0<=x.rd w/\x.rd w<x.j.f.size:=by
 refine⟨h,?_⟩;unfold Xc.rd at*
 split at h;.omega
 .rw[if_neg ci];omega
theorem cX.dy {j}{i:Int}(h:0<=i/\i<j.f.size):cX.new j i=.l:=if_neg am
theorem bF.dy {j}{i:Int}(h:0<=i/\i<j.f.size):bF.new j i=.a:=if_neg am
theorem aZ.dy {j}{i c:Int}(h:0<=i/\i<j.f.size)(hc:0<=c/\c<64):aZ.new j i c=.l:=(if_neg am).trans (if_neg am)
theorem Cd {x:Xc}{c:Int}(h:x.ok)(h0:0<=c)(h1:c<64):(x.ring c).ok:=by
 unfold Xc.ok at h;unfold Rn.ok Xc.ring;have:=h.2.2.2.2.1;have e1:c*(x.room+2)<=63*(x.room+2):=Int.mul_le_mul_of_nonneg_right am am;have e2:0<=c*(x.room+2):=Int.mul_nonneg h0 am;refine⟨?_,?_,?_,?_⟩<;>dsimp only<;>omega
theorem mG.bd {x r}{q:Nat}{cl z lo y}{h v e:Int}(hy:y.gd)(hp:mG x r q cl z lo)(hw:(z.step r y).1=.d h v e)(he:e=0):(0<=v/\v<65536)/\Me.ar h:=by
 subst he;cases hp with
 |f h=>cases hw
 |r dc h ho=>
  cases h with
  |a=>cases hw
  |b hh=>
   have hb:=Me.aj hy;unfold Me.ar at hb;have e0:∀(p:Prop) [Decidable p] (a b:eM),(if p then a else b)=.d h v 0->(a=.d h v 0->(0<=v/\v<65536)/\Me.ar h)->(b≠.d h v 0)->(0<=v/\v<65536)/\Me.ar h:=by
    intro p _ a b Qc h1 h2;split at Qc;.exact h1 Qc
    .exact absurd Qc h2
   refine e0 _ _ _ hw (λe=>?_) (λe=>by cases e);injection e with e1 e2;subst e1 e2;exact⟨am,hh⟩
  |_=>cases ho
theorem q8.bd {x}{vx q:Nat}{i:Int}{cl z lo y}{w e:Int}(hy:y.gd)(hp:q8 x vx i q cl z lo)(hw:(z.stepOf x.j i y).1=.d w e):Me.ar w:=by
 cases hp with
 |f hi h=>cases hw;exact Me.aj hy _
 |r dc h ho=>cases z<;>first|(cases ho;done)|(cases hw;exact Me.aj hy _)
theorem q9.bd {x}{vx q:Nat}{i:Int}{cl z lo y}{w e:Int}(hy:y.gd)(hp:q9 x vx i q cl z lo)(hw:(z.stepOf x.j i y).1=.d w e):Me.ar w:=by
 cases hp with
 |f hi h=>cases hw;exact Me.aj hy _
 |r dc h ho=>cases z<;>first|(cases ho;done)|(cases hw;exact Me.aj hy _)
theorem ra.bd {x}{vx q:Nat}{cl z lo y}{i e:Int}(hy:y.gd)(hp:ra x vx q cl z lo)(hw:(z.step x.j y).1=.d i e)(he:e=0):0<=i/\i<x.j.f.size:=by
 subst he;have e0:∀w:pO,cw.kh w=.d i 0->False:=by
  intro w;cases w with
  |d j=>
   intro e;have e:(if j<0 then cw.d 0 7 else .l j)=.d i 0:=e;split at e<;>cases e
  |_=>intro e;cases e
 have key:∀σ:cw,σ.over=false->∀lm qm,kM x.j qm σ lm->(σ.step x.j y).1=.d i 0->0<=i/\i<x.j.f.size:=by
  intro σ ho lm qm h hw;cases h with
  |p h Li=>exact(e0 _ hw).elim
  |l hi=>cases hw
  |s hi dt=>
   have e0:∀(p:Prop) [Decidable p] (j:Int),(if p then cw.d j 0 else .l j)=.d i 0->j=i:=by
    intro p _ j e;split at e<;>cases e
    rfl
   have:=e0 _ _ hw;subst this;exact hi
  |_=>cases ho
 cases hp with
 |f h=>exact(e0 _ hw).elim
 |r dc h ho=>exact key _ ho _ _ h hw
theorem Pk.ext' {α:Type}{a b:α}(h:a=b):b=a:=h.symm
theorem aO {x:Xc}{o:Od}(hx:x.ok)(hk:o.ok x):x.t.ok/\x.j.ok/\x.r.ok/\(((0<=x.cn/\x.cn<4096)/\1<=x.many/\x.many<4096)/\((0<=x.iW/\x.iW<4096)/\(1<=x.aJ/\x.aJ<=64)/\1<=x.room/\x.room<=16)/\((0<=x.own/\x.own<4096)/\0<=x.seq/\x.seq<4096)/\x.aJ=x.t.l.e.ah/\x.r.ah=x.t.l.e.ah/\x.j.f.size<=64)/\
  (0<=o.c/\o.c<x.t.l.e.ah)/\(1<=o.high/\o.high<=x.t.ht)/\(o.k=1->(0<=o.tk/\o.tk<x.many)/\(0<=o.prio/\o.prio<=254)/\(0<=o.every/\o.every<=1099511627776)/\0<=o.now/\o.now<=1099511627776)/\
  (1<=x.j.f.size/\x.j.f.size<=4096)/\x.t.l.e.ah<=64/\(1<=x.t.ht/\x.t.ht<=4)/\(x.ring o.c).ok/\((0<=x.r.runs/\x.r.runs<4096)/\(0<=x.r.flags/\x.r.flags<4096)/\1<=x.r.ah/\x.r.ah<=64)/\
  ((0<=x.t.nd/\x.t.nd<4096)/\(0<=x.t.hd/\x.t.hd<4096)/\(1<=x.t.ht/\x.t.ht<=4)/\1<=x.t.l.a.f.size/\x.t.l.a.f.size<=128)/\(((0<=x.j.f.top/\x.j.f.top<100000)/\(0<=x.j.f.gp/\x.j.f.gp<100000)/\1<=x.j.f.size/\x.j.f.size<=4096)/\(0<=x.j.bE/\x.j.bE<100000)/\0<=x.j.keys/\x.j.keys<100000):=by
 have Q4:=hx;unfold Xc.ok at hx;obtain⟨dT,cY,eO,fi⟩:=hx;obtain⟨ff,fj,bz⟩:=hk;have fk:x.t.l.e.ah<=64:=by have:=dT;unfold Tw.ok Lb.ok Ep.ok at this;omega
 have fg:=eO;unfold Rs.ok at fg;have mH:=cY;unfold Jb.ok Sk.ok at mH;exact⟨dT,cY,eO,fi,ff,fj,bz,cY.1.2.2,fk,dT.2.2.1,Cd Q4 am am,fg,⟨dT.1,dT.2.1,dT.2.2.1,dT.2.2.2.2.1.1.2.2.1,dT.2.2.2.1⟩,mH⟩
abbrev LM (vx q:Nat):Pk:=⟨370,Dx vx q⟩
abbrev NA (vx vt:Nat):Pk:=⟨377,λcl lo=>∃p,cl=[.ptr p 0]/\lo=[.obj p (.row [.fn (.func 267) [] [.ptr vx 0,.ptr vt 0]])]⟩
abbrev Dz (vx q:Nat):Pk:=⟨486,Dt vx q⟩
abbrev AN (vx vn q:Nat):Pk:=⟨385,Du vx vn q⟩
abbrev o8 (q:Nat):Pk:=⟨481,AE q⟩
abbrev LN (vx q:Nat):Pk:=⟨496,Dv vx q⟩
abbrev dz (fr to:Int)(q:Nat):Pk:=⟨490,lZ fr to q⟩
abbrev DA (vx:Nat)(high:Int)(q:Nat):Pk:=⟨499,Dw vx high q⟩
abbrev vA (vb vx q:Nat):Pk:=⟨408,yO vb vx q⟩
abbrev iY (q:Nat):Pk:=⟨506,AK q⟩
abbrev vB (vx:Nat):Pk:=⟨377,λcl lo=>∃p,cl=[.ptr p 0]/\lo=[.obj p (.row [.fn (.func 420) [] [.ptr vx 0]])]⟩
abbrev tq (vx:Nat):Pk:=⟨377,λcl lo=>∃p,cl=[.ptr p 0]/\lo=[.obj p (.row [.fn (.func 421) [] [.ptr vx 0]])]⟩
abbrev sO (vx q:Nat):Pk:=⟨510,AM vx q⟩
abbrev cd (cb w:Int):Pk:=⟨377,λcl lo=>∃p a b,cl=[.ptr p 0]/\lo=[.obj p (.row [.fn (.func 423) [] [.ptr a 0,.ptr b 0]]),.obj a (.row [I cb]),.obj b (.row [U w])]⟩
abbrev Ce (vx vh q:Nat):Pk:=⟨377,λcl lo=>∃p a b,cl=[.ptr p 0]/\lo=[.obj p (.row [.fn (.func 414) [] [.ptr a 0,.ptr b 0]]),.obj a (.row [.ptr q 0]),.obj b (.row [.fn (.func 300) [] [.ptr vx 0,.ptr vh 0]])]⟩
abbrev AP (vx q:Nat):Pk:=⟨486,AJ vx q⟩
abbrev xq (vx:Nat)(high:Int)(q:Nat):Pk:=⟨499,AL vx high q⟩
abbrev vC (vx q:Nat):Pk:=⟨486,AG vx q⟩
abbrev yP (cb:Int)(vx:Nat):Pk:=⟨377,λcl lo=>∃p a,cl=[.ptr p 0]/\lo=[.obj p (.row [.fn (.func 426) [] [.ptr a 0,.ptr vx 0]]),.obj a (.row [I cb])]⟩
abbrev Sz (q:Nat):Pk:=⟨496,J3 q⟩
theorem Cf {q vp pr po:Nat}{yJ sM yL sN}(hb:AK q yJ yL)(ht:lZ 3 4 q sM sN):bg [dz 3 4 q,vB vp,tq vp,iY q] [[.fn (.func 506) [] yJ],[.fn (.func 377) [] [.ptr pr 0]],[.fn (.func 377) [] [.ptr po 0]],[.fn (.func 490) [] sM]]
  (sN++([.obj po (.row [.fn (.func 420) [] [.ptr vp 0]])]++([.obj pr (.row [.fn (.func 421) [] [.ptr vp 0]])]++(yL++[])))):=
 bg.cons (p:=dz 3 4 q) ht (bg.cons (p:=vB vp) ⟨po,rfl,rfl⟩ (bg.cons (p:=tq vp) ⟨pr,rfl,rfl⟩ (bg.cons (p:=iY q) hb .nil)))
theorem NB {x:Xc}{c high:Int}{q vx vp pr po s1 a1 w1 s2 a2 w2:Nat}{yJ sM yK ND J8 NF:List AV}{yL sN yM NG J_ NH:List Own}(Lh:lZ 4 3 q ND NG)(hl:AJ vx q J8 J_)(RX:AL vx high q NF NH)(hp:AM vp q yK yM)(hb:AK q yJ yL)(ht:lZ 3 4 q sM sN):
  bg [dz 4 3 q,cd (x.r.runs+c) 18446744073709551615,AP vx q,xq vx high q,cd (x.own+c) 0,sO vp q,dz 3 4 q,vB vp,tq vp,iY q]
  [[.fn (.func 506) [] yJ],[.fn (.func 377) [] [.ptr pr 0]],[.fn (.func 377) [] [.ptr po 0]],[.fn (.func 490) [] sM],[.fn (.func 510) [] yK],
   [.fn (.func 377) [] [.ptr s1 0]],[.fn (.func 499) [] NF],[.fn (.func 486) [] J8],[.fn (.func 377) [] [.ptr s2 0]],[.fn (.func 490) [] ND]]
  (NG++([.obj s2 (.row [.fn (.func 423) [] [.ptr a2 0,.ptr w2 0]]),.obj a2 (.row [I (x.r.runs+c)]),.obj w2 (.row [U 18446744073709551615])]++(J_++(NH++([.obj s1 (.row [.fn (.func 423) [] [.ptr a1 0,.ptr w1 0]]),.obj a1 (.row [I (x.own+c)]),.obj w1 (.row [U 0])]++(yM++
    (sN++([.obj po (.row [.fn (.func 420) [] [.ptr vp 0]])]++([.obj pr (.row [.fn (.func 421) [] [.ptr vp 0]])]++(yL++[])))))))))):=
 bg.cons (p:=dz 4 3 q) Lh (bg.cons (p:=cd (x.r.runs+c) 18446744073709551615) ⟨s2,a2,w2,rfl,rfl⟩ (bg.cons (p:=AP vx q) hl (bg.cons (p:=xq vx high q) RX (bg.cons (p:=cd (x.own+c) 0) ⟨s1,a1,w1,rfl,rfl⟩ (bg.cons (p:=sO vp q) hp (Cf hb ht))))))
theorem NI {x:Xc}{c:Int}{q vx u1 ua uw u2 vr:Nat}{J9 J0:List AV}{Ka Sm:List Own}(hu:lZ 3 4 q J9 Ka)(ho:AG vx q J0 Sm):
  bg [vC vx q,dz 3 4 q,yP (x.r.runs+c) vx,cd (x.r.flags+c) 1] [[.fn (.func 377) [] [.ptr u1 0]],[.fn (.func 377) [] [.ptr u2 0]],[.fn (.func 490) [] J9],[.fn (.func 486) [] J0]]
  (Sm++(Ka++([.obj u2 (.row [.fn (.func 426) [] [.ptr vr 0,.ptr vx 0]]),.obj vr (.row [I (x.r.runs+c)])]++([.obj u1 (.row [.fn (.func 423) [] [.ptr ua 0,.ptr uw 0]]),.obj ua (.row [I (x.r.flags+c)]),.obj uw (.row [U 1])]++[])))):=
 bg.cons (p:=vC vx q) ho (bg.cons (p:=dz 3 4 q) hu (bg.cons (p:=yP (x.r.runs+c) vx) ⟨u2,vr,rfl,rfl⟩ (bg.cons (p:=cd (x.r.flags+c) 1) ⟨u1,ua,uw,rfl,rfl⟩ .nil)))
inductive eP (x:Xc)(o:Od)(q:Nat)(b:Int):an->List Own->Prop
 |r1 {z cl lo L g sv uv}{vx vn vt vw:Nat}{t0 t3 i key au:Int}(hv:lE sv)(p_:o.k=1)(h:xk x vx vn vt vw o.tk o.every o.now q cl z lo)(t:bg [LM vx q,NA vx vt,Dz vx q,AN vx vn q] L g):eP x o q b (.r1 z) (.obj q (.row (x.row o.k o.c sv uv i key au false b 0))::.sl sv 1 (L++[[.fn (.func 368) [] cl]])::(lo++(g++(.obj vx (.row [.ptr q 0])::.obj vn (.row [I o.tk])::.obj vt (.row [I t0,I o.prio,I o.every,I t3])::.obj vw (.row [I o.now])::[]))))
 |r2 {z cl lo L g sv uv}{vx vn vt:Nat}{t0 t3 i key au:Int}(hv:lE sv)(p_:o.k=1)(h:ra x vx q cl z lo)(t:bg [NA vx vt,Dz vx q,AN vx vn q] L g):eP x o q b (.r2 z) (.obj q (.row (x.row o.k o.c sv uv i key au false b 0))::.sl sv 1 (L++[[.fn (.func 370) [] cl]])::(lo++(g++(.obj vx (.row [.ptr q 0])::.obj vn (.row [I o.tk])::.obj vt (.row [I t0,I o.prio,I o.every,I t3])::[]))))
 |r3 {i:Int}{p1:Nat}{L g sv uv UL gu}{vx vn vt:Nat}{t0 t3 key au:Int}(hv:lE sv)(p_:o.k=1)(hi:0<=i/\i<x.j.f.size)(tu:bg [o8 q] UL gu)(t:bg [Dz vx q,AN vx vn q] L g):eP x o q b (.r3 i) (.obj q (.row (x.row o.k o.c sv uv i key au false b 0))::.sl sv 1 (L++[[.fn (.func 377) [] [.ptr p1 0]]])::([.obj p1 (.row [.fn (.func 267) [] [.ptr vx 0,.ptr vt 0]])]++(g++(gu++(.sl uv 1 UL::.obj vx (.row [.ptr q 0])::.obj vt (.row [I t0,I o.prio,I o.every,I t3])::.obj vn (.row [I o.tk])::[])))))
 |r4 {z}{i w:Int}{cl lo L g sv uv UL gu}{vx vn:Nat}{au:Int}(hv:lE sv)(p_:o.k=1)(hi:0<=i/\i<x.j.f.size)(h:xh x i w vx q cl z lo)(tu:bg [o8 q] UL gu)(t:bg [AN vx vn q] L g):eP x o q b (.r4 i w z) (.obj q (.row (x.row o.k o.c sv uv i w au false b 0))::.sl sv 1 (L++[[.fn (.func 486) [] cl]])::(lo++(g++(gu++(.obj vx (.row [.ptr q 0])::.sl uv 1 UL::.obj vn (.row [I o.tk])::[])))))
 |r5 {z}{i w:Int}{cl lo L g sv uv UL gu}{vx vn:Nat}{au:Int}(hv:lE sv)(p_:o.k=1)(hi:0<=i/\i<x.j.f.size)(h:xl x vx vn o.tk i q cl z lo)(tu:bg [o8 q] UL gu)(t:bg [] L g):eP x o q b (.r5 i w z) (.obj q (.row (x.row o.k o.c sv uv i w au false b 0))::.sl sv 1 (L++[[.fn (.func 385) [] cl]])::(lo++(g++(gu++(.sl uv 1 UL::.obj vx (.row [.ptr q 0])::.obj vn (.row [I o.tk])::[])))))
 |r6 {z}{i w e:Int}{cl lo L g sv uv}{key au:Int}(hv:lE sv)(he:e≠0)(h:vz x i q cl z lo)(t:bg [] L g):eP x o q b (.r6 i w e z) (.obj q (.row (x.row o.k o.c sv uv i key au false b e))::.sl sv 1 (L++[[.fn (.func 481) [] cl]])::(lo++(g++([]))))
 |t1 {z cl lo L g sv uv UL gu}{vx vb:Nat}{i key au:Int}(hv:lE sv)(h:mG x (x.ring o.c) q cl z lo)(tu:bg [dz 3 2 q] UL gu)(t:bg [LN vx q,dz 2 3 q,DA vx o.high q,vA vb vx q,iY q] L g):eP x o q b (.t1 z) (.obj q (.row (x.row o.k o.c sv uv i key au false b 0))::.sl sv 1 (L++[[.fn (.func 493) [] cl]])::(lo++(g++(gu++(.sl uv 1 UL::.obj vx (.row [.ptr q 0])::.obj vb (.row [I (x.ring o.c).head,I (x.ring o.c).tail,I (x.ring o.c).eY,I (x.ring o.c).size])::[])))))
 |t2 {z}{i hd:Int}{cl lo L g sv uv UL gu}{vx vb:Nat}{key:Int}(hv:lE sv)(hh:Me.ar hd)(hi:0<=i/\i<x.j.f.size)(h:q8 x vx i q cl z lo)(tu:bg [dz 3 2 q] UL gu)(t:bg [dz 2 3 q,DA vx o.high q,vA vb vx q,iY q] L g):eP x o q b (.t2 i hd z) (.obj q (.row (x.row o.k o.c sv uv i key hd false b 0))::.sl sv 1 (L++[[.fn (.func 496) [] cl]])::(lo++(g++(gu++(.obj vx (.row [.ptr q 0])::.sl uv 1 UL::.obj vb (.row [I (x.ring o.c).head,I (x.ring o.c).tail,I (x.ring o.c).eY,I (x.ring o.c).size])::[])))))
 |t3 {z}{i hd w:Int}{cl lo L g sv uv UL gu}{vx vb:Nat}(hv:lE sv)(hh:Me.ar hd)(hi:0<=i/\i<x.j.f.size)(dt:Me.ar w/\¬b_ w)(h:nW x i 2 3 o.c q cl z lo)(tu:bg [dz 3 2 q] UL gu)(t:bg [DA vx o.high q,vA vb vx q,iY q] L g):eP x o q b (.t3 i hd w z) (.obj q (.row (x.row o.k o.c sv uv i w hd false b 0))::.sl sv 1 (L++[[.fn (.func 490) [] cl]])::(lo++(g++(gu++(.sl uv 1 UL::.obj vx (.row [.ptr q 0])::.obj vb (.row [I (x.ring o.c).head,I (x.ring o.c).tail,I (x.ring o.c).eY,I (x.ring o.c).size])::[])))))
 |t4 {z}{i hd w:Int}{cl lo L g sv uv UL gu}{vx vb:Nat}(hv:lE sv)(hh:Me.ar hd)(hi:0<=i/\i<x.j.f.size)(dt:Me.ar w/\¬b_ w)(h:xm x o.c i w o.high vx q cl z lo)(tu:bg [dz 3 2 q] UL gu)(t:bg [vA vb vx q,iY q] L g):eP x o q b (.t4 i hd w z) (.obj q (.row (x.row o.k o.c sv uv i w hd false b 0))::.sl sv 1 (L++[[.fn (.func 499) [] cl]])::(lo++(g++(gu++(.sl uv 1 UL::.obj vx (.row [.ptr q 0])::.obj vb (.row [I (x.ring o.c).head,I (x.ring o.c).tail,I (x.ring o.c).eY,I (x.ring o.c).size])::[])))))
 |t5 {z}{i w e:Int}{cl lo L g sv uv}{key au:Int}(hv:lE sv)(he:e≠0)(h:nW x i 3 2 o.c q cl z lo)(t:bg [] L g):eP x o q b (.t5 i w e z) (.obj q (.row (x.row o.k o.c sv uv i key au false b e))::.sl sv 1 (L++[[.fn (.func 490) [] cl]])::(lo++(g++([]))))
 |t6 {z}{i hd w:Int}{cl lo L g sv uv}{vx vb:Nat}(hv:lE sv)(h:rV x (x.ring o.c) hd vb vx q cl z lo)(t:bg [iY q] L g):eP x o q b (.t6 i hd w z) (.obj q (.row (x.row o.k o.c sv uv i w hd false b 0))::.sl sv 1 (L++[[.fn (.func 408) [] cl]])::(lo++(g++(.obj vx (.row [.ptr q 0])::.obj vb (.row [I (x.ring o.c).head,I (x.ring o.c).tail,I (x.ring o.c).eY,I (x.ring o.c).size])::[]))))
 |oX {z}{i w:Int}{cl lo L g sv uv}{au:Int}(hv:lE sv)(h:Ev x o.c q cl z lo)(t:bg [] L g):eP x o q b (.oX i w z) (.obj q (.row (x.row o.k o.c sv uv i w au false b 0))::.sl sv 1 (L++[[.fn (.func 506) [] cl]])::(lo++(g++([]))))
 |p1 {p1 a1 b1:Nat}{L g sv uv}{vx:Nat}{i key au:Int}(hv:lE sv)(t:bg [] L g):eP x o q b (.p1) (.obj q (.row (x.row o.k o.c sv uv i key au false b 0))::.sl sv 1 (L++[[.fn (.func 377) [] [.ptr p1 0]]])::([.obj p1 (.row [.fn (.func 414) [] [.ptr a1 0,.ptr b1 0]]),.obj a1 (.row [.ptr q 0]),.obj b1 (.row [.fn (.func 294) [] [.ptr vx 0]])]++(g++(.obj vx (.row [.ptr q 0])::[]))))
 |p2 {z cl lo L g sv uv}{vp:Nat}{i key au:Int}(hv:lE sv)(h:xo x o.c vp q cl z lo)(t:bg [dz 3 4 q,vB vp,tq vp,iY q] L g):eP x o q b (.p2 z) (.obj q (.row (x.row o.k o.c sv uv i key au false b 0))::.sl sv 1 (L++[[.fn (.func 510) [] cl]])::(lo++(g++(.obj vp (.row [.ptr q 0])::[]))))
 |p3 {z}{i w:Int}{cl lo L g sv uv}{vp:Nat}{au:Int}(hv:lE sv)(hi:0<=i/\i<x.j.f.size)(h:nW x i 3 4 o.c q cl z lo)(t:bg [vB vp,tq vp,iY q] L g):eP x o q b (.p3 i w z) (.obj q (.row (x.row o.k o.c sv uv i w au false b 0))::.sl sv 1 (L++[[.fn (.func 490) [] cl]])::(lo++(g++(.obj vp (.row [.ptr q 0])::[]))))
 |p4 {i w:Int}{p1:Nat}{L g sv uv}{vp:Nat}{au:Int}(hv:lE sv)(hi:0<=i/\i<x.j.f.size)(t:bg [tq vp,iY q] L g):eP x o q b (.p4 i w) (.obj q (.row (x.row o.k o.c sv uv i w au false b 0))::.sl sv 1 (L++[[.fn (.func 377) [] [.ptr p1 0]]])::([.obj p1 (.row [.fn (.func 420) [] [.ptr vp 0]])]++(g++(.obj vp (.row [.ptr q 0])::[]))))
 |p5 {i w:Int}{p1:Nat}{L g sv uv}{vp:Nat}{au:Int}(hv:lE sv)(t:bg [iY q] L g):eP x o q b (.p5 i w) (.obj q (.row (x.row o.k o.c sv uv i w au false b 0))::.sl sv 1 (L++[[.fn (.func 377) [] [.ptr p1 0]]])::([.obj p1 (.row [.fn (.func 421) [] [.ptr vp 0]])]++(g++(.obj vp (.row [.ptr q 0])::[]))))
 |s1 {p1:Nat}{L g sv uv}{vx vh vf:Nat}{i key au:Int}(hv:lE sv)(t:bg [cd (x.r.flags+o.c) 0,Ce vx vh q] L g):eP x o q b (.s1) (.obj q (.row (x.row o.k o.c sv uv i key au false b 0))::.sl sv 1 (L++[[.fn (.func 377) [] [.ptr p1 0]]])::([.obj p1 (.row [.fn (.func 297) [] [.ptr vf 0,.ptr vx 0]])]++(g++(.obj vx (.row [.ptr q 0])::.obj vf (.row [I (x.r.flags+o.c)])::.obj vh (.row [I o.high])::[]))))
 |s2 {p1 a1 b1:Nat}{L g sv uv}{vx vh:Nat}{i key au:Int}(hv:lE sv)(t:bg [Ce vx vh q] L g):eP x o q b (.s2) (.obj q (.row (x.row o.k o.c sv uv i key au false b 0))::.sl sv 1 (L++[[.fn (.func 377) [] [.ptr p1 0]]])::([.obj p1 (.row [.fn (.func 423) [] [.ptr a1 0,.ptr b1 0]]),.obj a1 (.row [I (x.r.flags+o.c)]),.obj b1 (.row [U 0])]++(g++(.obj vx (.row [.ptr q 0])::.obj vh (.row [I o.high])::[]))))
 |s3 {p1 a1 b1:Nat}{L g sv uv}{vx vh:Nat}{i key au:Int}(hv:lE sv)(t:bg [] L g):eP x o q b (.s3) (.obj q (.row (x.row o.k o.c sv uv i key au false b 0))::.sl sv 1 (L++[[.fn (.func 377) [] [.ptr p1 0]]])::([.obj p1 (.row [.fn (.func 414) [] [.ptr a1 0,.ptr b1 0]]),.obj a1 (.row [.ptr q 0]),.obj b1 (.row [.fn (.func 300) [] [.ptr vx 0,.ptr vh 0]])]++(g++(.obj vx (.row [.ptr q 0])::.obj vh (.row [I o.high])::[]))))
 |s4 {z}{i:Int}{cl lo L g sv uv UL gu}{vx vp:Nat}{key au:Int}(hv:lE sv)(hi:0<=i/\i<x.j.f.size)(h:q9 x vx i q cl z lo)(tu:bg [vC vx q,dz 3 4 q,yP (x.r.runs+o.c) vx,cd (x.r.flags+o.c) 1] UL gu)(t:bg [dz 4 3 q,cd (x.r.runs+o.c) 18446744073709551615,AP vx q,xq vx o.high q,cd (x.own+o.c) 0,sO vp q,dz 3 4 q,vB vp,tq vp,iY q] L g):eP x o q b (.s4 i z) (.obj q (.row (x.row o.k o.c sv uv i key au false b 0))::.sl sv 1 (L++[[.fn (.func 496) [] cl]])::(lo++(g++(gu++(.obj vx (.row [.ptr q 0])::.sl uv 1 UL::.obj vp (.row [.ptr q 0])::[])))))
 |s5 {z}{i w:Int}{cl lo L g sv uv UL gu}{vx vp:Nat}{au:Int}(hv:lE sv)(hi:0<=i/\i<x.j.f.size)(dt:Me.ar w/\¬b_ w)(h:nW x i 4 3 o.c q cl z lo)(tu:bg [vC vx q,dz 3 4 q,yP (x.r.runs+o.c) vx,cd (x.r.flags+o.c) 1] UL gu)(t:bg [cd (x.r.runs+o.c) 18446744073709551615,AP vx q,xq vx o.high q,cd (x.own+o.c) 0,sO vp q,dz 3 4 q,vB vp,tq vp,iY q] L g):eP x o q b (.s5 i w z) (.obj q (.row (x.row o.k o.c sv uv i w au false b 0))::.sl sv 1 (L++[[.fn (.func 490) [] cl]])::(lo++(g++(gu++(.sl uv 1 UL::.obj vx (.row [.ptr q 0])::.obj vp (.row [.ptr q 0])::[])))))
 |s6 {i w:Int}{p1 a1 b1:Nat}{L g sv uv UL gu}{vx vp:Nat}{au:Int}(hv:lE sv)(hi:0<=i/\i<x.j.f.size)(dt:Me.ar w/\¬b_ w)(tu:bg [vC vx q,dz 3 4 q,yP (x.r.runs+o.c) vx,cd (x.r.flags+o.c) 1] UL gu)(t:bg [AP vx q,xq vx o.high q,cd (x.own+o.c) 0,sO vp q,dz 3 4 q,vB vp,tq vp,iY q] L g):eP x o q b (.s6 i w) (.obj q (.row (x.row o.k o.c sv uv i w au false b 0))::.sl sv 1 (L++[[.fn (.func 377) [] [.ptr p1 0]]])::([.obj p1 (.row [.fn (.func 423) [] [.ptr a1 0,.ptr b1 0]]),.obj a1 (.row [I (x.r.runs+o.c)]),.obj b1 (.row [U 18446744073709551615])]++(g++(gu++(.sl uv 1 UL::.obj vx (.row [.ptr q 0])::.obj vp (.row [.ptr q 0])::[])))))
 |s7 {z}{i w:Int}{cl lo L g sv uv UL gu}{vx vp:Nat}{au:Int}(hv:lE sv)(hi:0<=i/\i<x.j.f.size)(dt:Me.ar w/\¬b_ w)(h:xj x i w vx q cl z lo)(tu:bg [vC vx q,dz 3 4 q,yP (x.r.runs+o.c) vx,cd (x.r.flags+o.c) 1] UL gu)(t:bg [xq vx o.high q,cd (x.own+o.c) 0,sO vp q,dz 3 4 q,vB vp,tq vp,iY q] L g):eP x o q b (.s7 i w z) (.obj q (.row (x.row o.k o.c sv uv i w au false b 0))::.sl sv 1 (L++[[.fn (.func 486) [] cl]])::(lo++(g++(gu++(.obj vx (.row [.ptr q 0])::.sl uv 1 UL::.obj vp (.row [.ptr q 0])::[])))))
 |s8 {z}{i w:Int}{cl lo L g sv uv UL gu}{vx vp:Nat}{au:Int}(hv:lE sv)(hi:0<=i/\i<x.j.f.size)(dt:Me.ar w/\¬b_ w)(h:xn x o.c i w o.high vx q cl z lo)(tu:bg [vC vx q,dz 3 4 q,yP (x.r.runs+o.c) vx,cd (x.r.flags+o.c) 1] UL gu)(t:bg [cd (x.own+o.c) 0,sO vp q,dz 3 4 q,vB vp,tq vp,iY q] L g):eP x o q b (.s8 i w z) (.obj q (.row (x.row o.k o.c sv uv i w au false b 0))::.sl sv 1 (L++[[.fn (.func 499) [] cl]])::(lo++(g++(gu++(.sl uv 1 UL::.obj vx (.row [.ptr q 0])::.obj vp (.row [.ptr q 0])::[])))))
 |s9 {i w:Int}{p1 a1 b1:Nat}{L g sv uv}{vp:Nat}{au:Int}(hv:lE sv)(t:bg [sO vp q,dz 3 4 q,vB vp,tq vp,iY q] L g):eP x o q b (.s9 i w) (.obj q (.row (x.row o.k o.c sv uv i w au false b 0))::.sl sv 1 (L++[[.fn (.func 377) [] [.ptr p1 0]]])::([.obj p1 (.row [.fn (.func 423) [] [.ptr a1 0,.ptr b1 0]]),.obj a1 (.row [I (x.own+o.c)]),.obj b1 (.row [U 0])]++(g++(.obj vp (.row [.ptr q 0])::[]))))
 |b1 {z}{i w e:Int}{cl lo L g sv uv}{vx:Nat}{au:Int}(hv:lE sv)(hi:0<=i/\i<x.j.f.size)(he:e≠0)(h:xi x i w vx q cl z lo)(t:bg [dz 3 4 q,yP (x.r.runs+o.c) vx,cd (x.r.flags+o.c) 1] L g):eP x o q b (.b1 i w e z) (.obj q (.row (x.row o.k o.c sv uv i w au false b e))::.sl sv 1 (L++[[.fn (.func 486) [] cl]])::(lo++(g++(.obj vx (.row [.ptr q 0])::[]))))
 |b2 {z}{i w e:Int}{cl lo L g sv uv}{vx:Nat}{au:Int}(hv:lE sv)(he:e≠0)(h:nW x i 3 4 o.c q cl z lo)(t:bg [yP (x.r.runs+o.c) vx,cd (x.r.flags+o.c) 1] L g):eP x o q b (.b2 i w e z) (.obj q (.row (x.row o.k o.c sv uv i w au false b e))::.sl sv 1 (L++[[.fn (.func 490) [] cl]])::(lo++(g++(.obj vx (.row [.ptr q 0])::[]))))
 |b3 {i w e:Int}{p1 a1:Nat}{L g sv uv}{vx:Nat}{au:Int}(hv:lE sv)(he:e≠0)(t:bg [cd (x.r.flags+o.c) 1] L g):eP x o q b (.b3 i w e) (.obj q (.row (x.row o.k o.c sv uv i w au false b e))::.sl sv 1 (L++[[.fn (.func 377) [] [.ptr p1 0]]])::([.obj p1 (.row [.fn (.func 426) [] [.ptr a1 0,.ptr vx 0]])]++(g++(.obj vx (.row [.ptr q 0])::.obj a1 (.row [I (x.r.runs+o.c)])::[]))))
 |b4 {i w e:Int}{p1 a1 b1:Nat}{L g sv uv}{au:Int}(hv:lE sv)(he:e≠0)(t:bg [] L g):eP x o q b (.b4 i w e) (.obj q (.row (x.row o.k o.c sv uv i w au false b e))::.sl sv 1 (L++[[.fn (.func 377) [] [.ptr p1 0]]])::([.obj p1 (.row [.fn (.func 423) [] [.ptr a1 0,.ptr b1 0]]),.obj a1 (.row [I (x.r.flags+o.c)]),.obj b1 (.row [U 1])]++(g++([]))))
 |c1 {p1 a1 b1:Nat}{L g sv uv}{vx:Nat}{i key au:Int}(hv:lE sv)(t:bg [Sz q,dz 4 5 q,cd (x.own+o.c) 0,cd (x.r.runs+o.c) 18446744073709551615,o8 q,iY q] L g):eP x o q b (.c1) (.obj q (.row (x.row o.k o.c sv uv i key au false b 0))::.sl sv 1 (L++[[.fn (.func 377) [] [.ptr p1 0]]])::([.obj p1 (.row [.fn (.func 414) [] [.ptr a1 0,.ptr b1 0]]),.obj a1 (.row [.ptr q 0]),.obj b1 (.row [.fn (.func 303) [] [.ptr vx 0]])]++(g++(.obj vx (.row [.ptr q 0])::[]))))
 |c2 {z}{i:Int}{cl lo L g sv uv}{vx:Nat}{key au:Int}(hv:lE sv)(hi:0<=i/\i<x.j.f.size)(h:Ey x i q cl z lo)(t:bg [dz 4 5 q,cd (x.own+o.c) 0,cd (x.r.runs+o.c) 18446744073709551615,o8 q,iY q] L g):eP x o q b (.c2 i z) (.obj q (.row (x.row o.k o.c sv uv i key au false b 0))::.sl sv 1 (L++[[.fn (.func 496) [] cl]])::(lo++(g++(.obj vx (.row [.ptr q 0])::[]))))
 |c3 {z}{i w:Int}{cl lo L g sv uv}{au:Int}(hv:lE sv)(hi:0<=i/\i<x.j.f.size)(h:nW x i 4 5 o.c q cl z lo)(t:bg [cd (x.own+o.c) 0,cd (x.r.runs+o.c) 18446744073709551615,o8 q,iY q] L g):eP x o q b (.c3 i w z) (.obj q (.row (x.row o.k o.c sv uv i w au false b 0))::.sl sv 1 (L++[[.fn (.func 490) [] cl]])::(lo++(g++([]))))
 |c4 {i w:Int}{p1 a1 b1:Nat}{L g sv uv}{au:Int}(hv:lE sv)(hi:0<=i/\i<x.j.f.size)(t:bg [cd (x.r.runs+o.c) 18446744073709551615,o8 q,iY q] L g):eP x o q b (.c4 i w) (.obj q (.row (x.row o.k o.c sv uv i w au false b 0))::.sl sv 1 (L++[[.fn (.func 377) [] [.ptr p1 0]]])::([.obj p1 (.row [.fn (.func 423) [] [.ptr a1 0,.ptr b1 0]]),.obj a1 (.row [I (x.own+o.c)]),.obj b1 (.row [U 0])]++(g++([]))))
 |c5 {i w:Int}{p1 a1 b1:Nat}{L g sv uv}{au:Int}(hv:lE sv)(hi:0<=i/\i<x.j.f.size)(t:bg [o8 q,iY q] L g):eP x o q b (.c5 i w) (.obj q (.row (x.row o.k o.c sv uv i w au false b 0))::.sl sv 1 (L++[[.fn (.func 377) [] [.ptr p1 0]]])::([.obj p1 (.row [.fn (.func 423) [] [.ptr a1 0,.ptr b1 0]]),.obj a1 (.row [I (x.r.runs+o.c)]),.obj b1 (.row [U 18446744073709551615])]++(g++([]))))
 |c6 {z}{i w:Int}{cl lo L g sv uv}{au:Int}(hv:lE sv)(h:vz x i q cl z lo)(t:bg [iY q] L g):eP x o q b (.c6 i w z) (.obj q (.row (x.row o.k o.c sv uv i w au false b 0))::.sl sv 1 (L++[[.fn (.func 481) [] cl]])::(lo++(g++([]))))
 |d {i w e i' key au:Int}{n:Bool}{sv uv fW}(hs:Ca sv [] fW)(hw:e=0->n=false->i'=i/\key=w):eP x o q b (.d i w e n) (.obj q (.row (x.row o.k o.c sv uv i' key au n b e))::fW)
section
variable{B0 S:AH}{W:List Nat}{R lo G:List Own}{ro:List aB}{m bl q nf:Nat}{y y':Me}{rest cl:List AV}{x:Xc}{o:Od}{k c i key au cE err b bb:Int}{nn:Bool}{sv uv:AV}{L:List (List AV)}{kN:an}{wF:Int->List Own->Prop}{AD:AV->Int->AV->List (List AV)->AV->Int->Int->Int->Bool->Int->List Own->Prop}
theorem fl (hL:L.length<=64)
  (hc:∀aP:AV,odd aP=false->aP.cells=[aP]->AV.beq aP aP=true->∀B W S,Cx B W S (.obj q (.row (x.row k c aP uv i key au nn cE err))::.sl aP 1 L::(lo++(ad m bl y rest++G))) ro->
    aG EM (.fn (.func nf) [] cl) [.ptr m 0] S λu S'=>∃ab,oA x k c q aP uv L i key au nn cE err wF (AD aP) u ab/\Cx B W S' ab ro)
  (hf:∀(b':Int) (aP:AV) (A:List Own),lE aP->wF b' A->b'=bb/\kN.over=false/\∃l',eP x o q bb kN l'/\Hs (.obj q (.row (x.row k c aP uv i key au nn b' err))::.sl aP 1 (L++[[.fn (.func nf) [] cl]])::A) (l'++(ad m bl y' rest++R)))
  (ht:∀(lF:AV) (b':Int) (aP:AV) (L':List (List AV)) (cq:AV) (i' aM aN:Int) (c_:Bool) (aL:Int) (A fW:List Own),lE lF->Ca aP L' fW->AD lF b' aP L' cq i' aM aN c_ aL A->b'=bb/\kN.over=decide (L'.length=0)/\∃l',eP x o q bb kN l'/\Hs (.obj q (.row (x.row k c aP cq i' aM aN c_ b' aL))::(fW++A)) (l'++(ad m bl y' rest++R)))
  (H:Cx B0 W S (.obj q (.row (x.row k c sv uv i key au nn cE err))::.sl sv 1 (L++[[.fn (.func nf) [] cl]])::(lo++(ad m bl y rest++G))) ro):
  aG EM (zF 20) [.ptr q 0,.ptr m 0] S λu S'=>∃ab,eW (eP x o q bb) an.over (kN,y') (ad m bl · rest) R u ab/\Cx B0 W S' ab ro:=by
 refine aw (J1 (wF:=wF) (AD:=λb' aP L' cq i' aM aN c_ aL A=>∃lF,lE lF/\AD lF b' aP L' cq i' aM aN c_ aL A) hL (λaP h1 h2 h3 B W S H=>aw (hc aP h1 h2 h3 B W S H) λu S' ⟨ab,hp,H'⟩=>⟨ab,?_,H'⟩) H) λu S' ⟨ab,ha,H'⟩=>?_
 .cases hp with
  |f h=>exact .f h
  |t hs h=>exact .t hs ⟨aP,⟨h1,h2,h3⟩,h⟩
 .cases ha with
  |f h1 h2 h3 h=>
   obtain⟨rfl,ho,l',hl,hh⟩:=hf _ _ _ ⟨h1,h2,h3⟩ h;exact⟨_,⟨l',⟨hl,by show _=cO.B kN.over;rw[ho]⟩,rfl⟩,hh.cx H'⟩
  |t hs h=>obtain⟨lF,h0,h⟩:=h;obtain⟨rfl,ho,l',hl,hh⟩:=ht _ _ _ _ _ _ _ _ _ _ _ _ h0 hs h;exact⟨_,⟨l',⟨hl,by show _=cO.B kN.over;rw[ho]⟩,rfl⟩,hh.cx H'⟩
end
abbrev PQ (x:Xc)(o:Od)(q:Nat)(b:Int)(m bl:Nat)(rest:List AV)(y:Me)(s:an):Prop:=∀{B0 S:AH}{W:List Nat}{R l:List Own}{ro:List aB},x.ok->o.ok x->y.gd->eP x o q b s l->Cx B0 W S (l++(ad m bl y rest++R)) ro->aG EM (zF 20) [.ptr q 0,.ptr m 0] S λu S'=>∃ab,eW (eP x o q (an.cM x o s)) an.over (an.step x o s y) (ad m bl · rest) R u ab/\Cx B0 W S' ab ro
section
open an
section
variable{B0 S:AH}{W:List Nat}{R l:List Own}{ro:List aB}{m bl q:Nat}{y:Me}{rest:List AV}{x:Xc}{o:Od}{b:Int}
theorem SA {z}:PQ x o q b m bl rest y (.r1 z):=by
 intro B0 S W R l ro hx hk hy h H;obtain⟨dT,cY,eO,fi,ff,fj,bz,dC,fk,fA,eR,fg,-⟩:=aO hx hk;cases h with
 |@r1 z cl lo L g sv uv vx vn vt vw t0 t3 i key au hv p_ h t=>
 simp only[lA,lB,lC] at H;have H:=Hs.cx (tgt:=.obj q _::.sl sv 1 _::(lo++(ad m bl y rest++(.obj vx (.row [.ptr q 0])::.obj vn (.row [I o.tk])::.obj vt (.row [I t0,I o.prio,I o.every,I t3])::.obj vw (.row [I o.now])::(g++(R)))))) HQ H;refine fl (kN:=an.oY x o (z.step (x.cn+o.tk) o.every o.now y).1) (y':=(z.step (x.cn+o.tk) o.every o.now y).2) (by rw[t.len];exact Nat.le_of_ble_eq_true rfl) (λaP h1 h2 h3 B W S H=>HF h1 h2 h3 ⟨am,by have:=bz p_;omega,by have:=bz p_;omega,by have:=bz p_;omega⟩ hy h H) ?_ ?_ H
 .rintro b' aP A hv ⟨rfl,ho,ki,hP,rfl⟩;generalize hw:(z.step (x.cn+o.tk) o.every o.now y).1=w at*
  cases w<;>first|(cases ho;done)|exact⟨rfl,rfl,_,.r1 hv p_ hP t,HQ⟩
 .rintro lF b' aP L' cq i' aM aN c_ aL A fW h0 hs ⟨rfl,ho,hE,rfl⟩;generalize hw:(z.step (x.cn+o.tk) o.every o.now y).1=w at*
  cases w<;>first|(cases ho;done)|skip
  rcases hE with⟨rfl,hE⟩|⟨he,hE⟩
  .obtain⟨rfl,rfl,rfl,rfl,rfl,rfl,rfl,rfl⟩:=hE;cases t with
   |@cons _ _ nX oL g2 L2 h2 t2=>
   obtain⟨eZ,rfl⟩:=hs.inv;exact⟨rfl,by first|rfl|exact nz,_,.r2 eZ p_ (.f h2) t2,by(try simp only[lC,lA,lB,List.append_nil]);generalize ad m bl _ rest=MM;exact HQ⟩
  .obtain⟨rfl,rfl,rfl,rfl,rfl,rfl,rfl,rfl⟩:=hE;have e:oY x o (.d _)=.d 0 0 _ false:=if_neg he;rw[e];exact⟨rfl,rfl,_,.d hs (λh=>absurd h he),by(try simp only[lC,lA,lB,List.append_nil]);generalize ad m bl _ rest=MM;exact HQ⟩
theorem SB {z}:PQ x o q b m bl rest y (.r2 z):=by
 intro B0 S W R l ro hx hk hy h H;obtain⟨dT,cY,eO,fi,ff,fj,bz,dC,fk,fA,eR,fg,-⟩:=aO hx hk;cases h with
 |@r2 z cl lo L g sv uv vx vn vt t0 t3 i key au hv p_ h t=>
 simp only[lA,lB,lC] at H;have H:=Hs.cx (tgt:=.obj q _::.sl sv 1 _::(lo++(ad m bl y rest++(.obj vx (.row [.ptr q 0])::(g++(.obj vn (.row [I o.tk])::.obj vt (.row [I t0,I o.prio,I o.every,I t3])::R)))))) HQ H;refine fl (kN:=an.oZ x o (z.step x.j y).1) (y':=(z.step x.j y).2) (by rw[t.len];exact Nat.le_of_ble_eq_true rfl) (λaP h1 h2 h3 B W S H=>HR h1 h2 h3 cY hy h H) ?_ ?_ H
 .rintro b' aP A hv ⟨rfl,ho,ki,hP,rfl⟩;generalize hw:(z.step x.j y).1=w at*
  cases w<;>first|(cases ho;done)|exact⟨rfl,rfl,_,.r2 hv p_ hP t,HQ⟩
 .rintro lF b' aP L' cq i' aM aN c_ aL A fW h0 hs ⟨rfl,ho,ex,hE,rfl⟩;generalize hw:(z.step x.j y).1=w at*
  cases w<;>first|(cases ho;done)|skip
  obtain⟨hu,⟨Ny,log,hg,rfl⟩,hE⟩:=hE;have tu:=bg.cons (p:=o8 q) hg .nil;have hi:=ra.bd hy h hw;rcases hE with⟨rfl,hE⟩|⟨he,hE⟩
  .obtain⟨rfl,rfl,_,rfl,rfl,rfl,rfl,rfl⟩:=hE;cases t with
   |@cons _ _ nX oL g2 L2 h2 t2=>
   obtain⟨eZ,rfl⟩:=hs.inv;obtain⟨p2,rfl,rfl⟩:=h2;exact⟨rfl,by first|rfl|exact nz,_,.r3 eZ p_ (hi rfl) tu t2,by(try simp only[lC,lA,lB,List.append_nil]);generalize ad m bl _ rest=MM;exact HQ⟩
  .obtain⟨rfl,rfl,_,rfl,rfl,rfl,rfl,rfl⟩:=hE;have e:∀a,oZ x o (.d a aL)=.d 0 0 aL false:=λ_=>if_neg he;rw[e];exact⟨rfl,rfl,_,.d hs (λh=>absurd h he),by(try simp only[lC,lA,lB,List.append_nil]);generalize ad m bl _ rest=MM;exact HQ⟩
theorem SD {i:Int}:PQ x o q b m bl rest y (.r3 i):=by
 intro B0 S W R l ro hx hk hy h H;obtain⟨dT,cY,eO,fi,ff,fj,bz,dC,fk,fA,eR,fg,-⟩:=aO hx hk;cases h with
 |@r3 i p1 L g sv uv UL gu vx vn vt t0 t3 key au hv p_ hi tu t=>
 simp only[lA,lB,lC] at H;have H:=Hs.cx (tgt:=.obj q _::.sl sv 1 _::([.obj p1 (.row [.fn (.func 267) [] [.ptr vx 0,.ptr vt 0]])]++(ad m bl y rest++(.sl uv 1 UL::.obj vx (.row [.ptr q 0])::.obj vt (.row [I t0,I o.prio,I o.every,I t3])::(g++(gu++(.obj vn (.row [I o.tk])::R))))))) HQ H;refine fl (kN:=if(y.add x.seq 1).new<1\/1099511627775<(y.add x.seq 1).new then .r6 i 0 12 (.new x.j i) else .r4 i (kJ o.prio (y.add x.seq 1).new) (.new x.j i)) (y':=y.add x.seq 1) (by rw[t.len];exact Nat.le_of_ble_eq_true rfl) (λaP h1 h2 h3 B W S H=>addPart h1 h2 h3 hy (by rw[tu.len];exact Nat.le_of_ble_eq_true rfl) am (by have:=bz p_;omega) H) ?_ ?_ H;.rintro b' aP A hv ⟨⟩
 .rintro lF b' aP L' cq i' aM aN c_ aL A fW h0 hs ⟨rfl,ho,hE,rfl⟩;generalize(y.add x.seq 1).new=s at*
  rcases hE with⟨hr,hE⟩|⟨hr,hE⟩
  .rw[if_neg am,bF.dy hi];obtain⟨rfl,rfl,rfl,rfl,rfl,rfl,rfl,rfl⟩:=hE;cases t with
   |@cons _ _ nX oL g2 L2 h2 t2=>
   obtain⟨eZ,rfl⟩:=hs.inv;exact⟨rfl,by first|rfl|exact nz,_,.r4 eZ p_ hi (.f hi h2) tu t2,by(try simp only[lC,lA,lB,List.append_nil]);generalize ad m bl _ rest=MM;exact HQ⟩
  .obtain⟨rfl,rfl,rfl,rfl,rfl,rfl,rfl⟩:=hE;rw[if_pos hr];cases tu with
   |@cons _ _ nX oL g2 L2 h2 t2=>
   obtain⟨eZ,rfl⟩:=hs.inv;rw[cX.dy hi];exact⟨rfl,by first|rfl|exact nz,_,.r6 eZ ac (.f hi h2) t2,by(try simp only[lC,lA,lB,List.append_nil]);generalize ad m bl _ rest=MM;exact HQ⟩
theorem SE {z}{i w:Int}:PQ x o q b m bl rest y (.r4 i w z):=by
 intro B0 S W R l ro hx hk hy h H;obtain⟨dT,cY,eO,fi,ff,fj,bz,dC,fk,fA,eR,fg,-⟩:=aO hx hk;cases h with
 |@r4 z i w cl lo L g sv uv UL gu vx vn au hv p_ hi h tu t=>
 simp only[lA,lB,lC] at H;have H:=Hs.cx (tgt:=.obj q _::.sl sv 1 _::(lo++(ad m bl y rest++(.obj vx (.row [.ptr q 0])::(g++(gu++(.sl uv 1 UL::.obj vn (.row [I o.tk])::R))))))) HQ H;refine fl (kN:=if(z.step x.j i w y).1.over then .r5 i w .a else .r4 i w (z.step x.j i w y).1) (y':=(z.step x.j i w y).2) (by rw[t.len];exact Nat.le_of_ble_eq_true rfl) (λaP h1 h2 h3 B W S H=>HB h1 h2 h3 cY hy h H) ?_ ?_ H
 .rintro b' aP A hv ⟨rfl,ho,ki,hP,rfl⟩;generalize hw:(z.step x.j i w y).1=w at*
  rw[if_neg (by rw[ho];simp)];exact⟨rfl,rfl,_,.r4 hv p_ hi hP tu t,HQ⟩
 .rintro lF b' aP L' cq i' aM aN c_ aL A fW h0 hs ⟨rfl,ho,hE,rfl⟩;generalize hw:(z.step x.j i w y).1=w at*
  rw[if_pos ho];obtain⟨rfl,rfl,rfl,rfl,rfl,rfl,rfl,rfl⟩:=hE;cases t with
  |@cons _ _ nX oL g2 L2 h2 t2=>
  obtain⟨eZ,rfl⟩:=hs.inv;exact⟨rfl,by first|rfl|exact nz,_,.r5 eZ p_ hi (.f am h2) tu t2,by(try simp only[lC,lA,lB,List.append_nil]);generalize ad m bl _ rest=MM;exact HQ⟩
theorem SF {z}{i w:Int}:PQ x o q b m bl rest y (.r5 i w z):=by
 intro B0 S W R l ro hx hk hy h H;obtain⟨dT,cY,eO,fi,ff,fj,bz,dC,fk,fA,eR,fg,-⟩:=aO hx hk;cases h with
 |@r5 z i w cl lo L g sv uv UL gu vx vn au hv p_ hi h tu t=>
 simp only[lA,lB,lC] at H;have H:=Hs.cx (tgt:=.obj q _::.sl sv 1 _::(lo++(ad m bl y rest++(.sl uv 1 UL::.obj vx (.row [.ptr q 0])::.obj vn (.row [I o.tk])::(g++(gu++(R))))))) HQ H;refine fl (kN:=an.o0 x o i w (z.step (x.ring (o.tk%x.aJ)) i y).1) (y':=(z.step (x.ring (o.tk%x.aJ)) i y).2) (by rw[t.len];exact Nat.le_of_ble_eq_true rfl) (λaP h1 h2 h3 B W S H=>HG h1 h2 h3 (by rw[tu.len];exact Nat.le_of_ble_eq_true rfl) (by have:=bz p_;omega) am (Cd hx (by have:=bz p_;exact Int.emod_nonneg _ am) (by have:=Int.emod_lt_of_pos o.tk (show 0<x.aJ by omega);omega)) hy h H) ?_ ?_ H
 .rintro b' aP A hv ⟨rfl,ho,ki,hP,rfl⟩;generalize hw:(z.step (x.ring (o.tk%x.aJ)) i y).1=w at*
  cases w<;>first|(cases ho;done)|exact⟨rfl,rfl,_,.r5 hv p_ hi hP tu t,HQ⟩
 .rintro lF b' aP L' cq i' aM aN c_ aL A fW h0 hs ⟨rfl,ho,hE,rfl⟩;generalize hw:(z.step (x.ring (o.tk%x.aJ)) i y).1=w at*
  cases w<;>first|(cases ho;done)|skip
  rcases hE with⟨rfl,hE⟩|⟨he,hE⟩
  .obtain⟨rfl,rfl,rfl,rfl,rfl,rfl,rfl,rfl⟩:=hE;cases t;exact⟨rfl,by first|rfl|exact nz,_,.d hs (λ_ _=>⟨rfl,rfl⟩),by(try simp only[lC,lA,lB,List.append_nil]);generalize ad m bl _ rest=MM;exact HQ⟩
  .obtain⟨rfl,rfl,rfl,rfl,rfl,rfl,rfl⟩:=hE;have e:∀(i w:Int),o0 x o i w (.d _)=.r6 i w _ (.new x.j i):=λ_ _=>if_neg he;rw[e,cX.dy hi];cases tu with
   |@cons _ _ nX oL g2 L2 h2 t2=>
   obtain⟨eZ,rfl⟩:=hs.inv;exact⟨rfl,by first|rfl|exact nz,_,.r6 eZ he (.f hi h2) t2,by(try simp only[lC,lA,lB,List.append_nil]);generalize ad m bl _ rest=MM;exact HQ⟩
theorem SG {z}{i w e:Int}:PQ x o q b m bl rest y (.r6 i w e z):=by
 intro B0 S W R l ro hx hk hy h H;obtain⟨dT,cY,eO,fi,ff,fj,bz,dC,fk,fA,eR,fg,-⟩:=aO hx hk;cases h with
 |@r6 z i w e cl lo L g sv uv key au hv he h t=>
 simp only[lA,lB,lC] at H;have H:=Hs.cx (tgt:=.obj q _::.sl sv 1 _::(lo++(ad m bl y rest++((g++(R)))))) HQ H;refine fl (kN:=if(z.step x.j i y).1.over then .d i w e false else .r6 i w e (z.step x.j i y).1) (y':=(z.step x.j i y).2) (by rw[t.len];exact Nat.le_of_ble_eq_true rfl) (λaP h1 h2 h3 B W S H=>AF h1 h2 h3 cY hy h H) ?_ ?_ H
 .rintro b' aP A hv ⟨rfl,ho,ki,hP,rfl⟩;generalize hw:(z.step x.j i y).1=w at*
  rw[if_neg (by rw[ho];simp)];exact⟨rfl,rfl,_,.r6 hv he hP t,HQ⟩
 .rintro lF b' aP L' cq i' aM aN c_ aL A fW h0 hs ⟨rfl,ho,hE,rfl⟩;generalize hw:(z.step x.j i y).1=w at*
  rw[if_pos ho];obtain⟨rfl,rfl,rfl,rfl,rfl,rfl,rfl,rfl⟩:=hE;cases t;exact⟨rfl,by first|rfl|exact nz,_,.d hs (λe _=>absurd e he),by(try simp only[lC,lA,lB,List.append_nil]);generalize ad m bl _ rest=MM;exact HQ⟩
end
end
end Go.cO
