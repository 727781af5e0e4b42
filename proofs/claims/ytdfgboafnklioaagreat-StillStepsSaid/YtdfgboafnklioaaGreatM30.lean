/- Contracts. Conditions: in each theorem. -/
import Derived.Test.YtdfgboafnklioaaGreatM24
set_option linter.all false
set_option maxRecDepth 100000
set_option maxHeartbeats 4000000
namespace Go.cI
open Go.Proofs
def Xc.ok (x:Xc):Prop:=x.t.ok/\x.j.ok/\x.r.ok/\((0<=x.b5/\x.b5<4096)/\1<=x.many/\x.many<4096)/\((0<=x.fZ/\x.fZ<4096)/\(1<=x.aI/\x.aI<=64)/\1<=x.room/\x.room<=16)/\((0<=x.own/\x.own<4096)/\0<=x.seq/\x.seq<4096)/\x.aI=x.t.l.e.ae/\x.r.ae=x.t.l.e.ae/\x.j.f.size<=64
def Od.ok (o:Od)(x:Xc):Prop:=(0<=o.c/\o.c<x.t.l.e.ae)/\(1<=o.high/\o.high<=x.t.ht)/\(o.k=1->(0<=o.tk/\o.tk<x.many)/\(0<=o.prio/\o.prio<=254)/\(0<=o.every/\o.every<=1099511627776)/\0<=o.now/\o.now<=1099511627776)
def kP (sv:AV):Prop:=odd sv=false/\sv.cells=[sv]/\AV.beq sv sv=true
structure Pk where
 fn:Nat
 F:List AV->List Own->Prop
inductive bm:List Pk->List (List AV)->List Own->Prop
 |nil:bm [] [] []
 |cons {p ps cl lo g L}(h:p.F cl lo)(t:bm ps L g):bm (p::ps) (L++[[.fn (.func p.fn) [] cl]]) (lo++g)
theorem bm.len {ps L g}(h:bm ps L g):L.length=ps.length:=by
 induction h with
 |nil=>rfl
 |cons h t ih=>simp[ih]
theorem Cn.inv {sv v L fz}(h:Cn sv (L++[[v]]) fz):kP sv/\fz=[.sl sv 1 (L++[[v]])]:=by
 generalize e:L++[[v]]=M at h;cases h with
 |n=>simp at e
 |s h1 h2 h3=>exact⟨⟨h1,h2,h3⟩,rfl⟩
theorem Cn.Sm {sv a b c d e L fz}(h:Cn sv (L++[[a],[b],[c],[d],[e]]) fz):kP sv/\fz=[.sl sv 1 (L++[[a],[b],[c],[d],[e]])]:=by
 generalize e:L++[[a],[b],[c],[d],[e]]=M at h;cases h with
 |n=>simp at e
 |s h1 h2 h3=>exact⟨⟨h1,h2,h3⟩,rfl⟩
theorem Cn.Sn {sv a L N fz}(h:Cn sv (L++([a]::N)) fz):kP sv/\fz=[.sl sv 1 (L++([a]::N))]:=by
 generalize e:L++([a]::N)=M at h;cases h with
 |n=>simp at e
 |s h1 h2 h3=>exact⟨⟨h1,h2,h3⟩,rfl⟩
theorem nz {L:List (List AV)}{v:AV}:false=decide ((L++[[v]]).length=0):=ac
theorem Xc.xH (x:Xc){w:Int}(h:0<=x.rd w):0<=x.rd w/\x.rd w<x.j.f.size:=by
 refine⟨h,?_⟩;unfold Xc.rd at*
 split at h;.omega
 .rw[if_neg ci];omega
theorem cQ.df {j}{i:Int}(h:0<=i/\i<j.f.size):cQ.new j i=.l:=if_neg am
theorem bC.df {j}{i:Int}(h:0<=i/\i<j.f.size):bC.new j i=.a:=if_neg am
theorem bh.df {j}{i c:Int}(h:0<=i/\i<j.f.size)(hc:0<=c/\c<64):bh.new j i c=.l:=(if_neg am).trans (if_neg am)
theorem Cq {x:Xc}{c:Int}(h:x.ok)(h0:0<=c)(h1:c<64):(x.ring c).ok:=by
 unfold Xc.ok at h;unfold Rn.ok Xc.ring;have:=h.2.2.2.2.1;have e1:c*(x.room+2)<=63*(x.room+2):=Int.mul_le_mul_of_nonneg_right am am;have e2:0<=c*(x.room+2):=Int.mul_nonneg h0 am;refine⟨?_,?_,?_,?_⟩<;>dsimp only<;>omega
theorem mj.bd {x r}{q:Nat}{cl z lo y}{h v e:Int}(hy:y.gd)(hp:mj x r q cl z lo)(hw:(z.step r y).1=.d h v e)(he:e=0):(0<=v/\v<65536)/\Me.au h:=by
 subst he;cases hp with
 |f h=>cases hw
 |r dH h ho=>
  cases h with
  |a=>cases hw
  |b hh=>
   have hb:=Me.aj hy;unfold Me.au at hb;have e0:∀(p:Prop) [Decidable p] (a b:eA),(if p then a else b)=.d h v 0->(a=.d h v 0->(0<=v/\v<65536)/\Me.au h)->(b≠.d h v 0)->(0<=v/\v<65536)/\Me.au h:=by
    intro p _ a b Rc h1 h2;split at Rc;.exact h1 Rc
    .exact absurd Rc h2
   refine e0 _ _ _ hw (λe=>?_) (λe=>by cases e);injection e with e1 e2;subst e1 e2;exact⟨am,hh⟩
  |_=>cases ho
theorem qR.bd {x}{vx q:Nat}{i:Int}{cl z lo y}{w e:Int}(hy:y.gd)(hp:qR x vx i q cl z lo)(hw:(z.stepOf x.j i y).1=.d w e):Me.au w:=by
 cases hp with
 |f hi h=>cases hw;exact Me.aj hy _
 |r dH h ho=>cases z<;>first|(cases ho;done)|(cases hw;exact Me.aj hy _)
theorem qS.bd {x}{vx q:Nat}{i:Int}{cl z lo y}{w e:Int}(hy:y.gd)(hp:qS x vx i q cl z lo)(hw:(z.stepOf x.j i y).1=.d w e):Me.au w:=by
 cases hp with
 |f hi h=>cases hw;exact Me.aj hy _
 |r dH h ho=>cases z<;>first|(cases ho;done)|(cases hw;exact Me.aj hy _)
theorem qU.bd {x}{vx q:Nat}{cl z lo y}{i e:Int}(hy:y.gd)(hp:qU x vx q cl z lo)(hw:(z.step x.j y).1=.d i e)(he:e=0):0<=i/\i<x.j.f.size:=by
 subst he;have e0:∀w:o_,dz.j_ w=.d i 0->False:=by
  intro w;cases w with
  |d j=>
   intro e;have e:(if j<0 then dz.d 0 7 else .l j)=.d i 0:=e;split at e<;>cases e
  |_=>intro e;cases e
 have key:∀σ:dz,σ.over=false->∀lm qm,kf x.j qm σ lm->(σ.step x.j y).1=.d i 0->0<=i/\i<x.j.f.size:=by
  intro σ ho lm qm h hw;cases h with
  |p h Lq=>exact(e0 _ hw).elim
  |l hi=>cases hw
  |s hi c_=>
   have e0:∀(p:Prop) [Decidable p] (j:Int),(if p then dz.d j 0 else .l j)=.d i 0->j=i:=by
    intro p _ j e;split at e<;>cases e
    rfl
   have:=e0 _ _ hw;subst this;exact hi
  |_=>cases ho
 cases hp with
 |f h=>exact(e0 _ hw).elim
 |r dH h ho=>exact key _ ho _ _ h hw
theorem Pk.ext' {α:Type}{a b:α}(h:a=b):b=a:=h.symm
theorem aS {x:Xc}{o:Od}(hx:x.ok)(hk:o.ok x):x.t.ok/\x.j.ok/\x.r.ok/\(((0<=x.b5/\x.b5<4096)/\1<=x.many/\x.many<4096)/\((0<=x.fZ/\x.fZ<4096)/\(1<=x.aI/\x.aI<=64)/\1<=x.room/\x.room<=16)/\((0<=x.own/\x.own<4096)/\0<=x.seq/\x.seq<4096)/\x.aI=x.t.l.e.ae/\x.r.ae=x.t.l.e.ae/\x.j.f.size<=64)/\
  (0<=o.c/\o.c<x.t.l.e.ae)/\(1<=o.high/\o.high<=x.t.ht)/\(o.k=1->(0<=o.tk/\o.tk<x.many)/\(0<=o.prio/\o.prio<=254)/\(0<=o.every/\o.every<=1099511627776)/\0<=o.now/\o.now<=1099511627776)/\
  (1<=x.j.f.size/\x.j.f.size<=4096)/\x.t.l.e.ae<=64/\(1<=x.t.ht/\x.t.ht<=4)/\(x.ring o.c).ok/\((0<=x.r.runs/\x.r.runs<4096)/\(0<=x.r.flags/\x.r.flags<4096)/\1<=x.r.ae/\x.r.ae<=64)/\
  ((0<=x.t.nd/\x.t.nd<4096)/\(0<=x.t.hd/\x.t.hd<4096)/\(1<=x.t.ht/\x.t.ht<=4)/\1<=x.t.l.a.f.size/\x.t.l.a.f.size<=128)/\(((0<=x.j.f.top/\x.j.f.top<100000)/\(0<=x.j.f.eI/\x.j.f.eI<100000)/\1<=x.j.f.size/\x.j.f.size<=4096)/\(0<=x.j.bs/\x.j.bs<100000)/\0<=x.j.keys/\x.j.keys<100000):=by
 have QN:=hx;unfold Xc.ok at hx;obtain⟨dK,cR,eD,eU⟩:=hx;obtain⟨eQ,eV,bt⟩:=hk;have eR:x.t.l.e.ae<=64:=by have:=dK;unfold Tw.ok Lb.ok Ep.ok at this;omega
 have eS:=eD;unfold Rs.ok at eS;have ml:=cR;unfold Jb.ok Sk.ok at ml;exact⟨dK,cR,eD,eU,eQ,eV,bt,cR.1.2.2,eR,dK.2.2.1,Cq QN am am,eS,⟨dK.1,dK.2.1,dK.2.2.1,dK.2.2.2.2.1.1.2.2.1,dK.2.2.2.1⟩,ml⟩
abbrev LU (vx q:Nat):Pk:=⟨370,DE vx q⟩
abbrev NJ (vx vt:Nat):Pk:=⟨377,λcl lo=>∃p,cl=[.ptr p 0]/\lo=[.obj p (.row [.fn (.func 267) [] [.ptr vx 0,.ptr vt 0]])]⟩
abbrev DG (vx q:Nat):Pk:=⟨486,Dz vx q⟩
abbrev A8 (vx vn q:Nat):Pk:=⟨385,DA vx vn q⟩
abbrev oH (q:Nat):Pk:=⟨481,A0 q⟩
abbrev LV (vx q:Nat):Pk:=⟨496,DB vx q⟩
abbrev dg (fr to:Int)(q:Nat):Pk:=⟨490,lu fr to q⟩
abbrev DH (vx:Nat)(high:Int)(q:Nat):Pk:=⟨499,DC vx high q⟩
abbrev vF (vb vx q:Nat):Pk:=⟨408,yT vb vx q⟩
abbrev iw (q:Nat):Pk:=⟨506,A5 q⟩
abbrev vG (vx:Nat):Pk:=⟨377,λcl lo=>∃p,cl=[.ptr p 0]/\lo=[.obj p (.row [.fn (.func 420) [] [.ptr vx 0]])]⟩
abbrev tr (vx:Nat):Pk:=⟨377,λcl lo=>∃p,cl=[.ptr p 0]/\lo=[.obj p (.row [.fn (.func 421) [] [.ptr vx 0]])]⟩
abbrev sM (vx q:Nat):Pk:=⟨510,A7 vx q⟩
abbrev b6 (cg w:Int):Pk:=⟨377,λcl lo=>∃p a b,cl=[.ptr p 0]/\lo=[.obj p (.row [.fn (.func 423) [] [.ptr a 0,.ptr b 0]]),.obj a (.row [I cg]),.obj b (.row [U w])]⟩
abbrev Cr (vx vh q:Nat):Pk:=⟨377,λcl lo=>∃p a b,cl=[.ptr p 0]/\lo=[.obj p (.row [.fn (.func 414) [] [.ptr a 0,.ptr b 0]]),.obj a (.row [.ptr q 0]),.obj b (.row [.fn (.func 300) [] [.ptr vx 0,.ptr vh 0]])]⟩
abbrev A9 (vx q:Nat):Pk:=⟨486,A4 vx q⟩
abbrev xI (vx:Nat)(high:Int)(q:Nat):Pk:=⟨499,A6 vx high q⟩
abbrev vH (vx q:Nat):Pk:=⟨486,A3 vx q⟩
abbrev yU (cg:Int)(vx:Nat):Pk:=⟨377,λcl lo=>∃p a,cl=[.ptr p 0]/\lo=[.obj p (.row [.fn (.func 426) [] [.ptr a 0,.ptr vx 0]]),.obj a (.row [I cg])]⟩
abbrev So (q:Nat):Pk:=⟨496,Ka q⟩
theorem Cs {q vp pr po:Nat}{yO sK yQ sL}(hb:A5 q yO yQ)(ht:lu 3 4 q sK sL):bm [dg 3 4 q,vG vp,tr vp,iw q] [[.fn (.func 506) [] yO],[.fn (.func 377) [] [.ptr pr 0]],[.fn (.func 377) [] [.ptr po 0]],[.fn (.func 490) [] sK]]
  (sL++([.obj po (.row [.fn (.func 420) [] [.ptr vp 0]])]++([.obj pr (.row [.fn (.func 421) [] [.ptr vp 0]])]++(yQ++[])))):=
 bm.cons (p:=dg 3 4 q) ht (bm.cons (p:=vG vp) ⟨po,rfl,rfl⟩ (bm.cons (p:=tr vp) ⟨pr,rfl,rfl⟩ (bm.cons (p:=iw q) hb .nil)))
theorem NK {x:Xc}{c high:Int}{q vx vp pr po s1 a1 w1 s2 a2 w2:Nat}{yO sK yP NL Kg NM:List AV}{yQ sL yR NO Ki NP:List Own}(Lp:lu 4 3 q NL NO)(hl:A4 vx q Kg Ki)(RM:A6 vx high q NM NP)(hp:A7 vp q yP yR)(hb:A5 q yO yQ)(ht:lu 3 4 q sK sL):
  bm [dg 4 3 q,b6 (x.r.runs+c) 18446744073709551615,A9 vx q,xI vx high q,b6 (x.own+c) 0,sM vp q,dg 3 4 q,vG vp,tr vp,iw q]
  [[.fn (.func 506) [] yO],[.fn (.func 377) [] [.ptr pr 0]],[.fn (.func 377) [] [.ptr po 0]],[.fn (.func 490) [] sK],[.fn (.func 510) [] yP],
   [.fn (.func 377) [] [.ptr s1 0]],[.fn (.func 499) [] NM],[.fn (.func 486) [] Kg],[.fn (.func 377) [] [.ptr s2 0]],[.fn (.func 490) [] NL]]
  (NO++([.obj s2 (.row [.fn (.func 423) [] [.ptr a2 0,.ptr w2 0]]),.obj a2 (.row [I (x.r.runs+c)]),.obj w2 (.row [U 18446744073709551615])]++(Ki++(NP++([.obj s1 (.row [.fn (.func 423) [] [.ptr a1 0,.ptr w1 0]]),.obj a1 (.row [I (x.own+c)]),.obj w1 (.row [U 0])]++(yR++
    (sL++([.obj po (.row [.fn (.func 420) [] [.ptr vp 0]])]++([.obj pr (.row [.fn (.func 421) [] [.ptr vp 0]])]++(yQ++[])))))))))):=
 bm.cons (p:=dg 4 3 q) Lp (bm.cons (p:=b6 (x.r.runs+c) 18446744073709551615) ⟨s2,a2,w2,rfl,rfl⟩ (bm.cons (p:=A9 vx q) hl (bm.cons (p:=xI vx high q) RM (bm.cons (p:=b6 (x.own+c) 0) ⟨s1,a1,w1,rfl,rfl⟩ (bm.cons (p:=sM vp q) hp (Cs hb ht))))))
theorem NQ {x:Xc}{c:Int}{q vx u1 ua uw u2 vr:Nat}{Kh J8:List AV}{Kj Sc:List Own}(hu:lu 3 4 q Kh Kj)(ho:A3 vx q J8 Sc):
  bm [vH vx q,dg 3 4 q,yU (x.r.runs+c) vx,b6 (x.r.flags+c) 1] [[.fn (.func 377) [] [.ptr u1 0]],[.fn (.func 377) [] [.ptr u2 0]],[.fn (.func 490) [] Kh],[.fn (.func 486) [] J8]]
  (Sc++(Kj++([.obj u2 (.row [.fn (.func 426) [] [.ptr vr 0,.ptr vx 0]]),.obj vr (.row [I (x.r.runs+c)])]++([.obj u1 (.row [.fn (.func 423) [] [.ptr ua 0,.ptr uw 0]]),.obj ua (.row [I (x.r.flags+c)]),.obj uw (.row [U 1])]++[])))):=
 bm.cons (p:=vH vx q) ho (bm.cons (p:=dg 3 4 q) hu (bm.cons (p:=yU (x.r.runs+c) vx) ⟨u2,vr,rfl,rfl⟩ (bm.cons (p:=b6 (x.r.flags+c) 1) ⟨u1,ua,uw,rfl,rfl⟩ .nil)))
inductive dR (x:Xc)(o:Od)(q:Nat)(b:Int):az->List Own->Prop
 |r1 {z cl lo L g sv uv}{vx vn vt vw:Nat}{t0 t3 i key aw:Int}(hv:kP sv)(jI:o.k=1)(h:xC x vx vn vt vw o.tk o.every o.now q cl z lo)(t:bm [LU vx q,NJ vx vt,DG vx q,A8 vx vn q] L g):dR x o q b (.r1 z) (.obj q (.row (x.row o.k o.c sv uv i key aw false b 0))::.sl sv 1 (L++[[.fn (.func 368) [] cl]])::(lo++(g++(.obj vx (.row [.ptr q 0])::.obj vn (.row [I o.tk])::.obj vt (.row [I t0,I o.prio,I o.every,I t3])::.obj vw (.row [I o.now])::[]))))
 |r2 {z cl lo L g sv uv}{vx vn vt:Nat}{t0 t3 i key aw:Int}(hv:kP sv)(jI:o.k=1)(h:qU x vx q cl z lo)(t:bm [NJ vx vt,DG vx q,A8 vx vn q] L g):dR x o q b (.r2 z) (.obj q (.row (x.row o.k o.c sv uv i key aw false b 0))::.sl sv 1 (L++[[.fn (.func 370) [] cl]])::(lo++(g++(.obj vx (.row [.ptr q 0])::.obj vn (.row [I o.tk])::.obj vt (.row [I t0,I o.prio,I o.every,I t3])::[]))))
 |r3 {i:Int}{p1:Nat}{L g sv uv UL gu}{vx vn vt:Nat}{t0 t3 key aw:Int}(hv:kP sv)(jI:o.k=1)(hi:0<=i/\i<x.j.f.size)(tu:bm [oH q] UL gu)(t:bm [DG vx q,A8 vx vn q] L g):dR x o q b (.r3 i) (.obj q (.row (x.row o.k o.c sv uv i key aw false b 0))::.sl sv 1 (L++[[.fn (.func 377) [] [.ptr p1 0]]])::([.obj p1 (.row [.fn (.func 267) [] [.ptr vx 0,.ptr vt 0]])]++(g++(gu++(.sl uv 1 UL::.obj vx (.row [.ptr q 0])::.obj vt (.row [I t0,I o.prio,I o.every,I t3])::.obj vn (.row [I o.tk])::[])))))
 |r4 {z}{i w:Int}{cl lo L g sv uv UL gu}{vx vn:Nat}{aw:Int}(hv:kP sv)(jI:o.k=1)(hi:0<=i/\i<x.j.f.size)(h:xz x i w vx q cl z lo)(tu:bm [oH q] UL gu)(t:bm [A8 vx vn q] L g):dR x o q b (.r4 i w z) (.obj q (.row (x.row o.k o.c sv uv i w aw false b 0))::.sl sv 1 (L++[[.fn (.func 486) [] cl]])::(lo++(g++(gu++(.obj vx (.row [.ptr q 0])::.sl uv 1 UL::.obj vn (.row [I o.tk])::[])))))
 |r5 {z}{i w:Int}{cl lo L g sv uv UL gu}{vx vn:Nat}{aw:Int}(hv:kP sv)(jI:o.k=1)(hi:0<=i/\i<x.j.f.size)(h:xD x vx vn o.tk i q cl z lo)(tu:bm [oH q] UL gu)(t:bm [] L g):dR x o q b (.r5 i w z) (.obj q (.row (x.row o.k o.c sv uv i w aw false b 0))::.sl sv 1 (L++[[.fn (.func 385) [] cl]])::(lo++(g++(gu++(.sl uv 1 UL::.obj vx (.row [.ptr q 0])::.obj vn (.row [I o.tk])::[])))))
 |r6 {z}{i w e:Int}{cl lo L g sv uv}{key aw:Int}(hv:kP sv)(he:e≠0)(h:vE x i q cl z lo)(t:bm [] L g):dR x o q b (.r6 i w e z) (.obj q (.row (x.row o.k o.c sv uv i key aw false b e))::.sl sv 1 (L++[[.fn (.func 481) [] cl]])::(lo++(g++([]))))
 |t1 {z cl lo L g sv uv UL gu}{vx vb:Nat}{i key aw:Int}(hv:kP sv)(h:mj x (x.ring o.c) q cl z lo)(tu:bm [dg 3 2 q] UL gu)(t:bm [LV vx q,dg 2 3 q,DH vx o.high q,vF vb vx q,iw q] L g):dR x o q b (.t1 z) (.obj q (.row (x.row o.k o.c sv uv i key aw false b 0))::.sl sv 1 (L++[[.fn (.func 493) [] cl]])::(lo++(g++(gu++(.sl uv 1 UL::.obj vx (.row [.ptr q 0])::.obj vb (.row [I (x.ring o.c).head,I (x.ring o.c).tail,I (x.ring o.c).eK,I (x.ring o.c).size])::[])))))
 |t2 {z}{i hd:Int}{cl lo L g sv uv UL gu}{vx vb:Nat}{key:Int}(hv:kP sv)(hh:Me.au hd)(hi:0<=i/\i<x.j.f.size)(h:qR x vx i q cl z lo)(tu:bm [dg 3 2 q] UL gu)(t:bm [dg 2 3 q,DH vx o.high q,vF vb vx q,iw q] L g):dR x o q b (.t2 i hd z) (.obj q (.row (x.row o.k o.c sv uv i key hd false b 0))::.sl sv 1 (L++[[.fn (.func 496) [] cl]])::(lo++(g++(gu++(.obj vx (.row [.ptr q 0])::.sl uv 1 UL::.obj vb (.row [I (x.ring o.c).head,I (x.ring o.c).tail,I (x.ring o.c).eK,I (x.ring o.c).size])::[])))))
 |t3 {z}{i hd w:Int}{cl lo L g sv uv UL gu}{vx vb:Nat}(hv:kP sv)(hh:Me.au hd)(hi:0<=i/\i<x.j.f.size)(c_:Me.au w/\¬bY w)(h:nG x i 2 3 o.c q cl z lo)(tu:bm [dg 3 2 q] UL gu)(t:bm [DH vx o.high q,vF vb vx q,iw q] L g):dR x o q b (.t3 i hd w z) (.obj q (.row (x.row o.k o.c sv uv i w hd false b 0))::.sl sv 1 (L++[[.fn (.func 490) [] cl]])::(lo++(g++(gu++(.sl uv 1 UL::.obj vx (.row [.ptr q 0])::.obj vb (.row [I (x.ring o.c).head,I (x.ring o.c).tail,I (x.ring o.c).eK,I (x.ring o.c).size])::[])))))
 |t4 {z}{i hd w:Int}{cl lo L g sv uv UL gu}{vx vb:Nat}(hv:kP sv)(hh:Me.au hd)(hi:0<=i/\i<x.j.f.size)(c_:Me.au w/\¬bY w)(h:xE x o.c i w o.high vx q cl z lo)(tu:bm [dg 3 2 q] UL gu)(t:bm [vF vb vx q,iw q] L g):dR x o q b (.t4 i hd w z) (.obj q (.row (x.row o.k o.c sv uv i w hd false b 0))::.sl sv 1 (L++[[.fn (.func 499) [] cl]])::(lo++(g++(gu++(.sl uv 1 UL::.obj vx (.row [.ptr q 0])::.obj vb (.row [I (x.ring o.c).head,I (x.ring o.c).tail,I (x.ring o.c).eK,I (x.ring o.c).size])::[])))))
 |t5 {z}{i w e:Int}{cl lo L g sv uv}{key aw:Int}(hv:kP sv)(he:e≠0)(h:nG x i 3 2 o.c q cl z lo)(t:bm [] L g):dR x o q b (.t5 i w e z) (.obj q (.row (x.row o.k o.c sv uv i key aw false b e))::.sl sv 1 (L++[[.fn (.func 490) [] cl]])::(lo++(g++([]))))
 |t6 {z}{i hd w:Int}{cl lo L g sv uv}{vx vb:Nat}(hv:kP sv)(h:rT x (x.ring o.c) hd vb vx q cl z lo)(t:bm [iw q] L g):dR x o q b (.t6 i hd w z) (.obj q (.row (x.row o.k o.c sv uv i w hd false b 0))::.sl sv 1 (L++[[.fn (.func 408) [] cl]])::(lo++(g++(.obj vx (.row [.ptr q 0])::.obj vb (.row [I (x.ring o.c).head,I (x.ring o.c).tail,I (x.ring o.c).eK,I (x.ring o.c).size])::[]))))
 |pg {z}{i w:Int}{cl lo L g sv uv}{aw:Int}(hv:kP sv)(h:EH x o.c q cl z lo)(t:bm [] L g):dR x o q b (.pg i w z) (.obj q (.row (x.row o.k o.c sv uv i w aw false b 0))::.sl sv 1 (L++[[.fn (.func 506) [] cl]])::(lo++(g++([]))))
 |p1 {p1 a1 b1:Nat}{L g sv uv}{vx:Nat}{i key aw:Int}(hv:kP sv)(t:bm [] L g):dR x o q b (.p1) (.obj q (.row (x.row o.k o.c sv uv i key aw false b 0))::.sl sv 1 (L++[[.fn (.func 377) [] [.ptr p1 0]]])::([.obj p1 (.row [.fn (.func 414) [] [.ptr a1 0,.ptr b1 0]]),.obj a1 (.row [.ptr q 0]),.obj b1 (.row [.fn (.func 294) [] [.ptr vx 0]])]++(g++(.obj vx (.row [.ptr q 0])::[]))))
 |p2 {z cl lo L g sv uv}{vp:Nat}{i key aw:Int}(hv:kP sv)(h:xG x o.c vp q cl z lo)(t:bm [dg 3 4 q,vG vp,tr vp,iw q] L g):dR x o q b (.p2 z) (.obj q (.row (x.row o.k o.c sv uv i key aw false b 0))::.sl sv 1 (L++[[.fn (.func 510) [] cl]])::(lo++(g++(.obj vp (.row [.ptr q 0])::[]))))
 |p3 {z}{i w:Int}{cl lo L g sv uv}{vp:Nat}{aw:Int}(hv:kP sv)(hi:0<=i/\i<x.j.f.size)(h:nG x i 3 4 o.c q cl z lo)(t:bm [vG vp,tr vp,iw q] L g):dR x o q b (.p3 i w z) (.obj q (.row (x.row o.k o.c sv uv i w aw false b 0))::.sl sv 1 (L++[[.fn (.func 490) [] cl]])::(lo++(g++(.obj vp (.row [.ptr q 0])::[]))))
 |p4 {i w:Int}{p1:Nat}{L g sv uv}{vp:Nat}{aw:Int}(hv:kP sv)(hi:0<=i/\i<x.j.f.size)(t:bm [tr vp,iw q] L g):dR x o q b (.p4 i w) (.obj q (.row (x.row o.k o.c sv uv i w aw false b 0))::.sl sv 1 (L++[[.fn (.func 377) [] [.ptr p1 0]]])::([.obj p1 (.row [.fn (.func 420) [] [.ptr vp 0]])]++(g++(.obj vp (.row [.ptr q 0])::[]))))
 |p5 {i w:Int}{p1:Nat}{L g sv uv}{vp:Nat}{aw:Int}(hv:kP sv)(t:bm [iw q] L g):dR x o q b (.p5 i w) (.obj q (.row (x.row o.k o.c sv uv i w aw false b 0))::.sl sv 1 (L++[[.fn (.func 377) [] [.ptr p1 0]]])::([.obj p1 (.row [.fn (.func 421) [] [.ptr vp 0]])]++(g++(.obj vp (.row [.ptr q 0])::[]))))
 |s1 {p1:Nat}{L g sv uv}{vx vh vf:Nat}{i key aw:Int}(hv:kP sv)(t:bm [b6 (x.r.flags+o.c) 0,Cr vx vh q] L g):dR x o q b (.s1) (.obj q (.row (x.row o.k o.c sv uv i key aw false b 0))::.sl sv 1 (L++[[.fn (.func 377) [] [.ptr p1 0]]])::([.obj p1 (.row [.fn (.func 297) [] [.ptr vf 0,.ptr vx 0]])]++(g++(.obj vx (.row [.ptr q 0])::.obj vf (.row [I (x.r.flags+o.c)])::.obj vh (.row [I o.high])::[]))))
 |s2 {p1 a1 b1:Nat}{L g sv uv}{vx vh:Nat}{i key aw:Int}(hv:kP sv)(t:bm [Cr vx vh q] L g):dR x o q b (.s2) (.obj q (.row (x.row o.k o.c sv uv i key aw false b 0))::.sl sv 1 (L++[[.fn (.func 377) [] [.ptr p1 0]]])::([.obj p1 (.row [.fn (.func 423) [] [.ptr a1 0,.ptr b1 0]]),.obj a1 (.row [I (x.r.flags+o.c)]),.obj b1 (.row [U 0])]++(g++(.obj vx (.row [.ptr q 0])::.obj vh (.row [I o.high])::[]))))
 |s3 {p1 a1 b1:Nat}{L g sv uv}{vx vh:Nat}{i key aw:Int}(hv:kP sv)(t:bm [] L g):dR x o q b (.s3) (.obj q (.row (x.row o.k o.c sv uv i key aw false b 0))::.sl sv 1 (L++[[.fn (.func 377) [] [.ptr p1 0]]])::([.obj p1 (.row [.fn (.func 414) [] [.ptr a1 0,.ptr b1 0]]),.obj a1 (.row [.ptr q 0]),.obj b1 (.row [.fn (.func 300) [] [.ptr vx 0,.ptr vh 0]])]++(g++(.obj vx (.row [.ptr q 0])::.obj vh (.row [I o.high])::[]))))
 |s4 {z}{i:Int}{cl lo L g sv uv UL gu}{vx vp:Nat}{key aw:Int}(hv:kP sv)(hi:0<=i/\i<x.j.f.size)(h:qS x vx i q cl z lo)(tu:bm [vH vx q,dg 3 4 q,yU (x.r.runs+o.c) vx,b6 (x.r.flags+o.c) 1] UL gu)(t:bm [dg 4 3 q,b6 (x.r.runs+o.c) 18446744073709551615,A9 vx q,xI vx o.high q,b6 (x.own+o.c) 0,sM vp q,dg 3 4 q,vG vp,tr vp,iw q] L g):dR x o q b (.s4 i z) (.obj q (.row (x.row o.k o.c sv uv i key aw false b 0))::.sl sv 1 (L++[[.fn (.func 496) [] cl]])::(lo++(g++(gu++(.obj vx (.row [.ptr q 0])::.sl uv 1 UL::.obj vp (.row [.ptr q 0])::[])))))
 |s5 {z}{i w:Int}{cl lo L g sv uv UL gu}{vx vp:Nat}{aw:Int}(hv:kP sv)(hi:0<=i/\i<x.j.f.size)(c_:Me.au w/\¬bY w)(h:nG x i 4 3 o.c q cl z lo)(tu:bm [vH vx q,dg 3 4 q,yU (x.r.runs+o.c) vx,b6 (x.r.flags+o.c) 1] UL gu)(t:bm [b6 (x.r.runs+o.c) 18446744073709551615,A9 vx q,xI vx o.high q,b6 (x.own+o.c) 0,sM vp q,dg 3 4 q,vG vp,tr vp,iw q] L g):dR x o q b (.s5 i w z) (.obj q (.row (x.row o.k o.c sv uv i w aw false b 0))::.sl sv 1 (L++[[.fn (.func 490) [] cl]])::(lo++(g++(gu++(.sl uv 1 UL::.obj vx (.row [.ptr q 0])::.obj vp (.row [.ptr q 0])::[])))))
 |s6 {i w:Int}{p1 a1 b1:Nat}{L g sv uv UL gu}{vx vp:Nat}{aw:Int}(hv:kP sv)(hi:0<=i/\i<x.j.f.size)(c_:Me.au w/\¬bY w)(tu:bm [vH vx q,dg 3 4 q,yU (x.r.runs+o.c) vx,b6 (x.r.flags+o.c) 1] UL gu)(t:bm [A9 vx q,xI vx o.high q,b6 (x.own+o.c) 0,sM vp q,dg 3 4 q,vG vp,tr vp,iw q] L g):dR x o q b (.s6 i w) (.obj q (.row (x.row o.k o.c sv uv i w aw false b 0))::.sl sv 1 (L++[[.fn (.func 377) [] [.ptr p1 0]]])::([.obj p1 (.row [.fn (.func 423) [] [.ptr a1 0,.ptr b1 0]]),.obj a1 (.row [I (x.r.runs+o.c)]),.obj b1 (.row [U 18446744073709551615])]++(g++(gu++(.sl uv 1 UL::.obj vx (.row [.ptr q 0])::.obj vp (.row [.ptr q 0])::[])))))
 |s7 {z}{i w:Int}{cl lo L g sv uv UL gu}{vx vp:Nat}{aw:Int}(hv:kP sv)(hi:0<=i/\i<x.j.f.size)(c_:Me.au w/\¬bY w)(h:xB x i w vx q cl z lo)(tu:bm [vH vx q,dg 3 4 q,yU (x.r.runs+o.c) vx,b6 (x.r.flags+o.c) 1] UL gu)(t:bm [xI vx o.high q,b6 (x.own+o.c) 0,sM vp q,dg 3 4 q,vG vp,tr vp,iw q] L g):dR x o q b (.s7 i w z) (.obj q (.row (x.row o.k o.c sv uv i w aw false b 0))::.sl sv 1 (L++[[.fn (.func 486) [] cl]])::(lo++(g++(gu++(.obj vx (.row [.ptr q 0])::.sl uv 1 UL::.obj vp (.row [.ptr q 0])::[])))))
 |s8 {z}{i w:Int}{cl lo L g sv uv UL gu}{vx vp:Nat}{aw:Int}(hv:kP sv)(hi:0<=i/\i<x.j.f.size)(c_:Me.au w/\¬bY w)(h:xF x o.c i w o.high vx q cl z lo)(tu:bm [vH vx q,dg 3 4 q,yU (x.r.runs+o.c) vx,b6 (x.r.flags+o.c) 1] UL gu)(t:bm [b6 (x.own+o.c) 0,sM vp q,dg 3 4 q,vG vp,tr vp,iw q] L g):dR x o q b (.s8 i w z) (.obj q (.row (x.row o.k o.c sv uv i w aw false b 0))::.sl sv 1 (L++[[.fn (.func 499) [] cl]])::(lo++(g++(gu++(.sl uv 1 UL::.obj vx (.row [.ptr q 0])::.obj vp (.row [.ptr q 0])::[])))))
 |s9 {i w:Int}{p1 a1 b1:Nat}{L g sv uv}{vp:Nat}{aw:Int}(hv:kP sv)(t:bm [sM vp q,dg 3 4 q,vG vp,tr vp,iw q] L g):dR x o q b (.s9 i w) (.obj q (.row (x.row o.k o.c sv uv i w aw false b 0))::.sl sv 1 (L++[[.fn (.func 377) [] [.ptr p1 0]]])::([.obj p1 (.row [.fn (.func 423) [] [.ptr a1 0,.ptr b1 0]]),.obj a1 (.row [I (x.own+o.c)]),.obj b1 (.row [U 0])]++(g++(.obj vp (.row [.ptr q 0])::[]))))
 |b1 {z}{i w e:Int}{cl lo L g sv uv}{vx:Nat}{aw:Int}(hv:kP sv)(hi:0<=i/\i<x.j.f.size)(he:e≠0)(h:xA x i w vx q cl z lo)(t:bm [dg 3 4 q,yU (x.r.runs+o.c) vx,b6 (x.r.flags+o.c) 1] L g):dR x o q b (.b1 i w e z) (.obj q (.row (x.row o.k o.c sv uv i w aw false b e))::.sl sv 1 (L++[[.fn (.func 486) [] cl]])::(lo++(g++(.obj vx (.row [.ptr q 0])::[]))))
 |b2 {z}{i w e:Int}{cl lo L g sv uv}{vx:Nat}{aw:Int}(hv:kP sv)(he:e≠0)(h:nG x i 3 4 o.c q cl z lo)(t:bm [yU (x.r.runs+o.c) vx,b6 (x.r.flags+o.c) 1] L g):dR x o q b (.b2 i w e z) (.obj q (.row (x.row o.k o.c sv uv i w aw false b e))::.sl sv 1 (L++[[.fn (.func 490) [] cl]])::(lo++(g++(.obj vx (.row [.ptr q 0])::[]))))
 |b3 {i w e:Int}{p1 a1:Nat}{L g sv uv}{vx:Nat}{aw:Int}(hv:kP sv)(he:e≠0)(t:bm [b6 (x.r.flags+o.c) 1] L g):dR x o q b (.b3 i w e) (.obj q (.row (x.row o.k o.c sv uv i w aw false b e))::.sl sv 1 (L++[[.fn (.func 377) [] [.ptr p1 0]]])::([.obj p1 (.row [.fn (.func 426) [] [.ptr a1 0,.ptr vx 0]])]++(g++(.obj vx (.row [.ptr q 0])::.obj a1 (.row [I (x.r.runs+o.c)])::[]))))
 |b4 {i w e:Int}{p1 a1 b1:Nat}{L g sv uv}{aw:Int}(hv:kP sv)(he:e≠0)(t:bm [] L g):dR x o q b (.b4 i w e) (.obj q (.row (x.row o.k o.c sv uv i w aw false b e))::.sl sv 1 (L++[[.fn (.func 377) [] [.ptr p1 0]]])::([.obj p1 (.row [.fn (.func 423) [] [.ptr a1 0,.ptr b1 0]]),.obj a1 (.row [I (x.r.flags+o.c)]),.obj b1 (.row [U 1])]++(g++([]))))
 |c1 {p1 a1 b1:Nat}{L g sv uv}{vx:Nat}{i key aw:Int}(hv:kP sv)(t:bm [So q,dg 4 5 q,b6 (x.own+o.c) 0,b6 (x.r.runs+o.c) 18446744073709551615,oH q,iw q] L g):dR x o q b (.c1) (.obj q (.row (x.row o.k o.c sv uv i key aw false b 0))::.sl sv 1 (L++[[.fn (.func 377) [] [.ptr p1 0]]])::([.obj p1 (.row [.fn (.func 414) [] [.ptr a1 0,.ptr b1 0]]),.obj a1 (.row [.ptr q 0]),.obj b1 (.row [.fn (.func 303) [] [.ptr vx 0]])]++(g++(.obj vx (.row [.ptr q 0])::[]))))
 |c2 {z}{i:Int}{cl lo L g sv uv}{vx:Nat}{key aw:Int}(hv:kP sv)(hi:0<=i/\i<x.j.f.size)(h:EJ x i q cl z lo)(t:bm [dg 4 5 q,b6 (x.own+o.c) 0,b6 (x.r.runs+o.c) 18446744073709551615,oH q,iw q] L g):dR x o q b (.c2 i z) (.obj q (.row (x.row o.k o.c sv uv i key aw false b 0))::.sl sv 1 (L++[[.fn (.func 496) [] cl]])::(lo++(g++(.obj vx (.row [.ptr q 0])::[]))))
 |c3 {z}{i w:Int}{cl lo L g sv uv}{aw:Int}(hv:kP sv)(hi:0<=i/\i<x.j.f.size)(h:nG x i 4 5 o.c q cl z lo)(t:bm [b6 (x.own+o.c) 0,b6 (x.r.runs+o.c) 18446744073709551615,oH q,iw q] L g):dR x o q b (.c3 i w z) (.obj q (.row (x.row o.k o.c sv uv i w aw false b 0))::.sl sv 1 (L++[[.fn (.func 490) [] cl]])::(lo++(g++([]))))
 |c4 {i w:Int}{p1 a1 b1:Nat}{L g sv uv}{aw:Int}(hv:kP sv)(hi:0<=i/\i<x.j.f.size)(t:bm [b6 (x.r.runs+o.c) 18446744073709551615,oH q,iw q] L g):dR x o q b (.c4 i w) (.obj q (.row (x.row o.k o.c sv uv i w aw false b 0))::.sl sv 1 (L++[[.fn (.func 377) [] [.ptr p1 0]]])::([.obj p1 (.row [.fn (.func 423) [] [.ptr a1 0,.ptr b1 0]]),.obj a1 (.row [I (x.own+o.c)]),.obj b1 (.row [U 0])]++(g++([]))))
 |c5 {i w:Int}{p1 a1 b1:Nat}{L g sv uv}{aw:Int}(hv:kP sv)(hi:0<=i/\i<x.j.f.size)(t:bm [oH q,iw q] L g):dR x o q b (.c5 i w) (.obj q (.row (x.row o.k o.c sv uv i w aw false b 0))::.sl sv 1 (L++[[.fn (.func 377) [] [.ptr p1 0]]])::([.obj p1 (.row [.fn (.func 423) [] [.ptr a1 0,.ptr b1 0]]),.obj a1 (.row [I (x.r.runs+o.c)]),.obj b1 (.row [U 18446744073709551615])]++(g++([]))))
 |c6 {z}{i w:Int}{cl lo L g sv uv}{aw:Int}(hv:kP sv)(h:vE x i q cl z lo)(t:bm [iw q] L g):dR x o q b (.c6 i w z) (.obj q (.row (x.row o.k o.c sv uv i w aw false b 0))::.sl sv 1 (L++[[.fn (.func 481) [] cl]])::(lo++(g++([]))))
 |d {i w e i' key aw:Int}{n:Bool}{sv uv fz}(hs:Cn sv [] fz)(hw:e=0->n=false->i'=i/\key=w):dR x o q b (.d i w e n) (.obj q (.row (x.row o.k o.c sv uv i' key aw n b e))::fz)
section
variable{B0 S:AH}{W:List Nat}{R lo G:List Own}{ro:List aF}{m bl q nf:Nat}{y y':Me}{rest cl:List AV}{x:Xc}{o:Od}{k c i key aw cu err b bb:Int}{nn:Bool}{sv uv:AV}{L:List (List AV)}{kg:az}{wU:Int->List Own->Prop}{AZ:AV->Int->AV->List (List AV)->AV->Int->Int->Int->Bool->Int->List Own->Prop}
theorem eW (hL:L.length<=64)
  (hc:∀aT:AV,odd aT=false->aT.cells=[aT]->AV.beq aT aT=true->∀B W S,Cx B W S (.obj q (.row (x.row k c aT uv i key aw nn cu err))::.sl aT 1 L::(lo++(ad m bl y rest++G))) ro->
    aG EM (.fn (.func nf) [] cl) [.ptr m 0] S λu S'=>∃ab,nX x k c q aT uv L i key aw nn cu err wU (AZ aT) u ab/\Cx B W S' ab ro)
  (hf:∀(b':Int) (aT:AV) (A:List Own),kP aT->wU b' A->b'=bb/\kg.over=false/\∃l',dR x o q bb kg l'/\Hs (.obj q (.row (x.row k c aT uv i key aw nn b' err))::.sl aT 1 (L++[[.fn (.func nf) [] cl]])::A) (l'++(ad m bl y' rest++R)))
  (ht:∀(kQ:AV) (b':Int) (aT:AV) (L':List (List AV)) (ca:AV) (i' aQ aR:Int) (cT:Bool) (aP:Int) (A fz:List Own),kP kQ->Cn aT L' fz->AZ kQ b' aT L' ca i' aQ aR cT aP A->b'=bb/\kg.over=decide (L'.length=0)/\∃l',dR x o q bb kg l'/\Hs (.obj q (.row (x.row k c aT ca i' aQ aR cT b' aP))::(fz++A)) (l'++(ad m bl y' rest++R)))
  (H:Cx B0 W S (.obj q (.row (x.row k c sv uv i key aw nn cu err))::.sl sv 1 (L++[[.fn (.func nf) [] cl]])::(lo++(ad m bl y rest++G))) ro):
  aG EM (zF 20) [.ptr q 0,.ptr m 0] S λu S'=>∃ab,eH (dR x o q bb) az.over (kg,y') (ad m bl · rest) R u ab/\Cx B0 W S' ab ro:=by
 refine ar (J9 (wU:=wU) (AZ:=λb' aT L' ca i' aQ aR cT aP A=>∃kQ,kP kQ/\AZ kQ b' aT L' ca i' aQ aR cT aP A) hL (λaT h1 h2 h3 B W S H=>ar (hc aT h1 h2 h3 B W S H) λu S' ⟨ab,hp,H'⟩=>⟨ab,?_,H'⟩) H) λu S' ⟨ab,ha,H'⟩=>?_
 .cases hp with
  |f h=>exact .f h
  |t hs h=>exact .t hs ⟨aT,⟨h1,h2,h3⟩,h⟩
 .cases ha with
  |f h1 h2 h3 h=>
   obtain⟨rfl,ho,l',hl,hh⟩:=hf _ _ _ ⟨h1,h2,h3⟩ h;exact⟨_,⟨l',⟨hl,by show _=cI.B kg.over;rw[ho]⟩,rfl⟩,hh.cx H'⟩
  |t hs h=>obtain⟨kQ,h0,h⟩:=h;obtain⟨rfl,ho,l',hl,hh⟩:=ht _ _ _ _ _ _ _ _ _ _ _ _ h0 hs h;exact⟨_,⟨l',⟨hl,by show _=cI.B kg.over;rw[ho]⟩,rfl⟩,hh.cx H'⟩
end
abbrev PQ (x:Xc)(o:Od)(q:Nat)(b:Int)(m bl:Nat)(rest:List AV)(y:Me)(s:az):Prop:=∀{B0 S:AH}{W:List Nat}{R l:List Own}{ro:List aF},x.ok->o.ok x->y.gd->dR x o q b s l->Cx B0 W S (l++(ad m bl y rest++R)) ro->aG EM (zF 20) [.ptr q 0,.ptr m 0] S λu S'=>∃ab,eH (dR x o q (az.cG x o s)) az.over (az.step x o s y) (ad m bl · rest) R u ab/\Cx B0 W S' ab ro
section
open az
section
variable{B0 S:AH}{W:List Nat}{R l:List Own}{ro:List aF}{m bl q:Nat}{y:Me}{rest:List AV}{x:Xc}{o:Od}{b:Int}
theorem Sq {z}:PQ x o q b m bl rest y (.r1 z):=by
 intro B0 S W R l ro hx hk hy h H;obtain⟨dK,cR,eD,eU,eQ,eV,bt,dk,eR,eL,eo,eS,-⟩:=aS hx hk;cases h with
 |@r1 z cl lo L g sv uv vx vn vt vw t0 t3 i key aw hv jI h t=>
 simp only[lA,lB,lC] at H;have H:=Hs.cx (tgt:=.obj q _::.sl sv 1 _::(lo++(ad m bl y rest++(.obj vx (.row [.ptr q 0])::.obj vn (.row [I o.tk])::.obj vt (.row [I t0,I o.prio,I o.every,I t3])::.obj vw (.row [I o.now])::(g++(R)))))) HQ H;refine eW (kg:=az.qE x o (z.step (x.b5+o.tk) o.every o.now y).1) (y':=(z.step (x.b5+o.tk) o.every o.now y).2) (by rw[t.len];exact Nat.le_of_ble_eq_true rfl) (λaT h1 h2 h3 B W S H=>HI h1 h2 h3 ⟨am,by have:=bt jI;omega,by have:=bt jI;omega,by have:=bt jI;omega⟩ hy h H) ?_ ?_ H
 .rintro b' aT A hv ⟨rfl,ho,i4,hP,rfl⟩;generalize hw:(z.step (x.b5+o.tk) o.every o.now y).1=w at*
  cases w<;>first|(cases ho;done)|exact⟨rfl,rfl,_,.r1 hv jI hP t,HQ⟩
 .rintro kQ b' aT L' ca i' aQ aR cT aP A fz h0 hs ⟨rfl,ho,hE,rfl⟩;generalize hw:(z.step (x.b5+o.tk) o.every o.now y).1=w at*
  cases w<;>first|(cases ho;done)|skip
  rcases hE with⟨rfl,hE⟩|⟨he,hE⟩
  .obtain⟨rfl,rfl,rfl,rfl,rfl,rfl,rfl,rfl⟩:=hE;cases t with
   |@cons _ _ nH nZ g2 L2 h2 t2=>
   obtain⟨eM,rfl⟩:=hs.inv;exact⟨rfl,by first|rfl|exact nz,_,.r2 eM jI (.f h2) t2,by(try simp only[lC,lA,lB,List.append_nil]);generalize ad m bl _ rest=MM;exact HQ⟩
  .obtain⟨rfl,rfl,rfl,rfl,rfl,rfl,rfl,rfl⟩:=hE;have e:qE x o (.d _)=.d 0 0 _ false:=if_neg he;rw[e];exact⟨rfl,rfl,_,.d hs (λh=>absurd h he),by(try simp only[lC,lA,lB,List.append_nil]);generalize ad m bl _ rest=MM;exact HQ⟩
theorem Ss {z}:PQ x o q b m bl rest y (.r2 z):=by
 intro B0 S W R l ro hx hk hy h H;obtain⟨dK,cR,eD,eU,eQ,eV,bt,dk,eR,eL,eo,eS,-⟩:=aS hx hk;cases h with
 |@r2 z cl lo L g sv uv vx vn vt t0 t3 i key aw hv jI h t=>
 simp only[lA,lB,lC] at H;have H:=Hs.cx (tgt:=.obj q _::.sl sv 1 _::(lo++(ad m bl y rest++(.obj vx (.row [.ptr q 0])::(g++(.obj vn (.row [I o.tk])::.obj vt (.row [I t0,I o.prio,I o.every,I t3])::R)))))) HQ H;refine eW (kg:=az.qF x o (z.step x.j y).1) (y':=(z.step x.j y).2) (by rw[t.len];exact Nat.le_of_ble_eq_true rfl) (λaT h1 h2 h3 B W S H=>HU h1 h2 h3 cR hy h H) ?_ ?_ H
 .rintro b' aT A hv ⟨rfl,ho,i4,hP,rfl⟩;generalize hw:(z.step x.j y).1=w at*
  cases w<;>first|(cases ho;done)|exact⟨rfl,rfl,_,.r2 hv jI hP t,HQ⟩
 .rintro kQ b' aT L' ca i' aQ aR cT aP A fz h0 hs ⟨rfl,ho,ex,hE,rfl⟩;generalize hw:(z.step x.j y).1=w at*
  cases w<;>first|(cases ho;done)|skip
  obtain⟨hu,⟨NH,log,hg,rfl⟩,hE⟩:=hE;have tu:=bm.cons (p:=oH q) hg .nil;have hi:=qU.bd hy h hw;rcases hE with⟨rfl,hE⟩|⟨he,hE⟩
  .obtain⟨rfl,rfl,_,rfl,rfl,rfl,rfl,rfl⟩:=hE;cases t with
   |@cons _ _ nH nZ g2 L2 h2 t2=>
   obtain⟨eM,rfl⟩:=hs.inv;obtain⟨p2,rfl,rfl⟩:=h2;exact⟨rfl,by first|rfl|exact nz,_,.r3 eM jI (hi rfl) tu t2,by(try simp only[lC,lA,lB,List.append_nil]);generalize ad m bl _ rest=MM;exact HQ⟩
  .obtain⟨rfl,rfl,_,rfl,rfl,rfl,rfl,rfl⟩:=hE;have e:∀a,qF x o (.d a aP)=.d 0 0 aP false:=λ_=>if_neg he;rw[e];exact⟨rfl,rfl,_,.d hs (λh=>absurd h he),by(try simp only[lC,lA,lB,List.append_nil]);generalize ad m bl _ rest=MM;exact HQ⟩
theorem St {i:Int}:PQ x o q b m bl rest y (.r3 i):=by
 intro B0 S W R l ro hx hk hy h H;obtain⟨dK,cR,eD,eU,eQ,eV,bt,dk,eR,eL,eo,eS,-⟩:=aS hx hk;cases h with
 |@r3 i p1 L g sv uv UL gu vx vn vt t0 t3 key aw hv jI hi tu t=>
 simp only[lA,lB,lC] at H;have H:=Hs.cx (tgt:=.obj q _::.sl sv 1 _::([.obj p1 (.row [.fn (.func 267) [] [.ptr vx 0,.ptr vt 0]])]++(ad m bl y rest++(.sl uv 1 UL::.obj vx (.row [.ptr q 0])::.obj vt (.row [I t0,I o.prio,I o.every,I t3])::(g++(gu++(.obj vn (.row [I o.tk])::R))))))) HQ H;refine eW (kg:=if(y.add x.seq 1).new<1\/1099511627775<(y.add x.seq 1).new then .r6 i 0 12 (.new x.j i) else .r4 i (ka o.prio (y.add x.seq 1).new) (.new x.j i)) (y':=y.add x.seq 1) (by rw[t.len];exact Nat.le_of_ble_eq_true rfl) (λaT h1 h2 h3 B W S H=>addPart h1 h2 h3 hy (by rw[tu.len];exact Nat.le_of_ble_eq_true rfl) am (by have:=bt jI;omega) H) ?_ ?_ H;.rintro b' aT A hv ⟨⟩
 .rintro kQ b' aT L' ca i' aQ aR cT aP A fz h0 hs ⟨rfl,ho,hE,rfl⟩;generalize(y.add x.seq 1).new=s at*
  rcases hE with⟨hr,hE⟩|⟨hr,hE⟩
  .rw[if_neg am,bC.df hi];obtain⟨rfl,rfl,rfl,rfl,rfl,rfl,rfl,rfl⟩:=hE;cases t with
   |@cons _ _ nH nZ g2 L2 h2 t2=>
   obtain⟨eM,rfl⟩:=hs.inv;exact⟨rfl,by first|rfl|exact nz,_,.r4 eM jI hi (.f hi h2) tu t2,by(try simp only[lC,lA,lB,List.append_nil]);generalize ad m bl _ rest=MM;exact HQ⟩
  .obtain⟨rfl,rfl,rfl,rfl,rfl,rfl,rfl⟩:=hE;rw[if_pos hr];cases tu with
   |@cons _ _ nH nZ g2 L2 h2 t2=>
   obtain⟨eM,rfl⟩:=hs.inv;rw[cQ.df hi];exact⟨rfl,by first|rfl|exact nz,_,.r6 eM ac (.f hi h2) t2,by(try simp only[lC,lA,lB,List.append_nil]);generalize ad m bl _ rest=MM;exact HQ⟩
theorem Sv {z}{i w:Int}:PQ x o q b m bl rest y (.r4 i w z):=by
 intro B0 S W R l ro hx hk hy h H;obtain⟨dK,cR,eD,eU,eQ,eV,bt,dk,eR,eL,eo,eS,-⟩:=aS hx hk;cases h with
 |@r4 z i w cl lo L g sv uv UL gu vx vn aw hv jI hi h tu t=>
 simp only[lA,lB,lC] at H;have H:=Hs.cx (tgt:=.obj q _::.sl sv 1 _::(lo++(ad m bl y rest++(.obj vx (.row [.ptr q 0])::(g++(gu++(.sl uv 1 UL::.obj vn (.row [I o.tk])::R))))))) HQ H;refine eW (kg:=if(z.step x.j i w y).1.over then .r5 i w .a else .r4 i w (z.step x.j i w y).1) (y':=(z.step x.j i w y).2) (by rw[t.len];exact Nat.le_of_ble_eq_true rfl) (λaT h1 h2 h3 B W S H=>HE h1 h2 h3 cR hy h H) ?_ ?_ H
 .rintro b' aT A hv ⟨rfl,ho,i4,hP,rfl⟩;generalize hw:(z.step x.j i w y).1=w at*
  rw[if_neg (by rw[ho];simp)];exact⟨rfl,rfl,_,.r4 hv jI hi hP tu t,HQ⟩
 .rintro kQ b' aT L' ca i' aQ aR cT aP A fz h0 hs ⟨rfl,ho,hE,rfl⟩;generalize hw:(z.step x.j i w y).1=w at*
  rw[if_pos ho];obtain⟨rfl,rfl,rfl,rfl,rfl,rfl,rfl,rfl⟩:=hE;cases t with
  |@cons _ _ nH nZ g2 L2 h2 t2=>
  obtain⟨eM,rfl⟩:=hs.inv;exact⟨rfl,by first|rfl|exact nz,_,.r5 eM jI hi (.f am h2) tu t2,by(try simp only[lC,lA,lB,List.append_nil]);generalize ad m bl _ rest=MM;exact HQ⟩
theorem Sw {z}{i w:Int}:PQ x o q b m bl rest y (.r5 i w z):=by
 intro B0 S W R l ro hx hk hy h H;obtain⟨dK,cR,eD,eU,eQ,eV,bt,dk,eR,eL,eo,eS,-⟩:=aS hx hk;cases h with
 |@r5 z i w cl lo L g sv uv UL gu vx vn aw hv jI hi h tu t=>
 simp only[lA,lB,lC] at H;have H:=Hs.cx (tgt:=.obj q _::.sl sv 1 _::(lo++(ad m bl y rest++(.sl uv 1 UL::.obj vx (.row [.ptr q 0])::.obj vn (.row [I o.tk])::(g++(gu++(R))))))) HQ H;refine eW (kg:=az.qG x o i w (z.step (x.ring (o.tk%x.aI)) i y).1) (y':=(z.step (x.ring (o.tk%x.aI)) i y).2) (by rw[t.len];exact Nat.le_of_ble_eq_true rfl) (λaT h1 h2 h3 B W S H=>HJ h1 h2 h3 (by rw[tu.len];exact Nat.le_of_ble_eq_true rfl) (by have:=bt jI;omega) am (Cq hx (by have:=bt jI;exact Int.emod_nonneg _ am) (by have:=Int.emod_lt_of_pos o.tk (show 0<x.aI by omega);omega)) hy h H) ?_ ?_ H
 .rintro b' aT A hv ⟨rfl,ho,i4,hP,rfl⟩;generalize hw:(z.step (x.ring (o.tk%x.aI)) i y).1=w at*
  cases w<;>first|(cases ho;done)|exact⟨rfl,rfl,_,.r5 hv jI hi hP tu t,HQ⟩
 .rintro kQ b' aT L' ca i' aQ aR cT aP A fz h0 hs ⟨rfl,ho,hE,rfl⟩;generalize hw:(z.step (x.ring (o.tk%x.aI)) i y).1=w at*
  cases w<;>first|(cases ho;done)|skip
  rcases hE with⟨rfl,hE⟩|⟨he,hE⟩
  .obtain⟨rfl,rfl,rfl,rfl,rfl,rfl,rfl,rfl⟩:=hE;cases t;exact⟨rfl,by first|rfl|exact nz,_,.d hs (λ_ _=>⟨rfl,rfl⟩),by(try simp only[lC,lA,lB,List.append_nil]);generalize ad m bl _ rest=MM;exact HQ⟩
  .obtain⟨rfl,rfl,rfl,rfl,rfl,rfl,rfl⟩:=hE;have e:∀(i w:Int),qG x o i w (.d _)=.r6 i w _ (.new x.j i):=λ_ _=>if_neg he;rw[e,cQ.df hi];cases tu with
   |@cons _ _ nH nZ g2 L2 h2 t2=>
   obtain⟨eM,rfl⟩:=hs.inv;exact⟨rfl,by first|rfl|exact nz,_,.r6 eM he (.f hi h2) t2,by(try simp only[lC,lA,lB,List.append_nil]);generalize ad m bl _ rest=MM;exact HQ⟩
theorem Sx {z}{i w e:Int}:PQ x o q b m bl rest y (.r6 i w e z):=by
 intro B0 S W R l ro hx hk hy h H;obtain⟨dK,cR,eD,eU,eQ,eV,bt,dk,eR,eL,eo,eS,-⟩:=aS hx hk;cases h with
 |@r6 z i w e cl lo L g sv uv key aw hv he h t=>
 simp only[lA,lB,lC] at H;have H:=Hs.cx (tgt:=.obj q _::.sl sv 1 _::(lo++(ad m bl y rest++((g++(R)))))) HQ H;refine eW (kg:=if(z.step x.j i y).1.over then .d i w e false else .r6 i w e (z.step x.j i y).1) (y':=(z.step x.j i y).2) (by rw[t.len];exact Nat.le_of_ble_eq_true rfl) (λaT h1 h2 h3 B W S H=>A1 h1 h2 h3 cR hy h H) ?_ ?_ H
 .rintro b' aT A hv ⟨rfl,ho,i4,hP,rfl⟩;generalize hw:(z.step x.j i y).1=w at*
  rw[if_neg (by rw[ho];simp)];exact⟨rfl,rfl,_,.r6 hv he hP t,HQ⟩
 .rintro kQ b' aT L' ca i' aQ aR cT aP A fz h0 hs ⟨rfl,ho,hE,rfl⟩;generalize hw:(z.step x.j i y).1=w at*
  rw[if_pos ho];obtain⟨rfl,rfl,rfl,rfl,rfl,rfl,rfl,rfl⟩:=hE;cases t;exact⟨rfl,by first|rfl|exact nz,_,.d hs (λe _=>absurd e he),by(try simp only[lC,lA,lB,List.append_nil]);generalize ad m bl _ rest=MM;exact HQ⟩
end
end
end Go.cI
