/- Contracts of functions, over the abstract machine. Conditions: stated in each theorem. -/
import Derived.Test.YtdfgboafnklioaaGreatM24
set_option linter.all false
set_option maxRecDepth 100000
set_option maxHeartbeats 4000000
namespace Go.cY
open Go.Proofs
section
def Xc.ok (x:Xc):Prop:=x.t.ok∧x.j.ok∧x.r.ok∧((0≤x.b9∧x.b9<4096)∧1≤x.many∧x.many<4096)∧((0≤x.iB∧x.iB<4096)∧(1≤x.aH∧x.aH≤64)∧1≤x.room∧x.room≤16)∧((0≤x.own∧x.own<4096)∧0≤x.seq∧x.seq<4096)∧x.aH=x.t.l.e.ah∧x.r.ah=x.t.l.e.ah∧x.j.f.size≤64
def Od.ok (o:Od)(x:Xc):Prop:=(0≤o.c∧o.c<x.t.l.e.ah)∧(1≤o.high∧o.high≤x.t.ht)∧(o.k=1→(0≤o.tk∧o.tk<x.many)∧(0≤o.prio∧o.prio≤254)∧(0≤o.every∧o.every≤1099511627776)∧0≤o.now∧o.now≤1099511627776)
def kq (sv:AV):Prop:=ep sv=false∧sv.cells=[sv]∧AV.beq sv sv=true
structure Pk where
 fn:Nat
 F:List AV→List Own→Prop
inductive ba:List Pk→List (List AV)→List Own→Prop
 |nil:ba [] [] []
 |cons {p ps cl lo g L}(h:p.F cl lo)(t:ba ps L g):ba (p::ps) (L++[[.fn (.func p.fn) [] cl]]) (lo++g)
theorem ba.len {ps L g}(h:ba ps L g):L.length=ps.length:=by
 induction h with
 |nil=>rfl
 |cons h t ih=>simp[ih]
theorem AR.inv {sv v L fA}(h:AR sv (L++[[v]]) fA):kq sv∧fA=[.sl sv 1 (L++[[v]])]:=by
 generalize e:L++[[v]]=M at h
 cases h with
 |n=>simp at e
 |s h1 h2 h3=>exact⟨⟨h1,h2,h3⟩,rfl⟩
theorem AR.PJ {sv a b c d e L fA}(h:AR sv (L++[[a],[b],[c],[d],[e]]) fA):kq sv∧fA=[.sl sv 1 (L++[[a],[b],[c],[d],[e]])]:=by
 generalize e:L++[[a],[b],[c],[d],[e]]=M at h
 cases h with
 |n=>simp at e
 |s h1 h2 h3=>exact⟨⟨h1,h2,h3⟩,rfl⟩
theorem AR.PK {sv a L N fA}(h:AR sv (L++([a]::N)) fA):kq sv∧fA=[.sl sv 1 (L++([a]::N))]:=by
 generalize e:L++([a]::N)=M at h
 cases h with
 |n=>simp at e
 |s h1 h2 h3=>exact⟨⟨h1,h2,h3⟩,rfl⟩
theorem nz {L:List (List AV)}{v:AV}:false=decide ((L++[[v]]).length=0):=by simp
theorem Xc.wu (x:Xc){w:Int}(h:0≤x.rd w):0≤x.rd w∧x.rd w<x.j.f.size:=by
 refine⟨h,?_⟩
 unfold Xc.rd at*
 split at h
 ·omega
 ·rw[if_neg (by assumption)];omega
theorem dm.db {j}{i:Int}(h:0≤i∧i<j.f.size):dm.new j i=.l:=if_neg (by omega)
theorem bO.db {j}{i:Int}(h:0≤i∧i<j.f.size):bO.new j i=.a:=if_neg (by omega)
theorem bE.db {j}{i c:Int}(h:0≤i∧i<j.f.size)(hc:0≤c∧c<64):bE.new j i c=.l:=(if_neg (by omega)).trans (if_neg (by omega))
theorem AW {x:Xc}{c:Int}(h:x.ok)(h0:0≤c)(h1:c<64):(x.ring c).ok:=by
 unfold Xc.ok at h
 unfold Rn.ok Xc.ring
 have:=h.2.2.2.2.1
 have e1:c*(x.room+2)≤63*(x.room+2):=Int.mul_le_mul_of_nonneg_right (by omega) (by omega)
 have e2:0≤c*(x.room+2):=Int.mul_nonneg h0 (by omega)
 refine⟨?_,?_,?_,?_⟩<;>dsimp only<;>omega
theorem lP.bd {x r}{q:Nat}{cl z lo y}{h v e:Int}(hy:y.gd)(hp:lP x r q cl z lo)(hw:(z.step r y).1=.d h v e)(he:e=0):(0≤v∧v<65536)∧Me.ar h:=by
 subst he
 cases hp with
 |f h=>cases hw
 |r dw h ho=>
  cases h with
  |a=>cases hw
  |b hh=>
   have hb:=Me.ai hy
   unfold Me.ar at hb
   have e0:∀(p:Prop) [Decidable p] (a b:fj),(if p then a else b)=.d h v 0→(a=.d h v 0→(0≤v∧v<65536)∧Me.ar h)→(b≠.d h v 0)→(0≤v∧v<65536)∧Me.ar h:=by
    intro p _ a b OD h1 h2
    split at OD
    ·exact h1 OD
    ·exact absurd OD h2
   refine e0 _ _ _ hw (fun e=>?_) (fun e=>by cases e)
   injection e with e1 e2
   subst e1 e2
   exact⟨by omega,hh⟩
  |_=>cases ho
theorem pX.bd {x}{vx q:Nat}{i:Int}{cl z lo y}{w e:Int}(hy:y.gd)(hp:pX x vx i q cl z lo)(hw:(z.stepOf x.j i y).1=.d w e):Me.ar w:=by
 cases hp with
 |f hi h=>cases hw;exact Me.ai hy _
 |r dw h ho=>cases z<;>first|(cases ho;done)|(cases hw;exact Me.ai hy _)
theorem pY.bd {x}{vx q:Nat}{i:Int}{cl z lo y}{w e:Int}(hy:y.gd)(hp:pY x vx i q cl z lo)(hw:(z.stepOf x.j i y).1=.d w e):Me.ar w:=by
 cases hp with
 |f hi h=>cases hw;exact Me.ai hy _
 |r dw h ho=>cases z<;>first|(cases ho;done)|(cases hw;exact Me.ai hy _)
theorem p6.bd {x}{vx q:Nat}{cl z lo y}{i e:Int}(hy:y.gd)(hp:p6 x vx q cl z lo)(hw:(z.step x.j y).1=.d i e)(he:e=0):0≤i∧i<x.j.f.size:=by
 subst he
 have e0:∀w:oL,dI.jL w=.d i 0→False:=by
  intro w
  cases w with
  |d j=>
   intro e
   have e:(if j<0 then dI.d 0 7 else .l j)=.d i 0:=e
   split at e<;>cases e
  |_=>intro e;cases e
 have key:∀σ:dI,σ.over=false→∀lm qm,jP x.j qm σ lm→(σ.step x.j y).1=.d i 0→0≤i∧i<x.j.f.size:=by
  intro σ ho lm qm h hw
  cases h with
  |p h Jh=>exact(e0 _ hw).elim
  |l hi=>cases hw
  |s hi cV=>
   have e0:∀(p:Prop) [Decidable p] (j:Int),(if p then dI.d j 0 else .l j)=.d i 0→j=i:=by
    intro p _ j e
    split at e<;>cases e
    rfl
   have:=e0 _ _ hw
   subst this
   exact hi
  |_=>cases ho
 cases hp with
 |f h=>exact(e0 _ hw).elim
 |r dw h ho=>exact key _ ho _ _ h hw
theorem Pk.ext' {α:Type}{a b:α}(h:a=b):b=a:=h.symm
theorem aK {x:Xc}{o:Od}(hx:x.ok)(hk:o.ok x):x.t.ok∧x.j.ok∧x.r.ok∧(((0≤x.b9∧x.b9<4096)∧1≤x.many∧x.many<4096)∧((0≤x.iB∧x.iB<4096)∧(1≤x.aH∧x.aH≤64)∧1≤x.room∧x.room≤16)∧((0≤x.own∧x.own<4096)∧0≤x.seq∧x.seq<4096)∧x.aH=x.t.l.e.ah∧x.r.ah=x.t.l.e.ah∧x.j.f.size≤64)∧
  (0≤o.c∧o.c<x.t.l.e.ah)∧(1≤o.high∧o.high≤x.t.ht)∧(o.k=1→(0≤o.tk∧o.tk<x.many)∧(0≤o.prio∧o.prio≤254)∧(0≤o.every∧o.every≤1099511627776)∧0≤o.now∧o.now≤1099511627776)∧
  (1≤x.j.f.size∧x.j.f.size≤4096)∧x.t.l.e.ah≤64∧(1≤x.t.ht∧x.t.ht≤4)∧(x.ring o.c).ok∧((0≤x.r.runs∧x.r.runs<4096)∧(0≤x.r.flags∧x.r.flags<4096)∧1≤x.r.ah∧x.r.ah≤64)∧
  ((0≤x.t.nd∧x.t.nd<4096)∧(0≤x.t.hd∧x.t.hd<4096)∧(1≤x.t.ht∧x.t.ht≤4)∧1≤x.t.l.a.f.size∧x.t.l.a.f.size≤128)∧(((0≤x.j.f.top∧x.j.f.top<100000)∧(0≤x.j.f.fJ∧x.j.f.fJ<100000)∧1≤x.j.f.size∧x.j.f.size≤4096)∧(0≤x.j.bx∧x.j.bx<100000)∧0≤x.j.keys∧x.j.keys<100000):=by
 have N7:=hx
 unfold Xc.ok at hx
 obtain⟨dD,cG,eu,eO⟩:=hx
 obtain⟨eL,eP,bq⟩:=hk
 have eQ:x.t.l.e.ah≤64:=by have:=dD;unfold Tw.ok Lb.ok Ep.ok at this;omega
 have eM:=eu
 unfold Rs.ok at eM
 have lQ:=cG
 unfold Jb.ok Sk.ok at lQ
 exact⟨dD,cG,eu,eO,eL,eP,bq,cG.1.2.2,eQ,dD.2.2.1,AW N7 (by omega) (by omega),eM,⟨dD.1,dD.2.1,dD.2.2.1,dD.2.2.2.2.1.1.2.2.1,dD.2.2.2.1⟩,lQ⟩
abbrev JC (vx q:Nat):Pk:=⟨370,Cf vx q⟩
abbrev Lh (vx vt:Nat):Pk:=⟨377,fun cl lo=>∃p,cl=[.ptr p 0]∧lo=[.obj p (.row [.fn (.func 267) [] [.ptr vx 0,.ptr vt 0]])]⟩
abbrev Ch (vx q:Nat):Pk:=⟨486,Cb vx q⟩
abbrev zn (vx vn q:Nat):Pk:=⟨385,Cc vx vn q⟩
abbrev nZ (q:Nat):Pk:=⟨481,zg q⟩
abbrev JD (vx q:Nat):Pk:=⟨496,Cd vx q⟩
abbrev dc (fr to:Int)(q:Nat):Pk:=⟨490,kO fr to q⟩
abbrev Ci (vx:Nat)(high:Int)(q:Nat):Pk:=⟨499,Ce vx high q⟩
abbrev tY (vb vx q:Nat):Pk:=⟨408,xL vb vx q⟩
abbrev ig (q:Nat):Pk:=⟨506,zk q⟩
abbrev tZ (vx:Nat):Pk:=⟨377,fun cl lo=>∃p,cl=[.ptr p 0]∧lo=[.obj p (.row [.fn (.func 420) [] [.ptr vx 0]])]⟩
abbrev r_ (vx:Nat):Pk:=⟨377,fun cl lo=>∃p,cl=[.ptr p 0]∧lo=[.obj p (.row [.fn (.func 421) [] [.ptr vx 0]])]⟩
abbrev rD (vx q:Nat):Pk:=⟨510,zm vx q⟩
abbrev bW (cd w:Int):Pk:=⟨377,fun cl lo=>∃p a b,cl=[.ptr p 0]∧lo=[.obj p (.row [.fn (.func 423) [] [.ptr a 0,.ptr b 0]]),.obj a (.row [I cd]),.obj b (.row [U w])]⟩
abbrev AX (vx vh q:Nat):Pk:=⟨377,fun cl lo=>∃p a b,cl=[.ptr p 0]∧lo=[.obj p (.row [.fn (.func 414) [] [.ptr a 0,.ptr b 0]]),.obj a (.row [.ptr q 0]),.obj b (.row [.fn (.func 300) [] [.ptr vx 0,.ptr vh 0]])]⟩
abbrev zo (vx q:Nat):Pk:=⟨486,zj vx q⟩
abbrev wv (vx:Nat)(high:Int)(q:Nat):Pk:=⟨499,zl vx high q⟩
abbrev t_ (vx q:Nat):Pk:=⟨486,zi vx q⟩
abbrev xM (cd:Int)(vx:Nat):Pk:=⟨377,fun cl lo=>∃p a,cl=[.ptr p 0]∧lo=[.obj p (.row [.fn (.func 426) [] [.ptr a 0,.ptr vx 0]]),.obj a (.row [I cd])]⟩
abbrev PL (q:Nat):Pk:=⟨496,H_ q⟩
theorem AY {q vp pr po:Nat}{xG rB xI rC}(hb:zk q xG xI)(ht:kO 3 4 q rB rC):ba [dc 3 4 q,tZ vp,r_ vp,ig q] [[.fn (.func 506) [] xG],[.fn (.func 377) [] [.ptr pr 0]],[.fn (.func 377) [] [.ptr po 0]],[.fn (.func 490) [] rB]]
  (rC++([.obj po (.row [.fn (.func 420) [] [.ptr vp 0]])]++([.obj pr (.row [.fn (.func 421) [] [.ptr vp 0]])]++(xI++[])))):=
 ba.cons (p:=dc 3 4 q) ht (ba.cons (p:=tZ vp) ⟨po,rfl,rfl⟩ (ba.cons (p:=r_ vp) ⟨pr,rfl,rfl⟩ (ba.cons (p:=ig q) hb .nil)))
theorem Li {x:Xc}{c high:Int}{q vx vp pr po s1 a1 w1 s2 a2 w2:Nat}{xG rB xH Lj Ig Ll:List AV}{xI rC xJ Lm Ii Ln:List Own}(Jg:kO 4 3 q Lj Lm)(hl:zj vx q Ig Ii)(Pd:zl vx high q Ll Ln)(hp:zm vp q xH xJ)(hb:zk q xG xI)(ht:kO 3 4 q rB rC):
  ba [dc 4 3 q,bW (x.r.runs+c) 18446744073709551615,zo vx q,wv vx high q,bW (x.own+c) 0,rD vp q,dc 3 4 q,tZ vp,r_ vp,ig q]
  [[.fn (.func 506) [] xG],[.fn (.func 377) [] [.ptr pr 0]],[.fn (.func 377) [] [.ptr po 0]],[.fn (.func 490) [] rB],[.fn (.func 510) [] xH],
   [.fn (.func 377) [] [.ptr s1 0]],[.fn (.func 499) [] Ll],[.fn (.func 486) [] Ig],[.fn (.func 377) [] [.ptr s2 0]],[.fn (.func 490) [] Lj]]
  (Lm++([.obj s2 (.row [.fn (.func 423) [] [.ptr a2 0,.ptr w2 0]]),.obj a2 (.row [I (x.r.runs+c)]),.obj w2 (.row [U 18446744073709551615])]++(Ii++(Ln++([.obj s1 (.row [.fn (.func 423) [] [.ptr a1 0,.ptr w1 0]]),.obj a1 (.row [I (x.own+c)]),.obj w1 (.row [U 0])]++(xJ++
    (rC++([.obj po (.row [.fn (.func 420) [] [.ptr vp 0]])]++([.obj pr (.row [.fn (.func 421) [] [.ptr vp 0]])]++(xI++[])))))))))):=
 ba.cons (p:=dc 4 3 q) Jg (ba.cons (p:=bW (x.r.runs+c) 18446744073709551615) ⟨s2,a2,w2,rfl,rfl⟩ (ba.cons (p:=zo vx q) hl (ba.cons (p:=wv vx high q) Pd (ba.cons (p:=bW (x.own+c) 0) ⟨s1,a1,w1,rfl,rfl⟩ (ba.cons (p:=rD vp q) hp (AY hb ht))))))
theorem Lp {x:Xc}{c:Int}{q vx u1 ua uw u2 vr:Nat}{Ih H6:List AV}{Ij PB:List Own}(hu:kO 3 4 q Ih Ij)(ho:zi vx q H6 PB):
  ba [t_ vx q,dc 3 4 q,xM (x.r.runs+c) vx,bW (x.r.flags+c) 1] [[.fn (.func 377) [] [.ptr u1 0]],[.fn (.func 377) [] [.ptr u2 0]],[.fn (.func 490) [] Ih],[.fn (.func 486) [] H6]]
  (PB++(Ij++([.obj u2 (.row [.fn (.func 426) [] [.ptr vr 0,.ptr vx 0]]),.obj vr (.row [I (x.r.runs+c)])]++([.obj u1 (.row [.fn (.func 423) [] [.ptr ua 0,.ptr uw 0]]),.obj ua (.row [I (x.r.flags+c)]),.obj uw (.row [U 1])]++[])))):=
 ba.cons (p:=t_ vx q) ho (ba.cons (p:=dc 3 4 q) hu (ba.cons (p:=xM (x.r.runs+c) vx) ⟨u2,vr,rfl,rfl⟩ (ba.cons (p:=bW (x.r.flags+c) 1) ⟨u1,ua,uw,rfl,rfl⟩ .nil)))
inductive eF (x:Xc)(o:Od)(q:Nat)(b:Int):av→List Own→Prop
 |r1 {z cl lo L g sv uv}{vx vn vt vw:Nat}{t0 t3 i key au:Int}(hv:kq sv)(oY:o.k=1)(h:wk x vx vn vt vw o.tk o.every o.now q cl z lo)(t:ba [JC vx q,Lh vx vt,Ch vx q,zn vx vn q] L g):eF x o q b (.r1 z) (.obj q (.row (x.row o.k o.c sv uv i key au false b 0))::.sl sv 1 (L++[[.fn (.func 368) [] cl]])::(lo++(g++(.obj vx (.row [.ptr q 0])::.obj vn (.row [I o.tk])::.obj vt (.row [I t0,I o.prio,I o.every,I t3])::.obj vw (.row [I o.now])::[]))))
 |r2 {z cl lo L g sv uv}{vx vn vt:Nat}{t0 t3 i key au:Int}(hv:kq sv)(oY:o.k=1)(h:p6 x vx q cl z lo)(t:ba [Lh vx vt,Ch vx q,zn vx vn q] L g):eF x o q b (.r2 z) (.obj q (.row (x.row o.k o.c sv uv i key au false b 0))::.sl sv 1 (L++[[.fn (.func 370) [] cl]])::(lo++(g++(.obj vx (.row [.ptr q 0])::.obj vn (.row [I o.tk])::.obj vt (.row [I t0,I o.prio,I o.every,I t3])::[]))))
 |r3 {i:Int}{p1:Nat}{L g sv uv UL gu}{vx vn vt:Nat}{t0 t3 key au:Int}(hv:kq sv)(oY:o.k=1)(hi:0≤i∧i<x.j.f.size)(tu:ba [nZ q] UL gu)(t:ba [Ch vx q,zn vx vn q] L g):eF x o q b (.r3 i) (.obj q (.row (x.row o.k o.c sv uv i key au false b 0))::.sl sv 1 (L++[[.fn (.func 377) [] [.ptr p1 0]]])::([.obj p1 (.row [.fn (.func 267) [] [.ptr vx 0,.ptr vt 0]])]++(g++(gu++(.sl uv 1 UL::.obj vx (.row [.ptr q 0])::.obj vt (.row [I t0,I o.prio,I o.every,I t3])::.obj vn (.row [I o.tk])::[])))))
 |r4 {z}{i w:Int}{cl lo L g sv uv UL gu}{vx vn:Nat}{au:Int}(hv:kq sv)(oY:o.k=1)(hi:0≤i∧i<x.j.f.size)(h:wh x i w vx q cl z lo)(tu:ba [nZ q] UL gu)(t:ba [zn vx vn q] L g):eF x o q b (.r4 i w z) (.obj q (.row (x.row o.k o.c sv uv i w au false b 0))::.sl sv 1 (L++[[.fn (.func 486) [] cl]])::(lo++(g++(gu++(.obj vx (.row [.ptr q 0])::.sl uv 1 UL::.obj vn (.row [I o.tk])::[])))))
 |r5 {z}{i w:Int}{cl lo L g sv uv UL gu}{vx vn:Nat}{au:Int}(hv:kq sv)(oY:o.k=1)(hi:0≤i∧i<x.j.f.size)(h:wm x vx vn o.tk i q cl z lo)(tu:ba [nZ q] UL gu)(t:ba [] L g):eF x o q b (.r5 i w z) (.obj q (.row (x.row o.k o.c sv uv i w au false b 0))::.sl sv 1 (L++[[.fn (.func 385) [] cl]])::(lo++(g++(gu++(.sl uv 1 UL::.obj vx (.row [.ptr q 0])::.obj vn (.row [I o.tk])::[])))))
 |r6 {z}{i w e:Int}{cl lo L g sv uv}{key au:Int}(hv:kq sv)(he:e≠0)(h:tX x i q cl z lo)(t:ba [] L g):eF x o q b (.r6 i w e z) (.obj q (.row (x.row o.k o.c sv uv i key au false b e))::.sl sv 1 (L++[[.fn (.func 481) [] cl]])::(lo++(g++([]))))
 |t1 {z cl lo L g sv uv UL gu}{vx vb:Nat}{i key au:Int}(hv:kq sv)(h:lP x (x.ring o.c) q cl z lo)(tu:ba [dc 3 2 q] UL gu)(t:ba [JD vx q,dc 2 3 q,Ci vx o.high q,tY vb vx q,ig q] L g):eF x o q b (.t1 z) (.obj q (.row (x.row o.k o.c sv uv i key au false b 0))::.sl sv 1 (L++[[.fn (.func 493) [] cl]])::(lo++(g++(gu++(.sl uv 1 UL::.obj vx (.row [.ptr q 0])::.obj vb (.row [I (x.ring o.c).head,I (x.ring o.c).tail,I (x.ring o.c).eE,I (x.ring o.c).size])::[])))))
 |t2 {z}{i hd:Int}{cl lo L g sv uv UL gu}{vx vb:Nat}{key:Int}(hv:kq sv)(hh:Me.ar hd)(hi:0≤i∧i<x.j.f.size)(h:pX x vx i q cl z lo)(tu:ba [dc 3 2 q] UL gu)(t:ba [dc 2 3 q,Ci vx o.high q,tY vb vx q,ig q] L g):eF x o q b (.t2 i hd z) (.obj q (.row (x.row o.k o.c sv uv i key hd false b 0))::.sl sv 1 (L++[[.fn (.func 496) [] cl]])::(lo++(g++(gu++(.obj vx (.row [.ptr q 0])::.sl uv 1 UL::.obj vb (.row [I (x.ring o.c).head,I (x.ring o.c).tail,I (x.ring o.c).eE,I (x.ring o.c).size])::[])))))
 |t3 {z}{i hd w:Int}{cl lo L g sv uv UL gu}{vx vb:Nat}(hv:kq sv)(hh:Me.ar hd)(hi:0≤i∧i<x.j.f.size)(cV:Me.ar w∧¬bU w)(h:m_ x i 2 3 o.c q cl z lo)(tu:ba [dc 3 2 q] UL gu)(t:ba [Ci vx o.high q,tY vb vx q,ig q] L g):eF x o q b (.t3 i hd w z) (.obj q (.row (x.row o.k o.c sv uv i w hd false b 0))::.sl sv 1 (L++[[.fn (.func 490) [] cl]])::(lo++(g++(gu++(.sl uv 1 UL::.obj vx (.row [.ptr q 0])::.obj vb (.row [I (x.ring o.c).head,I (x.ring o.c).tail,I (x.ring o.c).eE,I (x.ring o.c).size])::[])))))
 |t4 {z}{i hd w:Int}{cl lo L g sv uv UL gu}{vx vb:Nat}(hv:kq sv)(hh:Me.ar hd)(hi:0≤i∧i<x.j.f.size)(cV:Me.ar w∧¬bU w)(h:wo x o.c i w o.high vx q cl z lo)(tu:ba [dc 3 2 q] UL gu)(t:ba [tY vb vx q,ig q] L g):eF x o q b (.t4 i hd w z) (.obj q (.row (x.row o.k o.c sv uv i w hd false b 0))::.sl sv 1 (L++[[.fn (.func 499) [] cl]])::(lo++(g++(gu++(.sl uv 1 UL::.obj vx (.row [.ptr q 0])::.obj vb (.row [I (x.ring o.c).head,I (x.ring o.c).tail,I (x.ring o.c).eE,I (x.ring o.c).size])::[])))))
 |t5 {z}{i w e:Int}{cl lo L g sv uv}{key au:Int}(hv:kq sv)(he:e≠0)(h:m_ x i 3 2 o.c q cl z lo)(t:ba [] L g):eF x o q b (.t5 i w e z) (.obj q (.row (x.row o.k o.c sv uv i key au false b e))::.sl sv 1 (L++[[.fn (.func 490) [] cl]])::(lo++(g++([]))))
 |t6 {z}{i hd w:Int}{cl lo L g sv uv}{vx vb:Nat}(hv:kq sv)(h:qK x (x.ring o.c) hd vb vx q cl z lo)(t:ba [ig q] L g):eF x o q b (.t6 i hd w z) (.obj q (.row (x.row o.k o.c sv uv i w hd false b 0))::.sl sv 1 (L++[[.fn (.func 408) [] cl]])::(lo++(g++(.obj vx (.row [.ptr q 0])::.obj vb (.row [I (x.ring o.c).head,I (x.ring o.c).tail,I (x.ring o.c).eE,I (x.ring o.c).size])::[]))))
 |oN {z}{i w:Int}{cl lo L g sv uv}{au:Int}(hv:kq sv)(h:C_ x o.c q cl z lo)(t:ba [] L g):eF x o q b (.oN i w z) (.obj q (.row (x.row o.k o.c sv uv i w au false b 0))::.sl sv 1 (L++[[.fn (.func 506) [] cl]])::(lo++(g++([]))))
 |p1 {p1 a1 b1:Nat}{L g sv uv}{vx:Nat}{i key au:Int}(hv:kq sv)(t:ba [] L g):eF x o q b (.p1) (.obj q (.row (x.row o.k o.c sv uv i key au false b 0))::.sl sv 1 (L++[[.fn (.func 377) [] [.ptr p1 0]]])::([.obj p1 (.row [.fn (.func 414) [] [.ptr a1 0,.ptr b1 0]]),.obj a1 (.row [.ptr q 0]),.obj b1 (.row [.fn (.func 294) [] [.ptr vx 0]])]++(g++(.obj vx (.row [.ptr q 0])::[]))))
 |p2 {z cl lo L g sv uv}{vp:Nat}{i key au:Int}(hv:kq sv)(h:wt x o.c vp q cl z lo)(t:ba [dc 3 4 q,tZ vp,r_ vp,ig q] L g):eF x o q b (.p2 z) (.obj q (.row (x.row o.k o.c sv uv i key au false b 0))::.sl sv 1 (L++[[.fn (.func 510) [] cl]])::(lo++(g++(.obj vp (.row [.ptr q 0])::[]))))
 |p3 {z}{i w:Int}{cl lo L g sv uv}{vp:Nat}{au:Int}(hv:kq sv)(hi:0≤i∧i<x.j.f.size)(h:m_ x i 3 4 o.c q cl z lo)(t:ba [tZ vp,r_ vp,ig q] L g):eF x o q b (.p3 i w z) (.obj q (.row (x.row o.k o.c sv uv i w au false b 0))::.sl sv 1 (L++[[.fn (.func 490) [] cl]])::(lo++(g++(.obj vp (.row [.ptr q 0])::[]))))
 |p4 {i w:Int}{p1:Nat}{L g sv uv}{vp:Nat}{au:Int}(hv:kq sv)(hi:0≤i∧i<x.j.f.size)(t:ba [r_ vp,ig q] L g):eF x o q b (.p4 i w) (.obj q (.row (x.row o.k o.c sv uv i w au false b 0))::.sl sv 1 (L++[[.fn (.func 377) [] [.ptr p1 0]]])::([.obj p1 (.row [.fn (.func 420) [] [.ptr vp 0]])]++(g++(.obj vp (.row [.ptr q 0])::[]))))
 |p5 {i w:Int}{p1:Nat}{L g sv uv}{vp:Nat}{au:Int}(hv:kq sv)(t:ba [ig q] L g):eF x o q b (.p5 i w) (.obj q (.row (x.row o.k o.c sv uv i w au false b 0))::.sl sv 1 (L++[[.fn (.func 377) [] [.ptr p1 0]]])::([.obj p1 (.row [.fn (.func 421) [] [.ptr vp 0]])]++(g++(.obj vp (.row [.ptr q 0])::[]))))
 |s1 {p1:Nat}{L g sv uv}{vx vh vf:Nat}{i key au:Int}(hv:kq sv)(t:ba [bW (x.r.flags+o.c) 0,AX vx vh q] L g):eF x o q b (.s1) (.obj q (.row (x.row o.k o.c sv uv i key au false b 0))::.sl sv 1 (L++[[.fn (.func 377) [] [.ptr p1 0]]])::([.obj p1 (.row [.fn (.func 297) [] [.ptr vf 0,.ptr vx 0]])]++(g++(.obj vx (.row [.ptr q 0])::.obj vf (.row [I (x.r.flags+o.c)])::.obj vh (.row [I o.high])::[]))))
 |s2 {p1 a1 b1:Nat}{L g sv uv}{vx vh:Nat}{i key au:Int}(hv:kq sv)(t:ba [AX vx vh q] L g):eF x o q b (.s2) (.obj q (.row (x.row o.k o.c sv uv i key au false b 0))::.sl sv 1 (L++[[.fn (.func 377) [] [.ptr p1 0]]])::([.obj p1 (.row [.fn (.func 423) [] [.ptr a1 0,.ptr b1 0]]),.obj a1 (.row [I (x.r.flags+o.c)]),.obj b1 (.row [U 0])]++(g++(.obj vx (.row [.ptr q 0])::.obj vh (.row [I o.high])::[]))))
 |s3 {p1 a1 b1:Nat}{L g sv uv}{vx vh:Nat}{i key au:Int}(hv:kq sv)(t:ba [] L g):eF x o q b (.s3) (.obj q (.row (x.row o.k o.c sv uv i key au false b 0))::.sl sv 1 (L++[[.fn (.func 377) [] [.ptr p1 0]]])::([.obj p1 (.row [.fn (.func 414) [] [.ptr a1 0,.ptr b1 0]]),.obj a1 (.row [.ptr q 0]),.obj b1 (.row [.fn (.func 300) [] [.ptr vx 0,.ptr vh 0]])]++(g++(.obj vx (.row [.ptr q 0])::.obj vh (.row [I o.high])::[]))))
 |s4 {z}{i:Int}{cl lo L g sv uv UL gu}{vx vp:Nat}{key au:Int}(hv:kq sv)(hi:0≤i∧i<x.j.f.size)(h:pY x vx i q cl z lo)(tu:ba [t_ vx q,dc 3 4 q,xM (x.r.runs+o.c) vx,bW (x.r.flags+o.c) 1] UL gu)(t:ba [dc 4 3 q,bW (x.r.runs+o.c) 18446744073709551615,zo vx q,wv vx o.high q,bW (x.own+o.c) 0,rD vp q,dc 3 4 q,tZ vp,r_ vp,ig q] L g):eF x o q b (.s4 i z) (.obj q (.row (x.row o.k o.c sv uv i key au false b 0))::.sl sv 1 (L++[[.fn (.func 496) [] cl]])::(lo++(g++(gu++(.obj vx (.row [.ptr q 0])::.sl uv 1 UL::.obj vp (.row [.ptr q 0])::[])))))
 |s5 {z}{i w:Int}{cl lo L g sv uv UL gu}{vx vp:Nat}{au:Int}(hv:kq sv)(hi:0≤i∧i<x.j.f.size)(cV:Me.ar w∧¬bU w)(h:m_ x i 4 3 o.c q cl z lo)(tu:ba [t_ vx q,dc 3 4 q,xM (x.r.runs+o.c) vx,bW (x.r.flags+o.c) 1] UL gu)(t:ba [bW (x.r.runs+o.c) 18446744073709551615,zo vx q,wv vx o.high q,bW (x.own+o.c) 0,rD vp q,dc 3 4 q,tZ vp,r_ vp,ig q] L g):eF x o q b (.s5 i w z) (.obj q (.row (x.row o.k o.c sv uv i w au false b 0))::.sl sv 1 (L++[[.fn (.func 490) [] cl]])::(lo++(g++(gu++(.sl uv 1 UL::.obj vx (.row [.ptr q 0])::.obj vp (.row [.ptr q 0])::[])))))
 |s6 {i w:Int}{p1 a1 b1:Nat}{L g sv uv UL gu}{vx vp:Nat}{au:Int}(hv:kq sv)(hi:0≤i∧i<x.j.f.size)(cV:Me.ar w∧¬bU w)(tu:ba [t_ vx q,dc 3 4 q,xM (x.r.runs+o.c) vx,bW (x.r.flags+o.c) 1] UL gu)(t:ba [zo vx q,wv vx o.high q,bW (x.own+o.c) 0,rD vp q,dc 3 4 q,tZ vp,r_ vp,ig q] L g):eF x o q b (.s6 i w) (.obj q (.row (x.row o.k o.c sv uv i w au false b 0))::.sl sv 1 (L++[[.fn (.func 377) [] [.ptr p1 0]]])::([.obj p1 (.row [.fn (.func 423) [] [.ptr a1 0,.ptr b1 0]]),.obj a1 (.row [I (x.r.runs+o.c)]),.obj b1 (.row [U 18446744073709551615])]++(g++(gu++(.sl uv 1 UL::.obj vx (.row [.ptr q 0])::.obj vp (.row [.ptr q 0])::[])))))
 |s7 {z}{i w:Int}{cl lo L g sv uv UL gu}{vx vp:Nat}{au:Int}(hv:kq sv)(hi:0≤i∧i<x.j.f.size)(cV:Me.ar w∧¬bU w)(h:wj x i w vx q cl z lo)(tu:ba [t_ vx q,dc 3 4 q,xM (x.r.runs+o.c) vx,bW (x.r.flags+o.c) 1] UL gu)(t:ba [wv vx o.high q,bW (x.own+o.c) 0,rD vp q,dc 3 4 q,tZ vp,r_ vp,ig q] L g):eF x o q b (.s7 i w z) (.obj q (.row (x.row o.k o.c sv uv i w au false b 0))::.sl sv 1 (L++[[.fn (.func 486) [] cl]])::(lo++(g++(gu++(.obj vx (.row [.ptr q 0])::.sl uv 1 UL::.obj vp (.row [.ptr q 0])::[])))))
 |s8 {z}{i w:Int}{cl lo L g sv uv UL gu}{vx vp:Nat}{au:Int}(hv:kq sv)(hi:0≤i∧i<x.j.f.size)(cV:Me.ar w∧¬bU w)(h:wq x o.c i w o.high vx q cl z lo)(tu:ba [t_ vx q,dc 3 4 q,xM (x.r.runs+o.c) vx,bW (x.r.flags+o.c) 1] UL gu)(t:ba [bW (x.own+o.c) 0,rD vp q,dc 3 4 q,tZ vp,r_ vp,ig q] L g):eF x o q b (.s8 i w z) (.obj q (.row (x.row o.k o.c sv uv i w au false b 0))::.sl sv 1 (L++[[.fn (.func 499) [] cl]])::(lo++(g++(gu++(.sl uv 1 UL::.obj vx (.row [.ptr q 0])::.obj vp (.row [.ptr q 0])::[])))))
 |s9 {i w:Int}{p1 a1 b1:Nat}{L g sv uv}{vp:Nat}{au:Int}(hv:kq sv)(t:ba [rD vp q,dc 3 4 q,tZ vp,r_ vp,ig q] L g):eF x o q b (.s9 i w) (.obj q (.row (x.row o.k o.c sv uv i w au false b 0))::.sl sv 1 (L++[[.fn (.func 377) [] [.ptr p1 0]]])::([.obj p1 (.row [.fn (.func 423) [] [.ptr a1 0,.ptr b1 0]]),.obj a1 (.row [I (x.own+o.c)]),.obj b1 (.row [U 0])]++(g++(.obj vp (.row [.ptr q 0])::[]))))
 |b1 {z}{i w e:Int}{cl lo L g sv uv}{vx:Nat}{au:Int}(hv:kq sv)(hi:0≤i∧i<x.j.f.size)(he:e≠0)(h:wi x i w vx q cl z lo)(t:ba [dc 3 4 q,xM (x.r.runs+o.c) vx,bW (x.r.flags+o.c) 1] L g):eF x o q b (.b1 i w e z) (.obj q (.row (x.row o.k o.c sv uv i w au false b e))::.sl sv 1 (L++[[.fn (.func 486) [] cl]])::(lo++(g++(.obj vx (.row [.ptr q 0])::[]))))
 |b2 {z}{i w e:Int}{cl lo L g sv uv}{vx:Nat}{au:Int}(hv:kq sv)(he:e≠0)(h:m_ x i 3 4 o.c q cl z lo)(t:ba [xM (x.r.runs+o.c) vx,bW (x.r.flags+o.c) 1] L g):eF x o q b (.b2 i w e z) (.obj q (.row (x.row o.k o.c sv uv i w au false b e))::.sl sv 1 (L++[[.fn (.func 490) [] cl]])::(lo++(g++(.obj vx (.row [.ptr q 0])::[]))))
 |b3 {i w e:Int}{p1 a1:Nat}{L g sv uv}{vx:Nat}{au:Int}(hv:kq sv)(he:e≠0)(t:ba [bW (x.r.flags+o.c) 1] L g):eF x o q b (.b3 i w e) (.obj q (.row (x.row o.k o.c sv uv i w au false b e))::.sl sv 1 (L++[[.fn (.func 377) [] [.ptr p1 0]]])::([.obj p1 (.row [.fn (.func 426) [] [.ptr a1 0,.ptr vx 0]])]++(g++(.obj vx (.row [.ptr q 0])::.obj a1 (.row [I (x.r.runs+o.c)])::[]))))
 |b4 {i w e:Int}{p1 a1 b1:Nat}{L g sv uv}{au:Int}(hv:kq sv)(he:e≠0)(t:ba [] L g):eF x o q b (.b4 i w e) (.obj q (.row (x.row o.k o.c sv uv i w au false b e))::.sl sv 1 (L++[[.fn (.func 377) [] [.ptr p1 0]]])::([.obj p1 (.row [.fn (.func 423) [] [.ptr a1 0,.ptr b1 0]]),.obj a1 (.row [I (x.r.flags+o.c)]),.obj b1 (.row [U 1])]++(g++([]))))
 |c1 {p1 a1 b1:Nat}{L g sv uv}{vx:Nat}{i key au:Int}(hv:kq sv)(t:ba [PL q,dc 4 5 q,bW (x.own+o.c) 0,bW (x.r.runs+o.c) 18446744073709551615,nZ q,ig q] L g):eF x o q b (.c1) (.obj q (.row (x.row o.k o.c sv uv i key au false b 0))::.sl sv 1 (L++[[.fn (.func 377) [] [.ptr p1 0]]])::([.obj p1 (.row [.fn (.func 414) [] [.ptr a1 0,.ptr b1 0]]),.obj a1 (.row [.ptr q 0]),.obj b1 (.row [.fn (.func 303) [] [.ptr vx 0]])]++(g++(.obj vx (.row [.ptr q 0])::[]))))
 |c2 {z}{i:Int}{cl lo L g sv uv}{vx:Nat}{key au:Int}(hv:kq sv)(hi:0≤i∧i<x.j.f.size)(h:Db x i q cl z lo)(t:ba [dc 4 5 q,bW (x.own+o.c) 0,bW (x.r.runs+o.c) 18446744073709551615,nZ q,ig q] L g):eF x o q b (.c2 i z) (.obj q (.row (x.row o.k o.c sv uv i key au false b 0))::.sl sv 1 (L++[[.fn (.func 496) [] cl]])::(lo++(g++(.obj vx (.row [.ptr q 0])::[]))))
 |c3 {z}{i w:Int}{cl lo L g sv uv}{au:Int}(hv:kq sv)(hi:0≤i∧i<x.j.f.size)(h:m_ x i 4 5 o.c q cl z lo)(t:ba [bW (x.own+o.c) 0,bW (x.r.runs+o.c) 18446744073709551615,nZ q,ig q] L g):eF x o q b (.c3 i w z) (.obj q (.row (x.row o.k o.c sv uv i w au false b 0))::.sl sv 1 (L++[[.fn (.func 490) [] cl]])::(lo++(g++([]))))
 |c4 {i w:Int}{p1 a1 b1:Nat}{L g sv uv}{au:Int}(hv:kq sv)(hi:0≤i∧i<x.j.f.size)(t:ba [bW (x.r.runs+o.c) 18446744073709551615,nZ q,ig q] L g):eF x o q b (.c4 i w) (.obj q (.row (x.row o.k o.c sv uv i w au false b 0))::.sl sv 1 (L++[[.fn (.func 377) [] [.ptr p1 0]]])::([.obj p1 (.row [.fn (.func 423) [] [.ptr a1 0,.ptr b1 0]]),.obj a1 (.row [I (x.own+o.c)]),.obj b1 (.row [U 0])]++(g++([]))))
 |c5 {i w:Int}{p1 a1 b1:Nat}{L g sv uv}{au:Int}(hv:kq sv)(hi:0≤i∧i<x.j.f.size)(t:ba [nZ q,ig q] L g):eF x o q b (.c5 i w) (.obj q (.row (x.row o.k o.c sv uv i w au false b 0))::.sl sv 1 (L++[[.fn (.func 377) [] [.ptr p1 0]]])::([.obj p1 (.row [.fn (.func 423) [] [.ptr a1 0,.ptr b1 0]]),.obj a1 (.row [I (x.r.runs+o.c)]),.obj b1 (.row [U 18446744073709551615])]++(g++([]))))
 |c6 {z}{i w:Int}{cl lo L g sv uv}{au:Int}(hv:kq sv)(h:tX x i q cl z lo)(t:ba [ig q] L g):eF x o q b (.c6 i w z) (.obj q (.row (x.row o.k o.c sv uv i w au false b 0))::.sl sv 1 (L++[[.fn (.func 481) [] cl]])::(lo++(g++([]))))
 |d {i w e i' key au:Int}{n:Bool}{sv uv fA}(hs:AR sv [] fA)(hw:e=0→n=false→i'=i∧key=w):eF x o q b (.d i w e n) (.obj q (.row (x.row o.k o.c sv uv i' key au n b e))::fA)
section
variable{B0 S:AH}{W:List Nat}{R lo G:List Own}{ro:List aQ}{m bl q nf:Nat}{y y':Me}{rest cl:List AV}{x:Xc}{o:Od}{k c i key au cn err b bb:Int}{nn:Bool}{sv uv:AV}{L:List (List AV)}{jQ:av}{vo:Int→List Own→Prop}{zf:AV→Int→AV→List (List AV)→AV→Int→Int→Int→Bool→Int→List Own→Prop}
theorem eR (hL:L.length≤64)
  (hc:∀aM:AV,ep aM=false→aM.cells=[aM]→AV.beq aM aM=true→∀B W S,Cx B W S (.obj q (.row (x.row k c aM uv i key au nn cn err))::.sl aM 1 L::(lo++(ad m bl y rest++G))) ro→
    aO EM (.fn (.func nf) [] cl) [.ptr m 0] S fun u S'=>∃ab,nF x k c q aM uv L i key au nn cn err vo (zf aM) u ab∧Cx B W S' ab ro)
  (hf:∀(b':Int) (aM:AV) (A:List Own),kq aM→vo b' A→b'=bb∧jQ.over=false∧∃l',eF x o q bb jQ l'∧Hs (.obj q (.row (x.row k c aM uv i key au nn b' err))::.sl aM 1 (L++[[.fn (.func nf) [] cl]])::A) (l'++(ad m bl y' rest++R)))
  (ht:∀(kr:AV) (b':Int) (aM:AV) (L':List (List AV)) (b7:AV) (i' aI aJ:Int) (cJ:Bool) (aF:Int) (A fA:List Own),kq kr→AR aM L' fA→zf kr b' aM L' b7 i' aI aJ cJ aF A→b'=bb∧jQ.over=decide (L'.length=0)∧∃l',eF x o q bb jQ l'∧Hs (.obj q (.row (x.row k c aM b7 i' aI aJ cJ b' aF))::(fA++A)) (l'++(ad m bl y' rest++R)))
  (H:Cx B0 W S (.obj q (.row (x.row k c sv uv i key au nn cn err))::.sl sv 1 (L++[[.fn (.func nf) [] cl]])::(lo++(ad m bl y rest++G))) ro):
  aO EM (zF 20) [.ptr q 0,.ptr m 0] S fun u S'=>∃ab,eD (eF x o q bb) av.over (jQ,y') (ad m bl · rest) R u ab∧Cx B0 W S' ab ro:=by
 refine az (H7 (vo:=vo) (zf:=fun b' aM L' b7 i' aI aJ cJ aF A=>∃kr,kq kr∧zf kr b' aM L' b7 i' aI aJ cJ aF A) hL (fun aM h1 h2 h3 B W S H=>az (hc aM h1 h2 h3 B W S H) fun u S' ⟨ab,hp,H'⟩=>⟨ab,?_,H'⟩) H) fun u S' ⟨ab,ha,H'⟩=>?_
 ·cases hp with
  |f h=>exact .f h
  |t hs h=>exact .t hs ⟨aM,⟨h1,h2,h3⟩,h⟩
 ·cases ha with
  |f h1 h2 h3 h=>
   obtain⟨rfl,ho,l',hl,hh⟩:=hf _ _ _ ⟨h1,h2,h3⟩ h
   exact⟨_,⟨l',⟨hl,by show _=cY.B jQ.over;rw[ho]⟩,rfl⟩,hh.cx H'⟩
  |t hs h=>
   obtain⟨kr,h0,h⟩:=h
   obtain⟨rfl,ho,l',hl,hh⟩:=ht _ _ _ _ _ _ _ _ _ _ _ _ h0 hs h
   exact⟨_,⟨l',⟨hl,by show _=cY.B jQ.over;rw[ho]⟩,rfl⟩,hh.cx H'⟩
end
abbrev PQ (x:Xc)(o:Od)(q:Nat)(b:Int)(m bl:Nat)(rest:List AV)(y:Me)(s:av):Prop:=∀{B0 S:AH}{W:List Nat}{R l:List Own}{ro:List aQ},x.ok→o.ok x→y.gd→eF x o q b s l→Cx B0 W S (l++(ad m bl y rest++R)) ro→aO EM (zF 20) [.ptr q 0,.ptr m 0] S fun u S'=>∃ab,eD (eF x o q (av.cz x o s)) av.over (av.step x o s y) (ad m bl · rest) R u ab∧Cx B0 W S' ab ro
end
section
open av
section
variable{B0 S:AH}{W:List Nat}{R l:List Own}{ro:List aQ}{m bl q:Nat}{y:Me}{rest:List AV}{x:Xc}{o:Od}{b:Int}
theorem PM {z}:PQ x o q b m bl rest y (.r1 z):=by
 intro B0 S W R l ro hx hk hy h H
 obtain⟨dD,cG,eu,eO,eL,eP,bq,da,eQ,eY,dX,eM,-⟩:=aK hx hk
 cases h with
 |@r1 z cl lo L g sv uv vx vn vt vw t0 t3 i key au hv oY h t=>
 simp only[lA,lB,lC] at H
 have H:=Hs.cx (tgt:=.obj q _::.sl sv 1 _::(lo++(ad m bl y rest++(.obj vx (.row [.ptr q 0])::.obj vn (.row [I o.tk])::.obj vt (.row [I t0,I o.prio,I o.every,I t3])::.obj vw (.row [I o.now])::(g++(R)))))) HQ H
 refine eR (jQ:=av.pL x o (z.step (x.b9+o.tk) o.every o.now y).1) (y':=(z.step (x.b9+o.tk) o.every o.now y).2) (by rw[t.len];exact Nat.le_of_ble_eq_true rfl) (fun aM h1 h2 h3 B W S H=>Gc h1 h2 h3 ⟨by omega,by have:=bq oY;omega,by have:=bq oY;omega,by have:=bq oY;omega⟩ hy h H) ?_ ?_ H
 ·rintro b' aM A hv ⟨rfl,ho,lO,hP,rfl⟩
  generalize hw:(z.step (x.b9+o.tk) o.every o.now y).1=w at*
  cases w<;>first|(cases ho;done)|exact⟨rfl,rfl,_,.r1 hv oY hP t,HQ⟩
 ·rintro kr b' aM L' b7 i' aI aJ cJ aF A fA h0 hs ⟨rfl,ho,hE,rfl⟩
  generalize hw:(z.step (x.b9+o.tk) o.every o.now y).1=w at*
  cases w<;>first|(cases ho;done)|skip
  rcases hE with⟨rfl,hE⟩|⟨he,hE⟩
  ·obtain⟨rfl,rfl,rfl,rfl,rfl,rfl,rfl,rfl⟩:=hE
   cases t with
   |@cons _ _ na nb g2 L2 h2 t2=>
   obtain⟨eG,rfl⟩:=hs.inv
   exact⟨rfl,by first|rfl|exact nz,_,.r2 eG oY (.f h2) t2,by(try simp only[lC,lA,lB,List.append_nil]);generalize ad m bl _ rest=MM;exact HQ⟩
  ·obtain⟨rfl,rfl,rfl,rfl,rfl,rfl,rfl,rfl⟩:=hE
   have e:pL x o (.d _)=.d 0 0 _ false:=if_neg he
   rw[e]
   exact⟨rfl,rfl,_,.d hs (fun h=>absurd h he),by(try simp only[lC,lA,lB,List.append_nil]);generalize ad m bl _ rest=MM;exact HQ⟩
theorem PN {z}:PQ x o q b m bl rest y (.r2 z):=by
 intro B0 S W R l ro hx hk hy h H
 obtain⟨dD,cG,eu,eO,eL,eP,bq,da,eQ,eY,dX,eM,-⟩:=aK hx hk
 cases h with
 |@r2 z cl lo L g sv uv vx vn vt t0 t3 i key au hv oY h t=>
 simp only[lA,lB,lC] at H
 have H:=Hs.cx (tgt:=.obj q _::.sl sv 1 _::(lo++(ad m bl y rest++(.obj vx (.row [.ptr q 0])::(g++(.obj vn (.row [I o.tk])::.obj vt (.row [I t0,I o.prio,I o.every,I t3])::R)))))) HQ H
 refine eR (jQ:=av.pM x o (z.step x.j y).1) (y':=(z.step x.j y).2) (by rw[t.len];exact Nat.le_of_ble_eq_true rfl) (fun aM h1 h2 h3 B W S H=>Gp h1 h2 h3 cG hy h H) ?_ ?_ H
 ·rintro b' aM A hv ⟨rfl,ho,lO,hP,rfl⟩
  generalize hw:(z.step x.j y).1=w at*
  cases w<;>first|(cases ho;done)|exact⟨rfl,rfl,_,.r2 hv oY hP t,HQ⟩
 ·rintro kr b' aM L' b7 i' aI aJ cJ aF A fA h0 hs ⟨rfl,ho,ex,hE,rfl⟩
  generalize hw:(z.step x.j y).1=w at*
  cases w<;>first|(cases ho;done)|skip
  obtain⟨hu,⟨Lf,log,hg,rfl⟩,hE⟩:=hE
  have tu:=ba.cons (p:=nZ q) hg .nil
  have hi:=p6.bd hy h hw
  rcases hE with⟨rfl,hE⟩|⟨he,hE⟩
  ·obtain⟨rfl,rfl,_,rfl,rfl,rfl,rfl,rfl⟩:=hE
   cases t with
   |@cons _ _ na nb g2 L2 h2 t2=>
   obtain⟨eG,rfl⟩:=hs.inv
   obtain⟨p2,rfl,rfl⟩:=h2
   exact⟨rfl,by first|rfl|exact nz,_,.r3 eG oY (hi rfl) tu t2,by(try simp only[lC,lA,lB,List.append_nil]);generalize ad m bl _ rest=MM;exact HQ⟩
  ·obtain⟨rfl,rfl,_,rfl,rfl,rfl,rfl,rfl⟩:=hE
   have e:∀a,pM x o (.d a aF)=.d 0 0 aF false:=fun _=>if_neg he
   rw[e]
   exact⟨rfl,rfl,_,.d hs (fun h=>absurd h he),by(try simp only[lC,lA,lB,List.append_nil]);generalize ad m bl _ rest=MM;exact HQ⟩
theorem PO {i:Int}:PQ x o q b m bl rest y (.r3 i):=by
 intro B0 S W R l ro hx hk hy h H
 obtain⟨dD,cG,eu,eO,eL,eP,bq,da,eQ,eY,dX,eM,-⟩:=aK hx hk
 cases h with
 |@r3 i p1 L g sv uv UL gu vx vn vt t0 t3 key au hv oY hi tu t=>
 simp only[lA,lB,lC] at H
 have H:=Hs.cx (tgt:=.obj q _::.sl sv 1 _::([.obj p1 (.row [.fn (.func 267) [] [.ptr vx 0,.ptr vt 0]])]++(ad m bl y rest++(.sl uv 1 UL::.obj vx (.row [.ptr q 0])::.obj vt (.row [I t0,I o.prio,I o.every,I t3])::(g++(gu++(.obj vn (.row [I o.tk])::R))))))) HQ H
 refine eR (jQ:=if(y.add x.seq 1).new<1∨1099511627775<(y.add x.seq 1).new then .r6 i 0 12 (.new x.j i) else .r4 i (jM o.prio (y.add x.seq 1).new) (.new x.j i)) (y':=y.add x.seq 1) (by rw[t.len];exact Nat.le_of_ble_eq_true rfl) (fun aM h1 h2 h3 B W S H=>addPart h1 h2 h3 hy (by rw[tu.len];exact Nat.le_of_ble_eq_true rfl) (by omega) (by have:=bq oY;omega) H) ?_ ?_ H
 ·rintro b' aM A hv ⟨⟩
 ·rintro kr b' aM L' b7 i' aI aJ cJ aF A fA h0 hs ⟨rfl,ho,hE,rfl⟩
  generalize(y.add x.seq 1).new=s at*
  rcases hE with⟨hr,hE⟩|⟨hr,hE⟩
  ·rw[if_neg (by omega),bO.db hi]
   obtain⟨rfl,rfl,rfl,rfl,rfl,rfl,rfl,rfl⟩:=hE
   cases t with
   |@cons _ _ na nb g2 L2 h2 t2=>
   obtain⟨eG,rfl⟩:=hs.inv
   exact⟨rfl,by first|rfl|exact nz,_,.r4 eG oY hi (.f hi h2) tu t2,by(try simp only[lC,lA,lB,List.append_nil]);generalize ad m bl _ rest=MM;exact HQ⟩
  ·obtain⟨rfl,rfl,rfl,rfl,rfl,rfl,rfl⟩:=hE
   rw[if_pos hr]
   cases tu with
   |@cons _ _ na nb g2 L2 h2 t2=>
   obtain⟨eG,rfl⟩:=hs.inv
   rw[dm.db hi]
   exact⟨rfl,by first|rfl|exact nz,_,.r6 eG (by simp) (.f hi h2) t2,by(try simp only[lC,lA,lB,List.append_nil]);generalize ad m bl _ rest=MM;exact HQ⟩
theorem PR {z}{i w:Int}:PQ x o q b m bl rest y (.r4 i w z):=by
 intro B0 S W R l ro hx hk hy h H
 obtain⟨dD,cG,eu,eO,eL,eP,bq,da,eQ,eY,dX,eM,-⟩:=aK hx hk
 cases h with
 |@r4 z i w cl lo L g sv uv UL gu vx vn au hv oY hi h tu t=>
 simp only[lA,lB,lC] at H
 have H:=Hs.cx (tgt:=.obj q _::.sl sv 1 _::(lo++(ad m bl y rest++(.obj vx (.row [.ptr q 0])::(g++(gu++(.sl uv 1 UL::.obj vn (.row [I o.tk])::R))))))) HQ H
 refine eR (jQ:=if(z.step x.j i w y).1.over then .r5 i w .a else .r4 i w (z.step x.j i w y).1) (y':=(z.step x.j i w y).2) (by rw[t.len];exact Nat.le_of_ble_eq_true rfl) (fun aM h1 h2 h3 B W S H=>F9 h1 h2 h3 cG hy h H) ?_ ?_ H
 ·rintro b' aM A hv ⟨rfl,ho,lO,hP,rfl⟩
  generalize hw:(z.step x.j i w y).1=w at*
  rw[if_neg (by rw[ho];simp)]
  exact⟨rfl,rfl,_,.r4 hv oY hi hP tu t,HQ⟩
 ·rintro kr b' aM L' b7 i' aI aJ cJ aF A fA h0 hs ⟨rfl,ho,hE,rfl⟩
  generalize hw:(z.step x.j i w y).1=w at*
  rw[if_pos ho]
  obtain⟨rfl,rfl,rfl,rfl,rfl,rfl,rfl,rfl⟩:=hE
  cases t with
  |@cons _ _ na nb g2 L2 h2 t2=>
  obtain⟨eG,rfl⟩:=hs.inv
  exact⟨rfl,by first|rfl|exact nz,_,.r5 eG oY hi (.f (by omega) h2) tu t2,by(try simp only[lC,lA,lB,List.append_nil]);generalize ad m bl _ rest=MM;exact HQ⟩
theorem PS {z}{i w:Int}:PQ x o q b m bl rest y (.r5 i w z):=by
 intro B0 S W R l ro hx hk hy h H
 obtain⟨dD,cG,eu,eO,eL,eP,bq,da,eQ,eY,dX,eM,-⟩:=aK hx hk
 cases h with
 |@r5 z i w cl lo L g sv uv UL gu vx vn au hv oY hi h tu t=>
 simp only[lA,lB,lC] at H
 have H:=Hs.cx (tgt:=.obj q _::.sl sv 1 _::(lo++(ad m bl y rest++(.sl uv 1 UL::.obj vx (.row [.ptr q 0])::.obj vn (.row [I o.tk])::(g++(gu++(R))))))) HQ H
 refine eR (jQ:=av.pN x o i w (z.step (x.ring (o.tk%x.aH)) i y).1) (y':=(z.step (x.ring (o.tk%x.aH)) i y).2) (by rw[t.len];exact Nat.le_of_ble_eq_true rfl) (fun aM h1 h2 h3 B W S H=>Ge h1 h2 h3 (by rw[tu.len];exact Nat.le_of_ble_eq_true rfl) (by have:=bq oY;omega) (by omega) (AW hx (by have:=bq oY;exact Int.emod_nonneg _ (by omega)) (by have:=Int.emod_lt_of_pos o.tk (show 0<x.aH by omega);omega)) hy h H) ?_ ?_ H
 ·rintro b' aM A hv ⟨rfl,ho,lO,hP,rfl⟩
  generalize hw:(z.step (x.ring (o.tk%x.aH)) i y).1=w at*
  cases w<;>first|(cases ho;done)|exact⟨rfl,rfl,_,.r5 hv oY hi hP tu t,HQ⟩
 ·rintro kr b' aM L' b7 i' aI aJ cJ aF A fA h0 hs ⟨rfl,ho,hE,rfl⟩
  generalize hw:(z.step (x.ring (o.tk%x.aH)) i y).1=w at*
  cases w<;>first|(cases ho;done)|skip
  rcases hE with⟨rfl,hE⟩|⟨he,hE⟩
  ·obtain⟨rfl,rfl,rfl,rfl,rfl,rfl,rfl,rfl⟩:=hE
   cases t
   exact⟨rfl,by first|rfl|exact nz,_,.d hs (fun _ _=>⟨rfl,rfl⟩),by(try simp only[lC,lA,lB,List.append_nil]);generalize ad m bl _ rest=MM;exact HQ⟩
  ·obtain⟨rfl,rfl,rfl,rfl,rfl,rfl,rfl⟩:=hE
   have e:∀(i w:Int),pN x o i w (.d _)=.r6 i w _ (.new x.j i):=fun _ _=>if_neg he
   rw[e,dm.db hi]
   cases tu with
   |@cons _ _ na nb g2 L2 h2 t2=>
   obtain⟨eG,rfl⟩:=hs.inv
   exact⟨rfl,by first|rfl|exact nz,_,.r6 eG he (.f hi h2) t2,by(try simp only[lC,lA,lB,List.append_nil]);generalize ad m bl _ rest=MM;exact HQ⟩
theorem PT {z}{i w e:Int}:PQ x o q b m bl rest y (.r6 i w e z):=by
 intro B0 S W R l ro hx hk hy h H
 obtain⟨dD,cG,eu,eO,eL,eP,bq,da,eQ,eY,dX,eM,-⟩:=aK hx hk
 cases h with
 |@r6 z i w e cl lo L g sv uv key au hv he h t=>
 simp only[lA,lB,lC] at H
 have H:=Hs.cx (tgt:=.obj q _::.sl sv 1 _::(lo++(ad m bl y rest++((g++(R)))))) HQ H
 refine eR (jQ:=if(z.step x.j i y).1.over then .d i w e false else .r6 i w e (z.step x.j i y).1) (y':=(z.step x.j i y).2) (by rw[t.len];exact Nat.le_of_ble_eq_true rfl) (fun aM h1 h2 h3 B W S H=>zh h1 h2 h3 cG hy h H) ?_ ?_ H
 ·rintro b' aM A hv ⟨rfl,ho,lO,hP,rfl⟩
  generalize hw:(z.step x.j i y).1=w at*
  rw[if_neg (by rw[ho];simp)]
  exact⟨rfl,rfl,_,.r6 hv he hP t,HQ⟩
 ·rintro kr b' aM L' b7 i' aI aJ cJ aF A fA h0 hs ⟨rfl,ho,hE,rfl⟩
  generalize hw:(z.step x.j i y).1=w at*
  rw[if_pos ho]
  obtain⟨rfl,rfl,rfl,rfl,rfl,rfl,rfl,rfl⟩:=hE
  cases t
  exact⟨rfl,by first|rfl|exact nz,_,.d hs (fun e _=>absurd e he),by(try simp only[lC,lA,lB,List.append_nil]);generalize ad m bl _ rest=MM;exact HQ⟩
end
end
end Go.cY
