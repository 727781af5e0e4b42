/- Contracts of functions, over the abstract machine. Conditions: stated in each theorem. -/
import Derived.Test.YtdfgboafnklioaaGreatM62
set_option linter.all false
set_option maxRecDepth 100000
set_option maxHeartbeats 4000000
namespace Go.cY
open Go.Proofs
section
section
variable{l lo:List Own}{q:Nat}{x:Me}
theorem GN {s σ}(hs:s.ok)(hx:x.gd)(h:vi s q σ l):Ac x (σ.step s x).2:=by
 unfold Sk.ok at hs
 cases h with
 |a=>exact .ld hx
 |b=>exact .ld hx
 |c hw hi hj=>exact .eh hx (qV (by omega) hw)
 |d=>exact .z
 |n=>exact .z
theorem xW {s}{v:Int}{σ}(hs:s.ok)(hx:x.gd)(h:jN s v q σ l):Ac x (σ.step s v x).2:=by
 unfold Sk.ok at hs
 cases h with
 |a=>exact .ld hx
 |@b w hv hw=>exact .st (by have:=fk (n:=s.size) (w:=w) (by omega);unfold Me.ar;omega)
 |c hv hw=>exact .eh hx (qV (by omega) hw)
 |d=>exact .z
theorem Mw {s σ}(hs:s.ok)(hx:x.gd)(h:xy s q σ l):Ac x (σ.step s x).2:=by
 unfold Sk.ok at hs
 cases h with
 |a=>exact .ld hx
 |b hw hi=>exact .eh hx (qV (by omega) hw)
 |d=>exact .z
 |n=>exact .z
theorem GO {a σ}(hs:a.ok)(hx:x.gd)(h:mY a q σ l):Ac x (σ.step a x).2:=by
 cases h with
 |p h ho=>exact GN hs.1 hx h
 |g=>exact .ld hx
 |w=>exact .ld hx
 |d=>exact .z
theorem IC {a}{v:Int}{σ}(hs:a.ok)(hx:x.gd)(h:pS a v q σ l):Ac x (σ.step a v x).2:=by
 cases h with
 |l=>exact .ld hx
 |r=>exact .st (by unfold Me.ar;omega)
 |u hv h ho=>exact xW hs.1 hx h
 |w=>exact .add
 |d=>exact .z
theorem Bf {e}{c:Int}{σ}(hx:x.gd)(h:vj e c q σ l):Ac x (σ.step e c x).2:=by
 cases h with
 |a=>exact .ld hx
 |b hc hp=>exact .st (by unfold Me.ar;omega)
 |c=>exact .ld hx
 |d=>exact .z
theorem qn {e}{c:Int}{σ}(h:lM e c q σ l):Ac x (σ.step e c x).2:=by
 cases h with
 |a=>exact .st (by unfold Me.ar;omega)
 |d=>exact .z
theorem Mx {e}{c p:Int}{σ}(hx:x.gd)(h:xz e c p q σ l):Ac x (σ.step e c p x).2:=by
 cases h with
 |a=>exact .ld hx
 |b=>exact .ld hx
 |c hc hw hp=>exact .eh hx (by unfold Me.ar at*;omega)
 |d=>exact .z
theorem GP {b}{v:Int}{σ}(hs:b.ok)(hx:x.gd)(h:yW b v q σ l):Ac x (σ.step b v x).2:=by
 cases h with
 |a=>exact .ld hx
 |b hk h ho=>exact xW (Lb.jO hs hk.1 hk.2) hx h
 |d=>exact .z
theorem My {b}{c p:Int}{σ}(hs:b.ok)(hx:x.gd)(h:xA b c p q σ l):Ac x (σ.step b c p x).2:=by
 cases h with
 |v hp h ho h2=>exact Mx hx h
 |t hp h ho=>exact Mw (Lb.jO hs (by omega) (by omega)) hx h
 |l=>exact .ld hx
 |f hi hn hj h ho=>exact IC hs.1 hx h
 |d=>exact .z
theorem GQ {r}{v:Int}{σ}(hx:x.gd)(h:kl r v q σ l):Ac x (σ.step r v x).2:=by
 cases h with
 |a=>exact .ld hx
 |b=>exact .ld hx
 |@c t w hv ht hw=>exact .eh hx (by have:=lN (r:=r) (t:=t);unfold Me.ar;omega)
 |l=>exact .eh hx (by unfold Me.ar;omega)
 |h=>exact .eh hx (by unfold Me.ar;omega)
 |d=>exact .z
theorem GR {r σ}(hx:x.gd)(h:ji r q σ l):Ac x (σ.step r x).2:=by
 cases h with
 |a=>exact .ld hx
 |b=>exact .ld hx
 |d=>exact .z
theorem ID {r}{h0:Int}{σ}(h:pT r h0 q σ l):Ac x (σ.step r h0 x).2:=by
 cases h with
 |a=>exact .st (by unfold Me.ar;omega)
 |b=>exact .st (by unfold Me.ar;omega)
 |d=>exact .z
theorem IE {a e n:Int}{σ}(hn:0≤n∧n≤1099511627776)(hx:x.gd)(h:mZ a e n q σ l):Ac x (σ.step a e n x).2:=by
 cases h with
 |a=>exact .ld hx
 |b=>exact .eh hx (by unfold Me.ar;omega)
 |d=>exact .z
theorem IF {j σ}(hs:j.ok)(hx:x.gd)(h:jP j q σ l):Ac x (σ.step j x).2:=by
 cases h with
 |p h ho=>exact GN hs.1 hx h
 |l=>exact .ld hx
 |s=>exact .eh hx (by unfold Me.ar jw;omega)
 |d=>exact .z
 |n=>exact .z
theorem IG {j}{i:Int}{σ}(hs:j.ok)(hx:x.gd)(h:nX j i q σ l):Ac x (σ.step j i x).2:=by
 cases h with
 |l=>exact .ld hx
 |s hi hw h=>exact .eh hx (Dt (by omega) (by omega) hw)
 |p hi h ho=>exact xW hs.1 hx h
 |d=>exact .z
theorem IH {j}{i fr to c:Int}{σ}(ht:0≤to∧to<6)(hc:0≤c∧c<64)(hx:x.gd)(h:pU j i fr to c q σ l):Ac x (σ.step j i fr to c x).2:=by
 cases h with
 |l=>exact .ld hx
 |s hi hw=>exact .eh hx (Dt (by omega) (by split<;>omega) hw)
 |d=>exact .z
theorem Bg {j}{i k:Int}{σ}(hk:Me.ar k)(h:vk j i k q σ l):Ac x (σ.step j i k x).2:=by
 cases h with
 |a=>exact .st hk
 |d=>exact .z
theorem uq {j}{i:Int}{σ}(hx:x.gd)(h:iC j i q σ l):Ac x (σ.stepOf j i x).2:=by
 cases h with
 |a=>exact .ld hx
 |d=>exact .z
theorem Mz {t}{i g key aq high:Int}{σ}(hj:0≤aq∧aq≤65534∧0≤high∧high≤4)(hk:Me.ar key)(h:y8 t i g key aq high q σ l):Ac x (σ.step t (aC i g) key aq high x).2:=by
 cases h with
 |@s k P3=>
  match k with
  |0=>exact .st hk
  |1=>exact .st (by unfold Me.ar;omega)
  |2=>exact .st (by unfold Me.ar;omega)
  |k+3=>exact .st (by unfold Me.ar;omega)
 |d=>exact .z
theorem sE {t}{key b:Int}{σ}(hx:x.gd)(h:bT t key q b σ l):Ac x (σ.step t key x).2:=by
 cases h with
 |a=>exact .ld hx
 |b=>exact .ld hx
 |c h hc hi hw hm=>exact .eh hx (by unfold Me.ar at*;omega)
 |e=>exact .ld hx
 |d=>exact .z
theorem MA {t}{i g key high b:Int}{σ}(hs:t.ok)(hr:t.rf i g)(hx:x.gd)(h:ko t i g key high q b σ l):Ac x (σ.step t (aC i g) key high x).2:=by
 have QN:=ki hr.1
 cases h with
 |f h ho=>exact sE hx h
 |s hl h=>cases h with|d hk hT hL=>exact .st (fL.Cr hT)
 |e h=>exact .eh hx QN
 |l=>exact .ld hx
 |t hl hw h=>cases h with|d hk hT hL=>exact .eh hx (fL.Cr hT)
 |k hl h=>exact .eh hx QN
 |g hl h ho=>exact sE hx h
 |o=>exact .ld hx
 |q=>exact .ld hx
 |c h ho=>exact sE hx h
 |r=>exact .add
 |w h ho=>show Ac x (gP.step t.l (t.ix _) _ x).2;rw[Tw.wc hr];exact GP hs.2.2.2.2 hx h
 |d=>exact .z
theorem QR {t}{b:Int}{σ}(hs:t.ok)(hx:x.gd)(h:uF t q b σ l):Ac x (σ.step t false x).2:=by
 cases h with
 |a=>exact .ld hx
 |b=>exact .ld hx
 |c ha hw hm=>exact .eh hx (by unfold Me.ar at*;omega)
 |m=>exact .ld hx
 |n=>exact .ld hx
 |o h hv hl hw hm=>exact .eh hx (by unfold Me.ar at*;omega)
 |k=>exact .ld hx
 |h h hw hm=>exact .eh hx (by unfold Me.ar at*;omega)
 |r=>exact .ld hx
 |j=>exact .ld hx
 |f h hk hF ho=>exact sE hx hF
 |g=>exact .add
 |w hi hk h ho=>exact GP hs.2.2.2.2 hx h
 |d=>exact .z
theorem QS {t}{b:Int}{σ}(hx:x.gd)(h:B9 t q b σ l):Ac x (σ.step t true x).2:=by
 cases h with
 |a=>exact .ld hx
 |b=>exact .ld hx
 |c ha hw hm=>exact .eh hx (by unfold Me.ar at*;omega)
 |r=>exact .ld hx
 |j=>exact .ld hx
 |d=>exact .z
theorem GS {t}{c key aq high b:Int}{σ}(hs:t.ok)(sB:(0≤aq∧aq≤65534)∧0≤high∧high≤4)(hk:Me.ar key)(hx:x.gd)(h:ic t c key aq high q b σ l):Ac x (σ.step t c key aq high x).2:=by
 cases h with
 |p0=>exact .ld hx
 |p1 hn h ho=>exact Bf hx h
 |a0=>exact .ld hx
 |a1 hn hp h ho=>exact GO hs.2.2.2.2.1 hx h
 |c0=>exact .ld hx
 |c1 hn hp h ho=>exact My hs.2.2.2.2 hx h
 |l0=>exact .st (by unfold Me.ar;omega)
 |l1 hn h ho=>exact qn h
 |y0=>exact .st hk
 |y1 hr h=>exact Mz (by omega) hk h
 |i0=>exact .ld hx
 |i1 hr h ho=>exact MA hs hr hx h
 |u0=>exact .st (by unfold Me.ar;omega)
 |u1 h ho=>exact qn h
 |d=>exact .z
theorem QT {t}{c b:Int}{σ}(hs:t.ok)(hx:x.gd)(h:zd t c q b σ l):Ac x (σ.step t c false x).2:=by
 cases h with
 |p0=>exact .ld hx
 |p1 h ho=>exact Bf hx h
 |c0=>exact .ld hx
 |c1 h ho=>exact QR hs hx h
 |u0=>exact .st (by unfold Me.ar;omega)
 |u1 h ho=>exact qn h
 |d=>exact .z
theorem QU {t}{c b:Int}{σ}(hs:t.ok)(hx:x.gd)(h:AP t c q b σ l):Ac x (σ.step t c true x).2:=by
 cases h with
 |p0=>exact .ld hx
 |p1 h ho=>exact Bf hx h
 |c0=>exact .ld hx
 |c1 h ho=>exact QS hx h
 |u0=>exact .st (by unfold Me.ar;omega)
 |u1 h ho=>exact qn h
 |d=>exact .z
theorem MB {t r}{c b:Int}{σ}(hs:t.ok)(hx:x.gd)(h:pW t r c q b σ l):Ac x (σ.step t r c x).2:=by
 cases h with
 |k h ho=>exact QU hs hx h
 |r0=>exact .ld hx
 |r1=>exact .ld hx
 |f=>exact .st (by unfold Me.ar;omega)
 |d=>exact .z
theorem II {r}{v:Int}{σ}(hx:x.gd)(h:nY r v q σ l):Ac x (σ.step r v x).2:=by
 cases h with
 |s h ho=>exact GQ hx h
 |d=>exact .z
end
section
variable{q vx vn vt vw vb:Nat}{cl:List AV}{lo l:List Own}{x:Xc}{y:Me}{i c w n ev now au high:Int}{r:Rn}{o:Od}{b:Int}
theorem QV {σ}(hn:0≤now∧now≤1099511627776)(hy:y.gd)(h:wk x vx vn vt vw n ev now q cl σ lo):Ac y (σ.step (x.b9+n) ev now y).2:=by
 cases h with
 |f=>exact .ld hy
 |r dw h ho=>exact IE hn hy h
theorem QW {σ}(hj:x.j.ok)(hy:y.gd)(h:p6 x vx q cl σ lo):Ac y (σ.step x.j y).2:=by
 cases h with
 |f=>exact .ld hy
 |r dw h ho=>exact IF hj hy h
theorem QX {σ}(hw:Me.ar w)(h:wh x i w vx q cl σ lo):Ac y (σ.step x.j i w y).2:=by
 cases h with
 |f=>exact .st hw
 |r dw h ho=>exact Bg hw h
theorem QY {σ}(hw:Me.ar w)(h:wi x i w vx q cl σ lo):Ac y (σ.step x.j i w y).2:=by
 cases h with
 |f=>exact .st hw
 |r dw h ho=>exact Bg hw h
theorem QZ {σ}(h:wj x i w vx q cl σ lo):Ac y (σ.step x.j i ((w+1)%18446744073709551616) y).2:=by
 cases h with
 |f=>exact .st (by unfold Me.ar;omega)
 |r dw h ho=>exact Bg (by unfold Me.ar;omega) h
theorem Q0 {σ}(hy:y.gd)(h:wm x vx vn n i q cl σ lo):Ac y (σ.step (x.ring (n%x.aH)) i y).2:=by
 cases h with
 |f=>exact .ld hy
 |r dw h ho=>exact II hy h
theorem JP {σ}(hj:x.j.ok)(hy:y.gd)(h:tX x i q cl σ lo):Ac y (σ.step x.j i y).2:=by
 cases h with
 |f=>exact .ld hy
 |r dw h ho=>exact IG hj hy h
theorem MC {σ}(hy:y.gd)(h:lP x r q cl σ lo):Ac y (σ.step r y).2:=by
 cases h with
 |f=>exact .ld hy
 |r dw h ho=>exact GR hy h
theorem V3 {σ}(hy:y.gd)(h:Db x i q cl σ lo):Ac y (σ.stepOf x.j i y).2:=by
 cases h with
 |f=>exact .ld hy
 |r dw h ho=>exact uq hy h
theorem Q1 {σ}(hy:y.gd)(h:pX x vx i q cl σ lo):Ac y (σ.stepOf x.j i y).2:=by
 cases h with
 |f=>exact .ld hy
 |r dw h ho=>exact uq hy h
theorem Q2 {σ}(hy:y.gd)(h:pY x vx i q cl σ lo):Ac y (σ.stepOf x.j i y).2:=by
 cases h with
 |f=>exact .ld hy
 |r dw h ho=>exact uq hy h
theorem wD {σ}{fr to:Int}(ht:0≤to∧to<6)(hc:0≤c∧c<64)(hy:y.gd)(h:m_ x i fr to c q cl σ lo):Ac y (σ.step x.j i fr to c y).2:=by
 cases h with
 |f=>exact .ld hy
 |r dw h ho=>exact IH ht hc hy h
theorem Q3 {σ}(hs:x.t.ok)(sB:(0≤i∧i≤65534)∧0≤high∧high≤4)(hk:Me.ar w)(hy:y.gd)(h:wo x c i w high vx q cl σ lo):Ac y (σ.step x.t c w i high y).2:=by
 cases h with
 |f=>exact .ld hy
 |r dw h ho=>exact GS hs sB hk hy h
theorem Q4 {σ}(hs:x.t.ok)(sB:(0≤i∧i≤65534)∧0≤high∧high≤4)(hy:y.gd)(h:wq x c i w high vx q cl σ lo):Ac y (σ.step x.t c ((w+1)%18446744073709551616) i high y).2:=by
 cases h with
 |f=>exact .ld hy
 |r dw h ho=>exact GS hs sB (by unfold Me.ar;omega) hy h
theorem MD {σ}(h:qK x r au vb vx q cl σ lo):Ac y (σ.step r au y).2:=by
 cases h with
 |f=>exact .st (by unfold Me.ar;omega)
 |r dw h ho=>exact ID h
theorem V4 {σ}(hs:x.t.ok)(hy:y.gd)(h:C_ x c q cl σ lo):Ac y (σ.step x.t x.r c y).2:=by
 cases h with
 |f=>exact .ld hy
 |r dw h ho=>exact MB hs hy h
theorem Q5 {σ}(hs:x.t.ok)(hy:y.gd)(h:wt x c vx q cl σ lo):Ac y (σ.step x.t c false y).2:=by
 cases h with
 |f=>exact .ld hy
 |r dw h ho=>exact QT hs hy h
theorem Q6 {σ}(hk:o.ok x)(hy:y.gd)(h:eF x o q b σ l)(hw:σ.wd):(σ.step x o y).1.wd:=by
 cases h with
 |@r1 z=>
  show(av.pL x o _).wd
  generalize(z.step _ _ _ y).1=z'
  cases z' with
  |d e=>exact bw (P:=av.wd) trivial trivial
  |_=>trivial
 |@r2 z=>
  show(av.pM x o _).wd
  generalize(z.step x.j y).1=z'
  cases z' with
  |d i e=>exact bw (P:=av.wd) trivial trivial
  |_=>trivial
 |r3 hv oY hi tu t=>
  have hp:=(hk.2.2 oY).2.1
  show av.wd (if _ then _ else _)
  split
  ·trivial
  ·next hn=>show Me.ar (jM o.prio _);unfold jM Me.ar;omega
 |r4=>exact bw (P:=av.wd) trivial hw
 |@r5 z i w=>
  show(av.pN x o _ _ _).wd
  generalize(z.step _ _ y).1=z'
  cases z' with
  |d e=>exact bw (P:=av.wd) trivial trivial
  |_=>trivial
 |r6=>exact bw (P:=av.wd) trivial trivial
 |@t1 z=>
  show(av.l8 x o _).wd
  generalize(z.step _ y).1=z'
  cases z' with
  |d h v e=>exact bw (P:=av.wd) (bw (P:=av.wd) trivial trivial) trivial
  |_=>trivial
 |@t2 z=>
  show(av.nW x o _ _ _).wd
  generalize(z.stepOf _ _ y).1=z'
  cases z' with
  |d w e=>exact bw (P:=av.wd) trivial trivial
  |_=>trivial
 |t3=>exact bw (P:=av.wd) trivial trivial
 |@t4 z=>
  show(av.pO x o _ _ _ _).wd
  generalize(z.step _ _ _ _ _ y).1=z'
  cases z' with
  |d e=>exact bw (P:=av.wd) trivial trivial
  |_=>trivial
 |t5=>exact bw (P:=av.wd) trivial trivial
 |t6=>exact bw (P:=av.wd) trivial trivial
 |oN=>exact bw (P:=av.wd) trivial trivial
 |p1=>exact bw (P:=av.wd) trivial trivial
 |@p2 z=>
  have:=QQ (t:=x.t) (look:=false) (c:=o.c) hy (show z.wd from hw)
  show(av.jf x o _).wd
  generalize(z.step _ _ _ y).1=z' at this
  cases z' with
  |d key aq e=>exact bw (P:=av.wd) (bw (P:=av.wd) trivial this) (bw (P:=av.wd) trivial trivial)
  |_=>exact this
 |p3=>exact bw (P:=av.wd) hw hw
 |p4=>exact hw
 |p5=>trivial
 |s1=>exact bw (P:=av.wd) trivial trivial
 |s2=>trivial
 |s3=>exact bw (P:=av.wd) trivial trivial
 |@s4 z i cl lo L g sv uv UL gu vx vp key au hv hi h tu t=>
  show(av.l9 x o _ _).wd
  cases h with
  |f=>exact bw (P:=av.wd) trivial (bw (P:=av.wd) trivial (Me.ai hy _))
  |r dw h ho=>
   cases h with
   |a=>exact bw (P:=av.wd) trivial (bw (P:=av.wd) trivial (Me.ai hy _))
   |d=>cases ho
 |s5=>exact bw (P:=av.wd) hw hw
 |s6=>exact hw
 |s7=>exact bw (P:=av.wd) hw hw
 |@s8 z i w=>
  show(av.pP x o _ _ _).wd
  generalize(z.step _ _ _ _ _ y).1=z'
  cases z' with
  |d e=>exact bw (P:=av.wd) trivial hw
  |_=>exact hw
 |s9=>trivial
 |b1=>exact bw (P:=av.wd) hw hw
 |b2=>exact bw (P:=av.wd) hw hw
 |b3=>trivial
 |b4=>trivial
 |c1=>exact bw (P:=av.wd) trivial trivial
 |@c2 z=>
  show(av.rA x o _ _).wd
  generalize(z.stepOf _ _ y).1=z'
  cases z'<;>trivial
 |c3=>exact bw (P:=av.wd) trivial trivial
 |c4=>trivial
 |c5=>trivial
 |c6=>exact bw (P:=av.wd) trivial trivial
 |d=>trivial
theorem Q7 {σ}(hx:x.ok)(hk:o.ok x)(hy:y.gd)(h:eF x o q b σ l)(hw:σ.wd):Ac y (σ.step x o y).2:=by
 have tf:=hx
 unfold Xc.ok Tw.ok Lb.ok Ep.ok at tf
 have Jc:=hk
 unfold Od.ok at Jc
 have hW:∀w,Me.ar ((w+1)%18446744073709551616):=fun w=>by unfold Me.ar;omega
 cases h with
 |r1 hv oY h t=>exact QV (by have:=(hk.2.2 oY).2.2;omega) hy h
 |r2 hv oY h t=>exact QW hx.2.1 hy h
 |r3=>exact .add
 |r4 hv oY hi h tu t=>exact QX hw h
 |r5 hv oY hi h tu t=>exact Q0 hy h
 |r6 hv he h t=>exact JP hx.2.1 hy h
 |t1 hv h tu t=>exact MC hy h
 |t2 hv hh hi h tu t=>exact Q1 hy h
 |t3 hv hh hi cV h tu t=>exact wD (by omega) (by omega) hy h
 |t4 hv hh hi cV h tu t=>exact Q3 hx.1 (by omega) cV.1 hy h
 |t5 hv he h t=>exact wD (by omega) (by omega) hy h
 |t6 hv h t=>exact MD h
 |oN hv h t=>exact V4 hx.1 hy h
 |p1=>exact .ld hy
 |p2 hv h t=>exact Q5 hx.1 hy h
 |p3 hv hi h t=>exact wD (by omega) (by omega) hy h
 |p4 hv hi t=>exact .st (by unfold Jb.ok Sk.ok at tf;unfold Me.ar;omega)
 |p5=>exact .st hw
 |s1=>exact .ld hy
 |s2=>exact .st w0
 |s3=>exact .ld hy
 |s4 hv hi h tu t=>exact Q2 hy h
 |s5 hv hi cV h tu t=>exact wD (by omega) (by omega) hy h
 |s6=>exact .st (by unfold Me.ar;omega)
 |s7 hv hi cV h tu t=>exact QZ h
 |s8 hv hi cV h tu t=>exact Q4 hx.1 (by omega) hy h
 |s9=>exact .st w0
 |b1 hv hi he h t=>exact QY hw h
 |b2 hv he h t=>exact wD (by omega) (by omega) hy h
 |b3=>exact .st hw
 |b4=>exact .st (by unfold Me.ar;omega)
 |c1=>exact .ld hy
 |c2 hv hi h t=>exact V3 hy h
 |c3 hv hi h t=>exact wD (by omega) (by omega) hy h
 |c4=>exact .st w0
 |c5=>exact .st (by unfold Me.ar;omega)
 |c6 hv h t=>exact JP hx.2.1 hy h
 |d=>exact .z
end
end
section
structure nj where
 σ:av
 y:Me
 b:Int
def nj.zD (x:Xc)(o:Od)(s:nj):nj:=⟨(s.σ.step x o s.y).1,(s.σ.step x o s.y).2,if s.σ.over then s.b else s.σ.cz x o⟩
def nj.alone (x:Xc)(o:Od)(eo:Int):Nat→Int→nj→Int×nj
 |0,i,s=>(i,s)
 |n+1,i,s=>if s.σ.err=14∧i<eo then alone x o eo n (i+1) (s.zD x o) else(i,s)
structure nj.ok (x:Xc)(o:Od)(s:nj)(N:Int)(L:Nat):Prop where
 k:s.σ.over=false→o.ok x
 w:s.σ.wd
 y:s.y.gd
 n:s.y.n≤N
 l:s.y.ws.length=L
section
variable{B0 S:AH}{W:List Nat}{R l:List Own}{ro:List aQ}{m bl q:Nat}{rest:List AV}{x:Xc}{o:Od}{vm tv:AV}{hg N:Int}{s:nj}{L:Nat}
theorem gT {σ:av}(h:σ.over=true):∃i w e n,σ=.d i w e n:=by
 cases σ<;>first|(cases h;done)|exact⟨_,_,_,_,rfl⟩
theorem Q8 (hx:x.ok)(hs:s.ok x o N L)(h:eF x o q s.b s.σ l)(H:Cx B0 W S (l++(ad m bl s.y rest++R)) ro):
  aO EM (zF 20) [.ptr q 0,.ptr m 0] S fun u S'=>∃ab,(∃l',u=B (s.zD x o).σ.over∧eF x o q (s.zD x o).b (s.zD x o).σ l'∧ab=l'++(ad m bl (s.zD x o).y rest++R))∧Cx B0 W S' ab ro:=by
 obtain⟨σ,y,b⟩:=s
 cases ho:σ.over with
 |false=>
  refine az (Lt hx (hs.k ho) hs.y h H) fun u S' ⟨ab,⟨l',⟨h1,h2⟩,h3⟩,h4⟩=>⟨ab,⟨l',h2,h1,h3⟩,h4⟩
 |true=>
  obtain⟨i,w,e,n,rfl⟩:=gT ho
  cases h with
  |d JQ hw=>
   simp only[Xc.row,Xc.cs,Tw.cs,Lb.cs,Ar.cs,Ep.cs,lA,lB,lC] at H
   refine Vx.fm H rfl (b:=Tryz.a20) ?_
   cases JQ with
   |n=>
    (repeat' first|constructor|exact ZQ|intro _)
    all_goals apply zL
    exact⟨rfl,rfl,_,⟨_,rfl,.d .n hw,rfl⟩,by simp only[Xc.row,Xc.cs,Tw.cs,Lb.cs,Ar.cs,Ep.cs,lA,lB,lC];exact HQ⟩
   |s h1 h2 h3=>
    (repeat' first|constructor|exact ZQ|intro _)
    all_goals apply zL
    exact⟨rfl,rfl,_,⟨_,rfl,.d (.s h1 h2 h3) hw,rfl⟩,by simp only[Xc.row,Xc.cs,Tw.cs,Lb.cs,Ar.cs,Ep.cs,lA,lB,lC];exact HQ⟩
theorem Q9 (hx:x.ok)(hs:s.ok x o N L)(ht:s.σ.over=false→o.k=1→∃(L:List (List AV)) (c:List AV),aQ.sl tv 4 L∈ro∧L[o.tk.toNat]?=some c∧c[1]?=some (I o.prio))(h:bM x o tv hg q s.b s.σ l)(H:Cx B0 W S (l++(aj m vm s.y++R)) ro):
  aO EM (zF 21) [.ptr q 0,.ptr m 0] S fun u S'=>∃ab,(∃l',u=B (s.zD x o).σ.over∧bM x o tv hg q (s.zD x o).b (s.zD x o).σ l'∧ab=l'++(aj m vm (s.zD x o).y++R))∧Cx B0 W S' ab ro:=by
 obtain⟨σ,y,b⟩:=s
 cases ho:σ.over with
 |false=>
  refine az (Iu hx (hs.k ho) hs.y (ht ho) h H) fun u S' ⟨ab,⟨l',⟨h1,h2⟩,h3⟩,h4⟩=>⟨ab,⟨l',h2,h1,h3⟩,h4⟩
 |true=>
  obtain⟨i,w,e,n,rfl⟩:=gT ho
  cases h with
  |d hw=>
   simp only[Xc.bX,Xc.cs,Tw.cs,Lb.cs,Ar.cs,Ep.cs,lA,lB,lC] at H
   refine Vx.fm H rfl (b:=Tryz.a21) ?_
   (repeat' first|constructor|exact ZQ|intro _)
   all_goals apply zL
   exact⟨rfl,rfl,_,⟨_,rfl,.d hw,rfl⟩,by simp only[Xc.bX,Xc.cs,Tw.cs,Lb.cs,Ar.cs,Ep.cs,lA,lB,lC];exact HQ⟩
theorem wE {σ:av}{y:Me}(h:σ.over=true):(σ.step x o y)=(σ,y):=by
 obtain⟨i,w,e,n,rfl⟩:=gT h
 rfl
theorem nj.ok.V5 (hs:s.ok x o N L)(hx:x.ok)(hN:N<4611686018427387904)(h:eF x o q s.b s.σ l):(s.zD x o).ok x o (N+1) L:=by
 obtain⟨σ,y,b⟩:=s
 cases ho:σ.over with
 |true=>
  have e:=wE (x:=x) (o:=o) (y:=y) ho
  refine⟨?_,?_,?_,?_,?_⟩<;>(show _;unfold nj.zD;dsimp only;rw[e])
  ·exact hs.k
  ·exact hs.w
  ·exact hs.y
  ·have:=hs.n;dsimp only at this⊢;omega
  ·exact hs.l
 |false=>
  have hk:=hs.k ho
  have ha:=Q7 hx hk hs.y h hs.w
  have hn:=hs.n
  have hg:=ha.gd hs.y (by omega)
  exact⟨fun _=>hk,Q6 hk hs.y h hs.w,hg.1,by have:=hg.2.1;show _≤_;unfold nj.zD;dsimp only at this hn⊢;omega,hg.2.2.trans hs.l⟩
theorem nj.ok.V6 (hs:s.ok x o N L)(hx:x.ok)(hN:N<4611686018427387904)(h:bM x o tv hg q s.b s.σ l):(s.zD x o).ok x o (N+1) L:=by
 obtain⟨σ,y,b⟩:=s
 cases ho:σ.over with
 |true=>
  have e:=wE (x:=x) (o:=o) (y:=y) ho
  refine⟨?_,?_,?_,?_,?_⟩<;>(show _;unfold nj.zD;dsimp only;rw[e])
  ·exact hs.k
  ·exact hs.w
  ·exact hs.y
  ·have:=hs.n;dsimp only at this⊢;omega
  ·exact hs.l
 |false=>
  have hk:=hs.k ho
  have ha:=V2 hx hk hs.y h hs.w
  have hn:=hs.n
  have hg:=ha.gd hs.y (by omega)
  exact⟨fun _=>hk,V1 hk hs.y h hs.w,hg.1,by have:=hg.2.1;show _≤_;unfold nj.zD;dsimp only at this hn⊢;omega,hg.2.2.trans hs.l⟩
end
section
variable{M:ef}{ro:List aQ}{Φ:pH}{K:List Kf}{own:List Own}
theorem Vx.inv {α:Type}{body outs}(P:α→Nat→Prop)(vs:α→List AV)(ow:α→List Own)
  (hs:∀a n,P a n→(∀a' n',n'<n→P a' n'→Vx M (.ret .normal (vs a')) (.loop body outs::K) (ow a') ro Φ)→Vx M (body (vs a)) (.loop body outs::K) (ow a) ro Φ)
  {a0} {n0:Nat} (h0:P a0 n0):Vx M (.loop (vs a0) body outs) K (ow a0) ro Φ:=by
 have key:∀n a,P a n→Vx M (body (vs a)) (.loop body outs::K) (ow a) ro Φ:=by
  intro n
  induction n using Nat.strongRecOn with
  |ind n ih=>exact fun a h=>hs a n h fun a' n' hn h'=>Vx.Nk (ih n' hn a' h')
 exact Vx.loop (key n0 a0 h0)
theorem Zx.bk (f:Nat){args k}(h:ck (Vx M (.call (.fn (.func f) [] []) args k) K own ro Φ)):Zx M false (.call (.fn (.func f) [] []) args k) K own ro Φ:=.z h
end
section
variable{B0 S:AH}{W:List Nat}{R l:List Own}{ro:List aQ}{m bl q:Nat}{rest:List AV}{x:Xc}{o:Od}{vm tv:AV}{hg N eo:Int}{s:nj}{L:Nat}
theorem Bh (hx:x.ok)(hk:o.k≠0)(hs:s.ok x o N L)(hN:0≤N∧N≤1000000000000)(hm:eo≤1000000)(h:eF x o q s.b s.σ l)(H:Cx B0 W S (l++(ad m bl s.y rest++R)) ro):
  aO EM (zF 33) [.ptr q 0,.ptr m 0,I eo] S fun u S'=>∃ab,(∃n s' l',(n,s')=nj.alone x o eo eo.toNat 0 s∧u=.cP [I n,B (decide (s'.σ.err≠14))]∧eF x o q s'.b s'.σ l'∧s'.ok x o (N+1000000) L∧ab=l'++(ad m bl s'.y rest++R))∧Cx B0 W S' ab ro:=by
 refine Vx.fm H rfl (b:=Tryz.a33) ?_
 (repeat' first|refine Zx.bk 104 ?_|refine Zx.bk 20 ?_|constructor|exact ZQ|intro _)
 all_goals apply zL
 refine Vx.inv (α:=Int×nj×List Own) (P:=fun a n=>n=(eo-a.1).toNat∧0≤a.1∧(a.1=0∨a.1≤eo)∧a.2.1.ok x o (N+a.1) L∧eF x o q a.2.1.b a.2.1.σ a.2.2∧nj.alone x o eo n a.1 a.2.1=nj.alone x o eo eo.toNat 0 s)
  (fun a=>[I a.1]) (fun a=>a.2.2++(ad m bl a.2.1.y rest++R)) ?_ (a0:=(0,s,l)) (n0:=eo.toNat) ⟨by omega,by omega,.inl rfl,by rw[Int.add_zero];exact hs,h,rfl⟩
 rintro⟨i,s1,l1⟩ n ⟨hn,Ob,yK,wF,h1,ha⟩ ih
 dsimp only at hn Ob yK wF h1 ha⊢
 have CO:(¬(s1.σ.err=14∧i<eo))→(i,s1)=nj.alone x o eo eo.toNat 0 s:=by
  intro hc
  rw[←ha]
  cases n with
  |zero=>rfl
  |succ n=>unfold nj.alone;rw[if_neg hc]
 have CQ:∀bb,bb=decide (s1.σ.err≠14)→(¬(s1.σ.err=14∧i<eo))→∃n s' l',(n,s')=nj.alone x o eo eo.toNat 0 s∧AV.cP [I i,B bb]=.cP [I n,B (decide (s'.σ.err≠14))]∧eF x o q s'.b s'.σ l'∧s'.ok x o (N+1000000) L∧l1++(ad m bl s1.y rest++R)=l'++(ad m bl s'.y rest++R):=by
  intro bb hb hc
  exact⟨i,s1,l1,CO hc,by rw[hb],h1,⟨wF.k,wF.w,wF.y,by have:=wF.n;omega,wF.l⟩,rfl⟩
 refine Zx.ok (n:=false) ?_
 (repeat' first|refine Zx.bk 104 ?_|refine Zx.bk 20 ?_|constructor|exact ZQ|intro _)
 all_goals apply zL
 refine Vx.spec (fun B1 W1 S1 H=>GK hk h1 H) ?_
 rintro _ _ ⟨rfl,rfl⟩
 (repeat' first|refine Zx.bk 104 ?_|refine Zx.bk 20 ?_|constructor|exact ZQ|intro _)
 all_goals apply zL
 ·next he dN=>
  refine Vx.spec (fun B1 W1 S1 H=>Q8 hx wF h1 H) ?_
  rintro _ _ ⟨l2,rfl,h2,rfl⟩
  (repeat' first|refine Zx.bk 104 ?_|refine Zx.bk 20 ?_|constructor|exact ZQ|intro _)
  all_goals apply zL
  refine ih (i+1,s1.zD x o,l2) (n-1) (by omega) ⟨by dsimp only;omega,by dsimp only;omega,.inr (by dsimp only;omega),?_,h2,?_⟩
  ·have:=wF.V5 hx (by omega) h1
   rw[Int.add_assoc] at this
   exact this
  ·rw[←ha]
   obtain⟨k,rfl⟩:∃k,n=k+1:=⟨n-1,by omega⟩
   show _=nj.alone x o eo (k+1) i s1
   unfold nj.alone
   rw[if_pos ⟨he,dN⟩]
   cases k<;>rfl
 all_goals(
  refine Vx.spec (fun B1 W1 S1 H=>GK hk h1 H) ?_
  rintro _ _ ⟨rfl,rfl⟩
  (repeat' first|refine Zx.bk 104 ?_|refine Zx.bk 20 ?_|constructor|exact ZQ|intro _)
  all_goals apply zL
  all_goals first
   |exact⟨rfl,rfl,_,CQ _ (by first|exact(decide_eq_true (by assumption)).symm|exact(decide_eq_false (by assumption)).symm) (by omega),HQ⟩
   |skip)
theorem Bi (hx:x.ok)(ht:o.ok x→o.k=1→∃(L:List (List AV)) (c:List AV),aQ.sl tv 4 L∈ro∧L[o.tk.toNat]?=some c∧c[1]?=some (I o.prio))(hs:s.ok x o N L)(hN:0≤N∧N≤1000000000000)(hm:eo≤1000000)(h:bM x o tv hg q s.b s.σ l)(H:Cx B0 W S (l++(aj m vm s.y++R)) ro):
  aO EM (zF 34) [.ptr q 0,.ptr m 0,I eo] S fun u S'=>∃ab,(∃n s' l',(n,s')=nj.alone x o eo eo.toNat 0 s∧u=.cP [I n,B (decide (s'.σ.err≠14))]∧bM x o tv hg q s'.b s'.σ l'∧s'.ok x o (N+1000000) L∧ab=l'++(aj m vm s'.y++R))∧Cx B0 W S' ab ro:=by
 refine Vx.fm H rfl (b:=Tryz.a34) ?_
 (repeat' first|refine Zx.bk 47 ?_|refine Zx.bk 21 ?_|constructor|exact ZQ|intro _)
 all_goals apply zL
 refine Vx.inv (α:=Int×nj×List Own) (P:=fun a n=>n=(eo-a.1).toNat∧0≤a.1∧(a.1=0∨a.1≤eo)∧a.2.1.ok x o (N+a.1) L∧bM x o tv hg q a.2.1.b a.2.1.σ a.2.2∧nj.alone x o eo n a.1 a.2.1=nj.alone x o eo eo.toNat 0 s)
  (fun a=>[I a.1]) (fun a=>a.2.2++(aj m vm a.2.1.y++R)) ?_ (a0:=(0,s,l)) (n0:=eo.toNat) ⟨by omega,by omega,.inl rfl,by rw[Int.add_zero];exact hs,h,rfl⟩
 rintro⟨i,s1,l1⟩ n ⟨hn,Ob,yK,wF,h1,ha⟩ ih
 dsimp only at hn Ob yK wF h1 ha⊢
 have CO:(¬(s1.σ.err=14∧i<eo))→(i,s1)=nj.alone x o eo eo.toNat 0 s:=by
  intro hc
  rw[←ha]
  cases n with
  |zero=>rfl
  |succ n=>unfold nj.alone;rw[if_neg hc]
 have CQ:∀bb,bb=decide (s1.σ.err≠14)→(¬(s1.σ.err=14∧i<eo))→∃n s' l',(n,s')=nj.alone x o eo eo.toNat 0 s∧AV.cP [I i,B bb]=.cP [I n,B (decide (s'.σ.err≠14))]∧bM x o tv hg q s'.b s'.σ l'∧s'.ok x o (N+1000000) L∧l1++(aj m vm s1.y++R)=l'++(aj m vm s'.y++R):=by
  intro bb hb hc
  exact⟨i,s1,l1,CO hc,by rw[hb],h1,⟨wF.k,wF.w,wF.y,by have:=wF.n;omega,wF.l⟩,rfl⟩
 refine Zx.ok (n:=false) ?_
 (repeat' first|refine Zx.bk 47 ?_|refine Zx.bk 21 ?_|constructor|exact ZQ|intro _)
 all_goals apply zL
 refine Vx.spec (fun B1 W1 S1 H=>Cq h1 H) ?_
 rintro _ _ ⟨rfl,rfl⟩
 (repeat' first|refine Zx.bk 47 ?_|refine Zx.bk 21 ?_|constructor|exact ZQ|intro _)
 all_goals apply zL
 ·next he dN=>
  refine Vx.spec (fun B1 W1 S1 H=>Q9 hx wF (fun ho=>ht (wF.k ho)) h1 H) ?_
  rintro _ _ ⟨l2,rfl,h2,rfl⟩
  (repeat' first|refine Zx.bk 47 ?_|refine Zx.bk 21 ?_|constructor|exact ZQ|intro _)
  all_goals apply zL
  refine ih (i+1,s1.zD x o,l2) (n-1) (by omega) ⟨by dsimp only;omega,by dsimp only;omega,.inr (by dsimp only;omega),?_,h2,?_⟩
  ·have:=wF.V6 hx (by omega) h1
   rw[Int.add_assoc] at this
   exact this
  ·rw[←ha]
   obtain⟨k,rfl⟩:∃k,n=k+1:=⟨n-1,by omega⟩
   show _=nj.alone x o eo (k+1) i s1
   unfold nj.alone
   rw[if_pos ⟨he,dN⟩]
   cases k<;>rfl
 all_goals(
  refine Vx.spec (fun B1 W1 S1 H=>Cq h1 H) ?_
  rintro _ _ ⟨rfl,rfl⟩
  (repeat' first|refine Zx.bk 47 ?_|refine Zx.bk 21 ?_|constructor|exact ZQ|intro _)
  all_goals apply zL
  all_goals first
   |exact⟨rfl,rfl,_,CQ _ (by first|exact(decide_eq_true (by assumption)).symm|exact(decide_eq_false (by assumption)).symm) (by omega),HQ⟩
   |skip)
end
end
end Go.cY
