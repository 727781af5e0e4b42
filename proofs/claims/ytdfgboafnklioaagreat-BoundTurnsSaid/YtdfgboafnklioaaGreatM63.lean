/- Contracts. Conditions: in each theorem. -/
import Derived.Test.YtdfgboafnklioaaGreatM62
set_option linter.all false
set_option maxRecDepth 100000
set_option maxHeartbeats 4000000
namespace Go.cO
open Go.Proofs
section
variable{l lo:List Own}{q:Nat}{x:Me}
theorem Ik {s σ}(hs:s.ok)(hx:x.gd)(h:wC s q σ l):Ac x (σ.step s x).2:=by
 unfold Sk.ok at hs;cases h with
 |a=>exact .ld hx
 |b=>exact .ld hx
 |c hw hi hj=>exact .eL hx (sg am hw)
 |d=>exact .z
 |n=>exact .z
theorem yZ {s}{v:Int}{σ}(hs:s.ok)(hx:x.gd)(h:kK s v q σ l):Ac x (σ.step s v x).2:=by
 unfold Sk.ok at hs;cases h with
 |a=>exact .ld hx
 |@b w hv hw=>exact .st (by have:=fN (n:=s.size) (w:=w) am;unfold Me.ar;omega)
 |c hv hw=>exact .eL hx (sg am hw)
 |d=>exact .z
theorem OO {s σ}(hs:s.ok)(hx:x.gd)(h:yB s q σ l):Ac x (σ.step s x).2:=by
 unfold Sk.ok at hs;cases h with
 |a=>exact .ld hx
 |b hw hi=>exact .eL hx (sg am hw)
 |d=>exact .z
 |n=>exact .z
theorem Il {a σ}(hs:a.ok)(hx:x.gd)(h:nS a q σ l):Ac x (σ.step a x).2:=by
 cases h with
 |p h ho=>exact Ik hs.1 hx h
 |g=>exact .ld hx
 |w=>exact .ld hx
 |d=>exact .z
theorem Ku {a}{v:Int}{σ}(hs:a.ok)(hx:x.gd)(h:qU a v q σ l):Ac x (σ.step a v x).2:=by
 cases h with
 |l=>exact .ld hx
 |r=>exact .st (by unfold Me.ar;omega)
 |u hv h ho=>exact yZ hs.1 hx h
 |w=>exact .add
 |d=>exact .z
theorem Cu {e}{c:Int}{σ}(hx:x.gd)(h:wD e c q σ l):Ac x (σ.step e c x).2:=by
 cases h with
 |a=>exact .ld hx
 |b hc hp=>exact .st (by unfold Me.ar;omega)
 |c=>exact .ld hx
 |d=>exact .z
theorem rv {e}{c:Int}{σ}(h:mE e c q σ l):Ac x (σ.step e c x).2:=by
 cases h with
 |a=>exact .st (by unfold Me.ar;omega)
 |d=>exact .z
theorem OP {e}{c p:Int}{σ}(hx:x.gd)(h:yC e c p q σ l):Ac x (σ.step e c p x).2:=by
 cases h with
 |a=>exact .ld hx
 |b=>exact .ld hx
 |c hc hw hp=>exact .eL hx (by unfold Me.ar at*;omega)
 |d=>exact .z
theorem Im {b}{v:Int}{σ}(hs:b.ok)(hx:x.gd)(h:An b v q σ l):Ac x (σ.step b v x).2:=by
 cases h with
 |a=>exact .ld hx
 |b hk h ho=>exact yZ (Lb.kL hs hk.1 hk.2) hx h
 |d=>exact .z
theorem OQ {b}{c p:Int}{σ}(hs:b.ok)(hx:x.gd)(h:yD b c p q σ l):Ac x (σ.step b c p x).2:=by
 cases h with
 |v hp h ho h2=>exact OP hx h
 |t hp h ho=>exact OO (Lb.kL hs am am) hx h
 |l=>exact .ld hx
 |f hi hn hj h ho=>exact Ku hs.1 hx h
 |d=>exact .z
theorem Io {r}{v:Int}{σ}(hx:x.gd)(h:lu r v q σ l):Ac x (σ.step r v x).2:=by
 cases h with
 |a=>exact .ld hx
 |b=>exact .ld hx
 |@c t w hv ht hw=>exact .eL hx (by have:=mF (r:=r) (t:=t);unfold Me.ar;omega)
 |l=>exact .eL hx (by unfold Me.ar;omega)
 |h=>exact .eL hx (by unfold Me.ar;omega)
 |d=>exact .z
theorem Ip {r σ}(hx:x.gd)(h:j_ r q σ l):Ac x (σ.step r x).2:=by
 cases h with
 |a=>exact .ld hx
 |b=>exact .ld hx
 |d=>exact .z
theorem Kv {r}{h0:Int}{σ}(h:qV r h0 q σ l):Ac x (σ.step r h0 x).2:=by
 cases h with
 |a=>exact .st (by unfold Me.ar;omega)
 |b=>exact .st (by unfold Me.ar;omega)
 |d=>exact .z
theorem Kw {a e n:Int}{σ}(hn:0<=n/\n<=1099511627776)(hx:x.gd)(h:nT a e n q σ l):Ac x (σ.step a e n x).2:=by
 cases h with
 |a=>exact .ld hx
 |b=>exact .eL hx (by unfold Me.ar;omega)
 |d=>exact .z
theorem Kx {j σ}(hs:j.ok)(hx:x.gd)(h:kM j q σ l):Ac x (σ.step j x).2:=by
 cases h with
 |p h ho=>exact Ik hs.1 hx h
 |l=>exact .ld hx
 |s=>exact .eL hx (by unfold Me.ar jw;omega)
 |d=>exact .z
 |n=>exact .z
theorem Ky {j}{i:Int}{σ}(hs:j.ok)(hx:x.gd)(h:o6 j i q σ l):Ac x (σ.step j i x).2:=by
 cases h with
 |l=>exact .ld hx
 |s hi hw h=>exact .eL hx (EV am am hw)
 |p hi h ho=>exact yZ hs.1 hx h
 |d=>exact .z
theorem Kz {j}{i fr to c:Int}{σ}(ht:0<=to/\to<6)(hc:0<=c/\c<64)(hx:x.gd)(h:qW j i fr to c q σ l):Ac x (σ.step j i fr to c x).2:=by
 cases h with
 |l=>exact .ld hx
 |s hi hw=>exact .eL hx (EV am (by split<;>omega) hw)
 |d=>exact .z
theorem Cv {j}{i k:Int}{σ}(hk:Me.ar k)(h:wE j i k q σ l):Ac x (σ.step j i k x).2:=by
 cases h with
 |a=>exact .st hk
 |d=>exact .z
theorem vP {j}{i:Int}{σ}(hx:x.gd)(h:je j i q σ l):Ac x (σ.stepOf j i x).2:=by
 cases h with
 |a=>exact .ld hx
 |d=>exact .z
theorem OS {t}{i g key aq high:Int}{σ}(hj:0<=aq/\aq<=65534/\0<=high/\high<=4)(hk:Me.ar key)(h:Av t i g key aq high q σ l):Ac x (σ.step t (aD i g) key aq high x).2:=by
 cases h with
 |@s k SP=>
  match k with
  |0=>exact .st hk
  |1=>exact .st (by unfold Me.ar;omega)
  |2=>exact .st (by unfold Me.ar;omega)
  |k+3=>exact .st (by unfold Me.ar;omega)
 |d=>exact .z
theorem tV {t}{key b:Int}{σ}(hx:x.gd)(h:b9 t key q b σ l):Ac x (σ.step t key x).2:=by
 cases h with
 |a=>exact .ld hx
 |b=>exact .ld hx
 |c h hc hi hw hm=>exact .eL hx (by unfold Me.ar at*;omega)
 |e=>exact .ld hx
 |d=>exact .z
theorem OT {t}{i g key high b:Int}{σ}(hs:t.ok)(hr:t.rf i g)(hx:x.gd)(h:lz t i g key high q b σ l):Ac x (σ.step t (aD i g) key high x).2:=by
 have TM:=lj hr.1;cases h with
 |f h ho=>exact tV hx h
 |s hl h=>cases h with|d hk hT hL=>exact .st (gr.DI hT)
 |e h=>exact .eL hx TM
 |l=>exact .ld hx
 |t hl hw h=>cases h with|d hk hT hL=>exact .eL hx (gr.DI hT)
 |k hl h=>exact .eL hx TM
 |g hl h ho=>exact tV hx h
 |o=>exact .ld hx
 |q=>exact .ld hx
 |c h ho=>exact tV hx h
 |r=>exact .add
 |w h ho=>show Ac x (iy.step t.l (t.ix _) _ x).2;rw[Tw.xe hr];exact Im hs.2.2.2.2 hx h
 |d=>exact .z
theorem TQ {t}{b:Int}{σ}(hs:t.ok)(hx:x.gd)(h:vY t q b σ l):Ac x (σ.step t false x).2:=by
 cases h with
 |a=>exact .ld hx
 |b=>exact .ld hx
 |c ha hw hm=>exact .eL hx (by unfold Me.ar at*;omega)
 |m=>exact .ld hx
 |n=>exact .ld hx
 |o h hv hl hw hm=>exact .eL hx (by unfold Me.ar at*;omega)
 |k=>exact .ld hx
 |h h hw hm=>exact .eL hx (by unfold Me.ar at*;omega)
 |r=>exact .ld hx
 |j=>exact .ld hx
 |f h hk hF ho=>exact tV hx hF
 |g=>exact .add
 |w hi hk h ho=>exact Im hs.2.2.2.2 hx h
 |d=>exact .z
theorem TR {t}{b:Int}{σ}(hx:x.gd)(h:Dq t q b σ l):Ac x (σ.step t true x).2:=by
 cases h with
 |a=>exact .ld hx
 |b=>exact .ld hx
 |c ha hw hm=>exact .eL hx (by unfold Me.ar at*;omega)
 |r=>exact .ld hx
 |j=>exact .ld hx
 |d=>exact .z
theorem Iq {t}{c key aq high b:Int}{σ}(hs:t.ok)(tQ:(0<=aq/\aq<=65534)/\0<=high/\high<=4)(hk:Me.ar key)(hx:x.gd)(h:iX t c key aq high q b σ l):Ac x (σ.step t c key aq high x).2:=by
 cases h with
 |p0=>exact .ld hx
 |p1 hn h ho=>exact Cu hx h
 |a0=>exact .ld hx
 |a1 hn hp h ho=>exact Il hs.2.2.2.2.1 hx h
 |c0=>exact .ld hx
 |c1 hn hp h ho=>exact OQ hs.2.2.2.2 hx h
 |l0=>exact .st (by unfold Me.ar;omega)
 |l1 hn h ho=>exact rv h
 |y0=>exact .st hk
 |y1 hr h=>exact OS am hk h
 |i0=>exact .ld hx
 |i1 hr h ho=>exact OT hs hr hx h
 |u0=>exact .st (by unfold Me.ar;omega)
 |u1 h ho=>exact rv h
 |d=>exact .z
theorem TT {t}{c b:Int}{σ}(hs:t.ok)(hx:x.gd)(h:AA t c q b σ l):Ac x (σ.step t c false x).2:=by
 cases h with
 |p0=>exact .ld hx
 |p1 h ho=>exact Cu hx h
 |c0=>exact .ld hx
 |c1 h ho=>exact TQ hs hx h
 |u0=>exact .st (by unfold Me.ar;omega)
 |u1 h ho=>exact rv h
 |d=>exact .z
theorem TU {t}{c b:Int}{σ}(hs:t.ok)(hx:x.gd)(h:B_ t c q b σ l):Ac x (σ.step t c true x).2:=by
 cases h with
 |p0=>exact .ld hx
 |p1 h ho=>exact Cu hx h
 |c0=>exact .ld hx
 |c1 h ho=>exact TR hx h
 |u0=>exact .st (by unfold Me.ar;omega)
 |u1 h ho=>exact rv h
 |d=>exact .z
theorem OU {t r}{c b:Int}{σ}(hs:t.ok)(hx:x.gd)(h:qZ t r c q b σ l):Ac x (σ.step t r c x).2:=by
 cases h with
 |k h ho=>exact TU hs hx h
 |r0=>exact .ld hx
 |r1=>exact .ld hx
 |f=>exact .st (by unfold Me.ar;omega)
 |d=>exact .z
theorem KA {r}{v:Int}{σ}(hx:x.gd)(h:o7 r v q σ l):Ac x (σ.step r v x).2:=by
 cases h with
 |s h ho=>exact Io hx h
 |d=>exact .z
end
section
variable{q vx vn vt vw vb:Nat}{cl:List AV}{lo l:List Own}{x:Xc}{y:Me}{i c w n ev now au high:Int}{r:Rn}{o:Od}{b:Int}
theorem TV {σ}(hn:0<=now/\now<=1099511627776)(hy:y.gd)(h:xk x vx vn vt vw n ev now q cl σ lo):Ac y (σ.step (x.cn+n) ev now y).2:=by
 cases h with
 |f=>exact .ld hy
 |r dc h ho=>exact Kw hn hy h
theorem TW {σ}(hj:x.j.ok)(hy:y.gd)(h:ra x vx q cl σ lo):Ac y (σ.step x.j y).2:=by
 cases h with
 |f=>exact .ld hy
 |r dc h ho=>exact Kx hj hy h
theorem TX {σ}(hw:Me.ar w)(h:xh x i w vx q cl σ lo):Ac y (σ.step x.j i w y).2:=by
 cases h with
 |f=>exact .st hw
 |r dc h ho=>exact Cv hw h
theorem TY {σ}(hw:Me.ar w)(h:xi x i w vx q cl σ lo):Ac y (σ.step x.j i w y).2:=by
 cases h with
 |f=>exact .st hw
 |r dc h ho=>exact Cv hw h
theorem TZ {σ}(h:xj x i w vx q cl σ lo):Ac y (σ.step x.j i ((w+1)%18446744073709551616) y).2:=by
 cases h with
 |f=>exact .st (by unfold Me.ar;omega)
 |r dc h ho=>exact Cv (by unfold Me.ar;omega) h
theorem T0 {σ}(hy:y.gd)(h:xl x vx vn n i q cl σ lo):Ac y (σ.step (x.ring (n%x.aJ)) i y).2:=by
 cases h with
 |f=>exact .ld hy
 |r dc h ho=>exact KA hy h
theorem L1 {σ}(hj:x.j.ok)(hy:y.gd)(h:vz x i q cl σ lo):Ac y (σ.step x.j i y).2:=by
 cases h with
 |f=>exact .ld hy
 |r dc h ho=>exact Ky hj hy h
theorem OV {σ}(hy:y.gd)(h:mG x r q cl σ lo):Ac y (σ.step r y).2:=by
 cases h with
 |f=>exact .ld hy
 |r dc h ho=>exact Ip hy h
theorem YX {σ}(hy:y.gd)(h:Ey x i q cl σ lo):Ac y (σ.stepOf x.j i y).2:=by
 cases h with
 |f=>exact .ld hy
 |r dc h ho=>exact vP hy h
theorem T1 {σ}(hy:y.gd)(h:q8 x vx i q cl σ lo):Ac y (σ.stepOf x.j i y).2:=by
 cases h with
 |f=>exact .ld hy
 |r dc h ho=>exact vP hy h
theorem T3 {σ}(hy:y.gd)(h:q9 x vx i q cl σ lo):Ac y (σ.stepOf x.j i y).2:=by
 cases h with
 |f=>exact .ld hy
 |r dc h ho=>exact vP hy h
theorem xB {σ}{fr to:Int}(ht:0<=to/\to<6)(hc:0<=c/\c<64)(hy:y.gd)(h:nW x i fr to c q cl σ lo):Ac y (σ.step x.j i fr to c y).2:=by
 cases h with
 |f=>exact .ld hy
 |r dc h ho=>exact Kz ht hc hy h
theorem T4 {σ}(hs:x.t.ok)(tQ:(0<=i/\i<=65534)/\0<=high/\high<=4)(hk:Me.ar w)(hy:y.gd)(h:xm x c i w high vx q cl σ lo):Ac y (σ.step x.t c w i high y).2:=by
 cases h with
 |f=>exact .ld hy
 |r dc h ho=>exact Iq hs tQ hk hy h
theorem T5 {σ}(hs:x.t.ok)(tQ:(0<=i/\i<=65534)/\0<=high/\high<=4)(hy:y.gd)(h:xn x c i w high vx q cl σ lo):Ac y (σ.step x.t c ((w+1)%18446744073709551616) i high y).2:=by
 cases h with
 |f=>exact .ld hy
 |r dc h ho=>exact Iq hs tQ (by unfold Me.ar;omega) hy h
theorem OW {σ}(h:rV x r au vb vx q cl σ lo):Ac y (σ.step r au y).2:=by
 cases h with
 |f=>exact .st (by unfold Me.ar;omega)
 |r dc h ho=>exact Kv h
theorem YY {σ}(hs:x.t.ok)(hy:y.gd)(h:Ev x c q cl σ lo):Ac y (σ.step x.t x.r c y).2:=by
 cases h with
 |f=>exact .ld hy
 |r dc h ho=>exact OU hs hy h
theorem T6 {σ}(hs:x.t.ok)(hy:y.gd)(h:xo x c vx q cl σ lo):Ac y (σ.step x.t c false y).2:=by
 cases h with
 |f=>exact .ld hy
 |r dc h ho=>exact TT hs hy h
theorem T7 {σ}(hk:o.ok x)(hy:y.gd)(h:eP x o q b σ l)(hw:σ.wd):(σ.step x o y).1.wd:=by
 cases h with
 |@r1 z=>
  show(an.oY x o _).wd;generalize(z.step _ _ _ y).1=z';cases z' with
  |d e=>exact bC (P:=an.wd) trivial trivial
  |_=>trivial
 |@r2 z=>
  show(an.oZ x o _).wd;generalize(z.step x.j y).1=z';cases z' with
  |d i e=>exact bC (P:=an.wd) trivial trivial
  |_=>trivial
 |r3 hv p_ hi tu t=>
  have hp:=(hk.2.2 p_).2.1;show an.wd (if _ then _ else _);split
  .trivial
  .next hn=>show Me.ar (kJ o.prio _);unfold kJ Me.ar;omega
 |r4=>exact bC (P:=an.wd) trivial hw
 |@r5 z i w=>
  show(an.o0 x o _ _ _).wd;generalize(z.step _ _ y).1=z';cases z' with
  |d e=>exact bC (P:=an.wd) trivial trivial
  |_=>trivial
 |r6=>exact bC (P:=an.wd) trivial trivial
 |@t1 z=>
  show(an.lX x o _).wd;generalize(z.step _ y).1=z';cases z' with
  |d h v e=>exact bC (P:=an.wd) (bC (P:=an.wd) trivial trivial) trivial
  |_=>trivial
 |@t2 z=>
  show(an.nR x o _ _ _).wd;generalize(z.stepOf _ _ y).1=z';cases z' with
  |d w e=>exact bC (P:=an.wd) trivial trivial
  |_=>trivial
 |t3=>exact bC (P:=an.wd) trivial trivial
 |@t4 z=>
  show(an.o4 x o _ _ _ _).wd;generalize(z.step _ _ _ _ _ y).1=z';cases z' with
  |d e=>exact bC (P:=an.wd) trivial trivial
  |_=>trivial
 |t5=>exact bC (P:=an.wd) trivial trivial
 |t6=>exact bC (P:=an.wd) trivial trivial
 |oX=>exact bC (P:=an.wd) trivial trivial
 |p1=>exact bC (P:=an.wd) trivial trivial
 |@p2 z=>
  have:=TP (t:=x.t) (look:=false) (c:=o.c) hy (show z.wd from hw);show(an.jl x o _).wd;generalize(z.step _ _ _ y).1=z' at this;cases z' with
  |d key aq e=>exact bC (P:=an.wd) (bC (P:=an.wd) trivial this) (bC (P:=an.wd) trivial trivial)
  |_=>exact this
 |p3=>exact bC (P:=an.wd) hw hw
 |p4=>exact hw
 |p5=>trivial
 |s1=>exact bC (P:=an.wd) trivial trivial
 |s2=>trivial
 |s3=>exact bC (P:=an.wd) trivial trivial
 |@s4 z i cl lo L g sv uv UL gu vx vp key au hv hi h tu t=>
  show(an.lY x o _ _).wd;cases h with
  |f=>exact bC (P:=an.wd) trivial (bC (P:=an.wd) trivial (Me.aj hy _))
  |r dc h ho=>
   cases h with
   |a=>exact bC (P:=an.wd) trivial (bC (P:=an.wd) trivial (Me.aj hy _))
   |d=>cases ho
 |s5=>exact bC (P:=an.wd) hw hw
 |s6=>exact hw
 |s7=>exact bC (P:=an.wd) hw hw
 |@s8 z i w=>
  show(an.o5 x o _ _ _).wd;generalize(z.step _ _ _ _ _ y).1=z';cases z' with
  |d e=>exact bC (P:=an.wd) trivial hw
  |_=>exact hw
 |s9=>trivial
 |b1=>exact bC (P:=an.wd) hw hw
 |b2=>exact bC (P:=an.wd) hw hw
 |b3=>trivial
 |b4=>trivial
 |c1=>exact bC (P:=an.wd) trivial trivial
 |@c2 z=>
  show(an.qR x o _ _).wd;generalize(z.stepOf _ _ y).1=z';cases z'<;>trivial
 |c3=>exact bC (P:=an.wd) trivial trivial
 |c4=>trivial
 |c5=>trivial
 |c6=>exact bC (P:=an.wd) trivial trivial
 |d=>trivial
theorem T8 {σ}(hx:x.ok)(hk:o.ok x)(hy:y.gd)(h:eP x o q b σ l)(hw:σ.wd):Ac y (σ.step x o y).2:=by
 have uD:=hx;unfold Xc.ok Tw.ok Lb.ok Ep.ok at uD;have Lc:=hk;unfold Od.ok at Lc;have hW:∀w,Me.ar ((w+1)%18446744073709551616):=λw=>by unfold Me.ar;omega
 cases h with
 |r1 hv p_ h t=>exact TV (by have:=(hk.2.2 p_).2.2;omega) hy h
 |r2 hv p_ h t=>exact TW hx.2.1 hy h
 |r3=>exact .add
 |r4 hv p_ hi h tu t=>exact TX hw h
 |r5 hv p_ hi h tu t=>exact T0 hy h
 |r6 hv he h t=>exact L1 hx.2.1 hy h
 |t1 hv h tu t=>exact OV hy h
 |t2 hv hh hi h tu t=>exact T1 hy h
 |t3 hv hh hi dt h tu t=>exact xB am am hy h
 |t4 hv hh hi dt h tu t=>exact T4 hx.1 am dt.1 hy h
 |t5 hv he h t=>exact xB am am hy h
 |t6 hv h t=>exact OW h
 |oX hv h t=>exact YY hx.1 hy h
 |p1=>exact .ld hy
 |p2 hv h t=>exact T6 hx.1 hy h
 |p3 hv hi h t=>exact xB am am hy h
 |p4 hv hi t=>exact .st (by unfold Jb.ok Sk.ok at uD;unfold Me.ar;omega)
 |p5=>exact .st hw
 |s1=>exact .ld hy
 |s2=>exact .st w0
 |s3=>exact .ld hy
 |s4 hv hi h tu t=>exact T3 hy h
 |s5 hv hi dt h tu t=>exact xB am am hy h
 |s6=>exact .st (by unfold Me.ar;omega)
 |s7 hv hi dt h tu t=>exact TZ h
 |s8 hv hi dt h tu t=>exact T5 hx.1 am hy h
 |s9=>exact .st w0
 |b1 hv hi he h t=>exact TY hw h
 |b2 hv he h t=>exact xB am am hy h
 |b3=>exact .st hw
 |b4=>exact .st (by unfold Me.ar;omega)
 |c1=>exact .ld hy
 |c2 hv hi h t=>exact YX hy h
 |c3 hv hi h t=>exact xB am am hy h
 |c4=>exact .st w0
 |c5=>exact .st (by unfold Me.ar;omega)
 |c6 hv h t=>exact L1 hx.2.1 hy h
 |d=>exact .z
end
structure i4 where
 σ:an
 y:Me
 b:Int
def i4.mb (x:Xc)(o:Od)(s:i4):i4:=⟨(s.σ.step x o s.y).1,(s.σ.step x o s.y).2,if s.σ.over then s.b else s.σ.cM x o⟩
def i4.alone (x:Xc)(o:Od)(most:Int):Nat->Int->i4->Int×i4
 |0,i,s=>(i,s)
 |n+1,i,s=>if s.σ.err=14/\i<most then alone x o most n (i+1) (s.mb x o) else(i,s)
structure i4.ok (x:Xc)(o:Od)(s:i4)(N:Int)(L:Nat):Prop where
 k:s.σ.over=false->o.ok x
 w:s.σ.wd
 y:s.y.gd
 n:s.y.n<=N
 l:s.y.ws.length=L
section
variable{B0 S:AH}{W:List Nat}{R l:List Own}{ro:List aB}{m bl q:Nat}{rest:List AV}{x:Xc}{o:Od}{vm tv:AV}{hg N:Int}{s:i4}{L:Nat}
theorem iD {σ:an}(h:σ.over=true):∃i w e n,σ=.d i w e n:=by
 cases σ<;>first|(cases h;done)|exact⟨_,_,_,_,rfl⟩
theorem T9 (hx:x.ok)(hs:s.ok x o N L)(h:eP x o q s.b s.σ l)(H:Cx B0 W S (l++(ad m bl s.y rest++R)) ro):
  aG EM (zF 20) [.ptr q 0,.ptr m 0] S λu S'=>∃ab,(∃l',u=B (s.mb x o).σ.over/\eP x o q (s.mb x o).b (s.mb x o).σ l'/\ab=l'++(ad m bl (s.mb x o).y rest++R))/\Cx B0 W S' ab ro:=by
 obtain⟨σ,y,b⟩:=s;cases ho:σ.over with
 |false=>
  refine aw (NK hx (hs.k ho) hs.y h H) λu S' ⟨ab,⟨l',⟨h1,h2⟩,h3⟩,h4⟩=>⟨ab,⟨l',h2,h1,h3⟩,h4⟩
 |true=>
  obtain⟨i,w,e,n,rfl⟩:=iD ho;cases h with
  |d hs2 hw=>
   simp only[Xc.row,Xc.cs,Tw.cs,Lb.cs,Ar.cs,Ep.cs,lA,lB,lC] at H;refine Vx.fm H rfl ?_;cases hs2 with
   |n=>
    refine z1 ?_;exact⟨rfl,rfl,_,⟨_,rfl,.d .n hw,rfl⟩,by simp only[Xc.row,Xc.cs,Tw.cs,Lb.cs,Ar.cs,Ep.cs,lA,lB,lC];exact HQ⟩
   |s h1 h2 h3=>refine z1 ?_;exact⟨rfl,rfl,_,⟨_,rfl,.d (.s h1 h2 h3) hw,rfl⟩,by simp only[Xc.row,Xc.cs,Tw.cs,Lb.cs,Ar.cs,Ep.cs,lA,lB,lC];exact HQ⟩
theorem T_ (hx:x.ok)(hs:s.ok x o N L)(ht:s.σ.over=false->o.k=1->∃(L:List (List AV)) (c:List AV),aB.sl tv 4 L∈ro/\L[o.tk.toNat]?=some c/\c[1]?=some (I o.prio))(h:bU x o tv hg q s.b s.σ l)(H:Cx B0 W S (l++(ai m vm s.y++R)) ro):
  aG EM (zF 21) [.ptr q 0,.ptr m 0] S λu S'=>∃ab,(∃l',u=B (s.mb x o).σ.over/\bU x o tv hg q (s.mb x o).b (s.mb x o).σ l'/\ab=l'++(ai m vm (s.mb x o).y++R))/\Cx B0 W S' ab ro:=by
 obtain⟨σ,y,b⟩:=s;cases ho:σ.over with
 |false=>
  refine aw (Kl hx (hs.k ho) hs.y (ht ho) h H) λu S' ⟨ab,⟨l',⟨h1,h2⟩,h3⟩,h4⟩=>⟨ab,⟨l',h2,h1,h3⟩,h4⟩
 |true=>
  obtain⟨i,w,e,n,rfl⟩:=iD ho;cases h with
  |d hw=>simp only[Xc.cf,Xc.cs,Tw.cs,Lb.cs,Ar.cs,Ep.cs,lA,lB,lC] at H;refine y1 H rfl ?_;exact⟨rfl,rfl,_,⟨_,rfl,.d hw,rfl⟩,by simp only[Xc.cf,Xc.cs,Tw.cs,Lb.cs,Ar.cs,Ep.cs,lA,lB,lC];exact HQ⟩
theorem xC {σ:an}{y:Me}(h:σ.over=true):(σ.step x o y)=(σ,y):=by obtain⟨i,w,e,n,rfl⟩:=iD h;rfl
theorem i4.ok.YZ (hs:s.ok x o N L)(hx:x.ok)(hN:N<4611686018427387904)(h:eP x o q s.b s.σ l):(s.mb x o).ok x o (N+1) L:=by
 obtain⟨σ,y,b⟩:=s;cases ho:σ.over with
 |true=>
  have e:=xC (x:=x) (o:=o) (y:=y) ho;refine⟨?_,?_,?_,?_,?_⟩<;>(show _;unfold i4.mb;dsimp only;rw[e])
  .exact hs.k
  .exact hs.w
  .exact hs.y
  .have:=hs.n;dsimp only at this⊢;omega
  .exact hs.l
 |false=>have hk:=hs.k ho;have ha:=T8 hx hk hs.y h hs.w;have hn:=hs.n;have hg:=ha.gd hs.y am;exact⟨λ_=>hk,T7 hk hs.y h hs.w,hg.1,by have:=hg.2.1;show _<=_;unfold i4.mb;dsimp only at this hn⊢;omega,hg.2.2.trans hs.l⟩
theorem i4.ok.Y0 (hs:s.ok x o N L)(hx:x.ok)(hN:N<4611686018427387904)(h:bU x o tv hg q s.b s.σ l):(s.mb x o).ok x o (N+1) L:=by
 obtain⟨σ,y,b⟩:=s;cases ho:σ.over with
 |true=>
  have e:=xC (x:=x) (o:=o) (y:=y) ho;refine⟨?_,?_,?_,?_,?_⟩<;>(show _;unfold i4.mb;dsimp only;rw[e])
  .exact hs.k
  .exact hs.w
  .exact hs.y
  .have:=hs.n;dsimp only at this⊢;omega
  .exact hs.l
 |false=>have hk:=hs.k ho;have ha:=YW hx hk hs.y h hs.w;have hn:=hs.n;have hg:=ha.gd hs.y am;exact⟨λ_=>hk,YV hk hs.y h hs.w,hg.1,by have:=hg.2.1;show _<=_;unfold i4.mb;dsimp only at this hn⊢;omega,hg.2.2.trans hs.l⟩
end
section
variable{M:cQ}{ro:List aB}{Φ:gn}{K:List Kf}{own:List Own}
theorem Vx.inv {α:Type}{body outs}(P:α->Nat->Prop)(vs:α->List AV)(ow:α->List Own)
  (hs:∀a n,P a n->(∀a' n',n'<n->P a' n'->Vx M (.ret .normal (vs a')) (.loop body outs::K) (ow a') ro Φ)->Vx M (body (vs a)) (.loop body outs::K) (ow a) ro Φ)
  {a0} {n0:Nat} (h0:P a0 n0):Vx M (.loop (vs a0) body outs) K (ow a0) ro Φ:=by
 have key:∀n a,P a n->Vx M (body (vs a)) (.loop body outs::K) (ow a) ro Φ:=by
  intro n;induction n using Nat.strongRecOn with
  |ind n ih=>exact λa h=>hs a n h λa' n' hn h'=>Vx.Qj (ih n' hn a' h')
 exact Vx.loop (key n0 a0 h0)
theorem Zx.dK (f:Nat){args k}(h:bL (Vx M (.call (.fn (.func f) [] []) args k) K own ro Φ)):Zx M false (.call (.fn (.func f) [] []) args k) K own ro Φ:=.z h
end
section
variable{B0 S:AH}{W:List Nat}{R l:List Own}{ro:List aB}{m bl q:Nat}{rest:List AV}{x:Xc}{o:Od}{vm tv:AV}{hg N most:Int}{s:i4}{L:Nat}
end
end Go.cO
