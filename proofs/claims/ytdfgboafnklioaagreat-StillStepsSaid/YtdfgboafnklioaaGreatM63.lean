/- Contracts. Conditions: in each theorem. -/
import Derived.Test.YtdfgboafnklioaaGreatM62
set_option linter.all false
set_option maxRecDepth 100000
set_option maxHeartbeats 4000000
namespace Go.cI
open Go.Proofs
section
variable{l lo:List Own}{q:Nat}{x:Me}
theorem Il {s σ}(hs:s.ok)(hx:x.gd)(h:wR s q σ l):Ac x (σ.step s x).2:=by
 unfold Sk.ok at hs;cases h with
 |a=>exact .ld hx
 |b=>exact .ld hx
 |c hw hi hj=>exact .ez hx (r_ am hw)
 |d=>exact .z
 |n=>exact .z
theorem y_ {s}{v:Int}{σ}(hs:s.ok)(hx:x.gd)(h:kb s v q σ l):Ac x (σ.step s v x).2:=by
 unfold Sk.ok at hs;cases h with
 |a=>exact .ld hx
 |@b w hv hw=>exact .st (by have:=fk (n:=s.size) (w:=w) am;unfold Me.au;omega)
 |c hv hw=>exact .ez hx (r_ am hw)
 |d=>exact .z
theorem OV {s σ}(hs:s.ok)(hx:x.gd)(h:yG s q σ l):Ac x (σ.step s x).2:=by
 unfold Sk.ok at hs;cases h with
 |a=>exact .ld hx
 |b hw hi=>exact .ez hx (r_ am hw)
 |d=>exact .z
 |n=>exact .z
theorem Im {a σ}(hs:a.ok)(hx:x.gd)(h:nC a q σ l):Ac x (σ.step a x).2:=by
 cases h with
 |p h ho=>exact Il hs.1 hx h
 |g=>exact .ld hx
 |w=>exact .ld hx
 |d=>exact .z
theorem KA {a}{v:Int}{σ}(hs:a.ok)(hx:x.gd)(h:qM a v q σ l):Ac x (σ.step a v x).2:=by
 cases h with
 |l=>exact .ld hx
 |r=>exact .st (by unfold Me.au;omega)
 |u hv h ho=>exact y_ hs.1 hx h
 |w=>exact .add
 |d=>exact .z
theorem CH {e}{c:Int}{σ}(hx:x.gd)(h:wS e c q σ l):Ac x (σ.step e c x).2:=by
 cases h with
 |a=>exact .ld hx
 |b hc hp=>exact .st (by unfold Me.au;omega)
 |c=>exact .ld hx
 |d=>exact .z
theorem rk {e}{c:Int}{σ}(h:mg e c q σ l):Ac x (σ.step e c x).2:=by
 cases h with
 |a=>exact .st (by unfold Me.au;omega)
 |d=>exact .z
theorem OW {e}{c p:Int}{σ}(hx:x.gd)(h:yH e c p q σ l):Ac x (σ.step e c p x).2:=by
 cases h with
 |a=>exact .ld hx
 |b=>exact .ld hx
 |c hc hw hp=>exact .ez hx (by unfold Me.au at*;omega)
 |d=>exact .z
theorem Io {b}{v:Int}{σ}(hs:b.ok)(hx:x.gd)(h:AG b v q σ l):Ac x (σ.step b v x).2:=by
 cases h with
 |a=>exact .ld hx
 |b hk h ho=>exact y_ (Lb.ke hs hk.1 hk.2) hx h
 |d=>exact .z
theorem OX {b}{c p:Int}{σ}(hs:b.ok)(hx:x.gd)(h:yI b c p q σ l):Ac x (σ.step b c p x).2:=by
 cases h with
 |v hp h ho h2=>exact OW hx h
 |t hp h ho=>exact OV (Lb.ke hs am am) hx h
 |l=>exact .ld hx
 |f hi hn hj h ho=>exact KA hs.1 hx h
 |d=>exact .z
theorem Ip {r}{v:Int}{σ}(hx:x.gd)(h:kK r v q σ l):Ac x (σ.step r v x).2:=by
 cases h with
 |a=>exact .ld hx
 |b=>exact .ld hx
 |@c t w hv ht hw=>exact .ez hx (by have:=mh (r:=r) (t:=t);unfold Me.au;omega)
 |l=>exact .ez hx (by unfold Me.au;omega)
 |h=>exact .ez hx (by unfold Me.au;omega)
 |d=>exact .z
theorem Iq {r σ}(hx:x.gd)(h:jB r q σ l):Ac x (σ.step r x).2:=by
 cases h with
 |a=>exact .ld hx
 |b=>exact .ld hx
 |d=>exact .z
theorem KB {r}{h0:Int}{σ}(h:qN r h0 q σ l):Ac x (σ.step r h0 x).2:=by
 cases h with
 |a=>exact .st (by unfold Me.au;omega)
 |b=>exact .st (by unfold Me.au;omega)
 |d=>exact .z
theorem KC {a e n:Int}{σ}(hn:0<=n/\n<=1099511627776)(hx:x.gd)(h:nD a e n q σ l):Ac x (σ.step a e n x).2:=by
 cases h with
 |a=>exact .ld hx
 |b=>exact .ez hx (by unfold Me.au;omega)
 |d=>exact .z
theorem KE {j σ}(hs:j.ok)(hx:x.gd)(h:kf j q σ l):Ac x (σ.step j x).2:=by
 cases h with
 |p h ho=>exact Il hs.1 hx h
 |l=>exact .ld hx
 |s=>exact .ez hx (by unfold Me.au jw;omega)
 |d=>exact .z
 |n=>exact .z
theorem KF {j}{i:Int}{σ}(hs:j.ok)(hx:x.gd)(h:oF j i q σ l):Ac x (σ.step j i x).2:=by
 cases h with
 |l=>exact .ld hx
 |s hi hw h=>exact .ez hx (E3 am am hw)
 |p hi h ho=>exact y_ hs.1 hx h
 |d=>exact .z
theorem KG {j}{i fr to c:Int}{σ}(ht:0<=to/\to<6)(hc:0<=c/\c<64)(hx:x.gd)(h:qO j i fr to c q σ l):Ac x (σ.step j i fr to c x).2:=by
 cases h with
 |l=>exact .ld hx
 |s hi hw=>exact .ez hx (E3 am (by split<;>omega) hw)
 |d=>exact .z
theorem CI {j}{i k:Int}{σ}(hk:Me.au k)(h:wT j i k q σ l):Ac x (σ.step j i k x).2:=by
 cases h with
 |a=>exact .st hk
 |d=>exact .z
theorem vY {j}{i:Int}{σ}(hx:x.gd)(h:iL j i q σ l):Ac x (σ.stepOf j i x).2:=by
 cases h with
 |a=>exact .ld hx
 |d=>exact .z
theorem OY {t}{i g key aq high:Int}{σ}(hj:0<=aq/\aq<=65534/\0<=high/\high<=4)(hk:Me.au key)(h:AQ t i g key aq high q σ l):Ac x (σ.step t (aE i g) key aq high x).2:=by
 cases h with
 |@s k SH=>
  match k with
  |0=>exact .st hk
  |1=>exact .st (by unfold Me.au;omega)
  |2=>exact .st (by unfold Me.au;omega)
  |k+3=>exact .st (by unfold Me.au;omega)
 |d=>exact .z
theorem tZ {t}{key b:Int}{σ}(hx:x.gd)(h:bX t key q b σ l):Ac x (σ.step t key x).2:=by
 cases h with
 |a=>exact .ld hx
 |b=>exact .ld hx
 |c h hc hi hw hm=>exact .ez hx (by unfold Me.au at*;omega)
 |e=>exact .ld hx
 |d=>exact .z
theorem OZ {t}{i g key high b:Int}{σ}(hs:t.ok)(hr:t.rf i g)(hx:x.gd)(h:kM t i g key high q b σ l):Ac x (σ.step t (aE i g) key high x).2:=by
 have I8:=kI hr.1;cases h with
 |f h ho=>exact tZ hx h
 |s hl h=>cases h with|d hk hT hL=>exact .st (fL.DP hT)
 |e h=>exact .ez hx I8
 |l=>exact .ld hx
 |t hl hw h=>cases h with|d hk hT hL=>exact .ez hx (fL.DP hT)
 |k hl h=>exact .ez hx I8
 |g hl h ho=>exact tZ hx h
 |o=>exact .ld hx
 |q=>exact .ld hx
 |c h ho=>exact tZ hx h
 |r=>exact .add
 |w h ho=>show Ac x (gS.step t.l (t.ix _) _ x).2;rw[Tw.xu hr];exact Io hs.2.2.2.2 hx h
 |d=>exact .z
theorem TF {t}{b:Int}{σ}(hs:t.ok)(hx:x.gd)(h:wt t q b σ l):Ac x (σ.step t false x).2:=by
 cases h with
 |a=>exact .ld hx
 |b=>exact .ld hx
 |c ha hw hm=>exact .ez hx (by unfold Me.au at*;omega)
 |m=>exact .ld hx
 |n=>exact .ld hx
 |o h hv hl hw hm=>exact .ez hx (by unfold Me.au at*;omega)
 |k=>exact .ld hx
 |h h hw hm=>exact .ez hx (by unfold Me.au at*;omega)
 |r=>exact .ld hx
 |j=>exact .ld hx
 |f h hk hF ho=>exact tZ hx hF
 |g=>exact .add
 |w hi hk h ho=>exact Io hs.2.2.2.2 hx h
 |d=>exact .z
theorem TG {t}{b:Int}{σ}(hx:x.gd)(h:Dw t q b σ l):Ac x (σ.step t true x).2:=by
 cases h with
 |a=>exact .ld hx
 |b=>exact .ld hx
 |c ha hw hm=>exact .ez hx (by unfold Me.au at*;omega)
 |r=>exact .ld hx
 |j=>exact .ld hx
 |d=>exact .z
theorem Ir {t}{c key aq high b:Int}{σ}(hs:t.ok)(tW:(0<=aq/\aq<=65534)/\0<=high/\high<=4)(hk:Me.au key)(hx:x.gd)(h:iv t c key aq high q b σ l):Ac x (σ.step t c key aq high x).2:=by
 cases h with
 |p0=>exact .ld hx
 |p1 hn h ho=>exact CH hx h
 |a0=>exact .ld hx
 |a1 hn hp h ho=>exact Im hs.2.2.2.2.1 hx h
 |c0=>exact .ld hx
 |c1 hn hp h ho=>exact OX hs.2.2.2.2 hx h
 |l0=>exact .st (by unfold Me.au;omega)
 |l1 hn h ho=>exact rk h
 |y0=>exact .st hk
 |y1 hr h=>exact OY am hk h
 |i0=>exact .ld hx
 |i1 hr h ho=>exact OZ hs hr hx h
 |u0=>exact .st (by unfold Me.au;omega)
 |u1 h ho=>exact rk h
 |d=>exact .z
theorem TH {t}{c b:Int}{σ}(hs:t.ok)(hx:x.gd)(h:AX t c q b σ l):Ac x (σ.step t c false x).2:=by
 cases h with
 |p0=>exact .ld hx
 |p1 h ho=>exact CH hx h
 |c0=>exact .ld hx
 |c1 h ho=>exact TF hs hx h
 |u0=>exact .st (by unfold Me.au;omega)
 |u1 h ho=>exact rk h
 |d=>exact .z
theorem TI {t}{c b:Int}{σ}(hs:t.ok)(hx:x.gd)(h:Cm t c q b σ l):Ac x (σ.step t c true x).2:=by
 cases h with
 |p0=>exact .ld hx
 |p1 h ho=>exact CH hx h
 |c0=>exact .ld hx
 |c1 h ho=>exact TG hx h
 |u0=>exact .st (by unfold Me.au;omega)
 |u1 h ho=>exact rk h
 |d=>exact .z
theorem O5 {t r}{c b:Int}{σ}(hs:t.ok)(hx:x.gd)(h:qQ t r c q b σ l):Ac x (σ.step t r c x).2:=by
 cases h with
 |k h ho=>exact TI hs hx h
 |r0=>exact .ld hx
 |r1=>exact .ld hx
 |f=>exact .st (by unfold Me.au;omega)
 |d=>exact .z
theorem KH {r}{v:Int}{σ}(hx:x.gd)(h:oG r v q σ l):Ac x (σ.step r v x).2:=by
 cases h with
 |s h ho=>exact Ip hx h
 |d=>exact .z
end
section
variable{q vx vn vt vw vb:Nat}{cl:List AV}{lo l:List Own}{x:Xc}{y:Me}{i c w n ev now aw high:Int}{r:Rn}{o:Od}{b:Int}
theorem TJ {σ}(hn:0<=now/\now<=1099511627776)(hy:y.gd)(h:xC x vx vn vt vw n ev now q cl σ lo):Ac y (σ.step (x.b5+n) ev now y).2:=by
 cases h with
 |f=>exact .ld hy
 |r dH h ho=>exact KC hn hy h
theorem TK {σ}(hj:x.j.ok)(hy:y.gd)(h:qU x vx q cl σ lo):Ac y (σ.step x.j y).2:=by
 cases h with
 |f=>exact .ld hy
 |r dH h ho=>exact KE hj hy h
theorem TL {σ}(hw:Me.au w)(h:xz x i w vx q cl σ lo):Ac y (σ.step x.j i w y).2:=by
 cases h with
 |f=>exact .st hw
 |r dH h ho=>exact CI hw h
theorem TM {σ}(hw:Me.au w)(h:xA x i w vx q cl σ lo):Ac y (σ.step x.j i w y).2:=by
 cases h with
 |f=>exact .st hw
 |r dH h ho=>exact CI hw h
theorem TN {σ}(h:xB x i w vx q cl σ lo):Ac y (σ.step x.j i ((w+1)%18446744073709551616) y).2:=by
 cases h with
 |f=>exact .st (by unfold Me.au;omega)
 |r dH h ho=>exact CI (by unfold Me.au;omega) h
theorem TO {σ}(hy:y.gd)(h:xD x vx vn n i q cl σ lo):Ac y (σ.step (x.ring (n%x.aI)) i y).2:=by
 cases h with
 |f=>exact .ld hy
 |r dH h ho=>exact KH hy h
theorem L9 {σ}(hj:x.j.ok)(hy:y.gd)(h:vE x i q cl σ lo):Ac y (σ.step x.j i y).2:=by
 cases h with
 |f=>exact .ld hy
 |r dH h ho=>exact KF hj hy h
theorem O6 {σ}(hy:y.gd)(h:mj x r q cl σ lo):Ac y (σ.step r y).2:=by
 cases h with
 |f=>exact .ld hy
 |r dH h ho=>exact Iq hy h
theorem Y_ {σ}(hy:y.gd)(h:EJ x i q cl σ lo):Ac y (σ.stepOf x.j i y).2:=by
 cases h with
 |f=>exact .ld hy
 |r dH h ho=>exact vY hy h
theorem TP {σ}(hy:y.gd)(h:qR x vx i q cl σ lo):Ac y (σ.stepOf x.j i y).2:=by
 cases h with
 |f=>exact .ld hy
 |r dH h ho=>exact vY hy h
theorem TQ {σ}(hy:y.gd)(h:qS x vx i q cl σ lo):Ac y (σ.stepOf x.j i y).2:=by
 cases h with
 |f=>exact .ld hy
 |r dH h ho=>exact vY hy h
theorem xO {σ}{fr to:Int}(ht:0<=to/\to<6)(hc:0<=c/\c<64)(hy:y.gd)(h:nG x i fr to c q cl σ lo):Ac y (σ.step x.j i fr to c y).2:=by
 cases h with
 |f=>exact .ld hy
 |r dH h ho=>exact KG ht hc hy h
theorem TR {σ}(hs:x.t.ok)(tW:(0<=i/\i<=65534)/\0<=high/\high<=4)(hk:Me.au w)(hy:y.gd)(h:xE x c i w high vx q cl σ lo):Ac y (σ.step x.t c w i high y).2:=by
 cases h with
 |f=>exact .ld hy
 |r dH h ho=>exact Ir hs tW hk hy h
theorem TT {σ}(hs:x.t.ok)(tW:(0<=i/\i<=65534)/\0<=high/\high<=4)(hy:y.gd)(h:xF x c i w high vx q cl σ lo):Ac y (σ.step x.t c ((w+1)%18446744073709551616) i high y).2:=by
 cases h with
 |f=>exact .ld hy
 |r dH h ho=>exact Ir hs tW (by unfold Me.au;omega) hy h
theorem O7 {σ}(h:rT x r aw vb vx q cl σ lo):Ac y (σ.step r aw y).2:=by
 cases h with
 |f=>exact .st (by unfold Me.au;omega)
 |r dH h ho=>exact KB h
theorem Za {σ}(hs:x.t.ok)(hy:y.gd)(h:EH x c q cl σ lo):Ac y (σ.step x.t x.r c y).2:=by
 cases h with
 |f=>exact .ld hy
 |r dH h ho=>exact O5 hs hy h
theorem TU {σ}(hs:x.t.ok)(hy:y.gd)(h:xG x c vx q cl σ lo):Ac y (σ.step x.t c false y).2:=by
 cases h with
 |f=>exact .ld hy
 |r dH h ho=>exact TH hs hy h
theorem TV {σ}(hk:o.ok x)(hy:y.gd)(h:dR x o q b σ l)(hw:σ.wd):(σ.step x o y).1.wd:=by
 cases h with
 |@r1 z=>
  show(az.qE x o _).wd;generalize(z.step _ _ _ y).1=z';cases z' with
  |d e=>exact bA (P:=az.wd) trivial trivial
  |_=>trivial
 |@r2 z=>
  show(az.qF x o _).wd;generalize(z.step x.j y).1=z';cases z' with
  |d i e=>exact bA (P:=az.wd) trivial trivial
  |_=>trivial
 |r3 hv jI hi tu t=>
  have hp:=(hk.2.2 jI).2.1;show az.wd (if _ then _ else _);split
  .trivial
  .next hn=>show Me.au (ka o.prio _);unfold ka Me.au;omega
 |r4=>exact bA (P:=az.wd) trivial hw
 |@r5 z i w=>
  show(az.qG x o _ _ _).wd;generalize(z.step _ _ y).1=z';cases z' with
  |d e=>exact bA (P:=az.wd) trivial trivial
  |_=>trivial
 |r6=>exact bA (P:=az.wd) trivial trivial
 |@t1 z=>
  show(az.mF x o _).wd;generalize(z.step _ y).1=z';cases z' with
  |d h v e=>exact bA (P:=az.wd) (bA (P:=az.wd) trivial trivial) trivial
  |_=>trivial
 |@t2 z=>
  show(az.oE x o _ _ _).wd;generalize(z.stepOf _ _ y).1=z';cases z' with
  |d w e=>exact bA (P:=az.wd) trivial trivial
  |_=>trivial
 |t3=>exact bA (P:=az.wd) trivial trivial
 |@t4 z=>
  show(az.qH x o _ _ _ _).wd;generalize(z.step _ _ _ _ _ y).1=z';cases z' with
  |d e=>exact bA (P:=az.wd) trivial trivial
  |_=>trivial
 |t5=>exact bA (P:=az.wd) trivial trivial
 |t6=>exact bA (P:=az.wd) trivial trivial
 |pg=>exact bA (P:=az.wd) trivial trivial
 |p1=>exact bA (P:=az.wd) trivial trivial
 |@p2 z=>
  have:=TE (t:=x.t) (look:=false) (c:=o.c) hy (show z.wd from hw);show(az.jy x o _).wd;generalize(z.step _ _ _ y).1=z' at this;cases z' with
  |d key aq e=>exact bA (P:=az.wd) (bA (P:=az.wd) trivial this) (bA (P:=az.wd) trivial trivial)
  |_=>exact this
 |p3=>exact bA (P:=az.wd) hw hw
 |p4=>exact hw
 |p5=>trivial
 |s1=>exact bA (P:=az.wd) trivial trivial
 |s2=>trivial
 |s3=>exact bA (P:=az.wd) trivial trivial
 |@s4 z i cl lo L g sv uv UL gu vx vp key aw hv hi h tu t=>
  show(az.mG x o _ _).wd;cases h with
  |f=>exact bA (P:=az.wd) trivial (bA (P:=az.wd) trivial (Me.aj hy _))
  |r dH h ho=>
   cases h with
   |a=>exact bA (P:=az.wd) trivial (bA (P:=az.wd) trivial (Me.aj hy _))
   |d=>cases ho
 |s5=>exact bA (P:=az.wd) hw hw
 |s6=>exact hw
 |s7=>exact bA (P:=az.wd) hw hw
 |@s8 z i w=>
  show(az.qI x o _ _ _).wd;generalize(z.step _ _ _ _ _ y).1=z';cases z' with
  |d e=>exact bA (P:=az.wd) trivial hw
  |_=>exact hw
 |s9=>trivial
 |b1=>exact bA (P:=az.wd) hw hw
 |b2=>exact bA (P:=az.wd) hw hw
 |b3=>trivial
 |b4=>trivial
 |c1=>exact bA (P:=az.wd) trivial trivial
 |@c2 z=>
  show(az.sJ x o _ _).wd;generalize(z.stepOf _ _ y).1=z';cases z'<;>trivial
 |c3=>exact bA (P:=az.wd) trivial trivial
 |c4=>trivial
 |c5=>trivial
 |c6=>exact bA (P:=az.wd) trivial trivial
 |d=>trivial
theorem TW {σ}(hx:x.ok)(hk:o.ok x)(hy:y.gd)(h:dR x o q b σ l)(hw:σ.wd):Ac y (σ.step x o y).2:=by
 have uL:=hx;unfold Xc.ok Tw.ok Lb.ok Ep.ok at uL;have Lj:=hk;unfold Od.ok at Lj;have hW:∀w,Me.au ((w+1)%18446744073709551616):=λw=>by unfold Me.au;omega
 cases h with
 |r1 hv jI h t=>exact TJ (by have:=(hk.2.2 jI).2.2;omega) hy h
 |r2 hv jI h t=>exact TK hx.2.1 hy h
 |r3=>exact .add
 |r4 hv jI hi h tu t=>exact TL hw h
 |r5 hv jI hi h tu t=>exact TO hy h
 |r6 hv he h t=>exact L9 hx.2.1 hy h
 |t1 hv h tu t=>exact O6 hy h
 |t2 hv hh hi h tu t=>exact TP hy h
 |t3 hv hh hi c_ h tu t=>exact xO am am hy h
 |t4 hv hh hi c_ h tu t=>exact TR hx.1 am c_.1 hy h
 |t5 hv he h t=>exact xO am am hy h
 |t6 hv h t=>exact O7 h
 |pg hv h t=>exact Za hx.1 hy h
 |p1=>exact .ld hy
 |p2 hv h t=>exact TU hx.1 hy h
 |p3 hv hi h t=>exact xO am am hy h
 |p4 hv hi t=>exact .st (by unfold Jb.ok Sk.ok at uL;unfold Me.au;omega)
 |p5=>exact .st hw
 |s1=>exact .ld hy
 |s2=>exact .st w0
 |s3=>exact .ld hy
 |s4 hv hi h tu t=>exact TQ hy h
 |s5 hv hi c_ h tu t=>exact xO am am hy h
 |s6=>exact .st (by unfold Me.au;omega)
 |s7 hv hi c_ h tu t=>exact TN h
 |s8 hv hi c_ h tu t=>exact TT hx.1 am hy h
 |s9=>exact .st w0
 |b1 hv hi he h t=>exact TM hw h
 |b2 hv he h t=>exact xO am am hy h
 |b3=>exact .st hw
 |b4=>exact .st (by unfold Me.au;omega)
 |c1=>exact .ld hy
 |c2 hv hi h t=>exact Y_ hy h
 |c3 hv hi h t=>exact xO am am hy h
 |c4=>exact .st w0
 |c5=>exact .st (by unfold Me.au;omega)
 |c6 hv h t=>exact L9 hx.2.1 hy h
 |d=>exact .z
end
structure f_ where
 σ:az
 y:Me
 b:Int
def f_.xP (x:Xc)(o:Od)(s:f_):f_:=⟨(s.σ.step x o s.y).1,(s.σ.step x o s.y).2,if s.σ.over then s.b else s.σ.cG x o⟩
def f_.alone (x:Xc)(o:Od)(most:Int):Nat->Int->f_->Int×f_
 |0,i,s=>(i,s)
 |n+1,i,s=>if s.σ.err=14/\i<most then alone x o most n (i+1) (s.xP x o) else(i,s)
structure f_.ok (x:Xc)(o:Od)(s:f_)(N:Int)(L:Nat):Prop where
 k:s.σ.over=false->o.ok x
 w:s.σ.wd
 y:s.y.gd
 n:s.y.n<=N
 l:s.y.ws.length=L
section
variable{B0 S:AH}{W:List Nat}{R l:List Own}{ro:List aF}{m bl q:Nat}{rest:List AV}{x:Xc}{o:Od}{vm tv:AV}{hg N:Int}{s:f_}{L:Nat}
theorem gW {σ:az}(h:σ.over=true):∃i w e n,σ=.d i w e n:=by
 cases σ<;>first|(cases h;done)|exact⟨_,_,_,_,rfl⟩
theorem L_ (hx:x.ok)(hs:s.ok x o N L)(h:dR x o q s.b s.σ l)(H:Cx B0 W S (l++(ad m bl s.y rest++R)) ro):
  aG EM (zF 20) [.ptr q 0,.ptr m 0] S λu S'=>∃ab,(∃l',u=B (s.xP x o).σ.over/\dR x o q (s.xP x o).b (s.xP x o).σ l'/\ab=l'++(ad m bl (s.xP x o).y rest++R))/\Cx B0 W S' ab ro:=by
 obtain⟨σ,y,b⟩:=s;cases ho:σ.over with
 |false=>
  refine ar (NT hx (hs.k ho) hs.y h H) λu S' ⟨ab,⟨l',⟨h1,h2⟩,h3⟩,h4⟩=>⟨ab,⟨l',h2,h1,h3⟩,h4⟩
 |true=>
  obtain⟨i,w,e,n,rfl⟩:=gW ho;cases h with
  |d Qm hw=>
   simp only[Xc.row,Xc.cs,Tw.cs,Lb.cs,Ar.cs,Ep.cs,lA,lB,lC] at H;refine Vx.fm H rfl ?_;cases Qm with
   |n=>
    refine z1 ?_;exact⟨rfl,rfl,_,⟨_,rfl,.d .n hw,rfl⟩,by simp only[Xc.row,Xc.cs,Tw.cs,Lb.cs,Ar.cs,Ep.cs,lA,lB,lC];exact HQ⟩
   |s h1 h2 h3=>refine z1 ?_;exact⟨rfl,rfl,_,⟨_,rfl,.d (.s h1 h2 h3) hw,rfl⟩,by simp only[Xc.row,Xc.cs,Tw.cs,Lb.cs,Ar.cs,Ep.cs,lA,lB,lC];exact HQ⟩
theorem Ma (hx:x.ok)(hs:s.ok x o N L)(ht:s.σ.over=false->o.k=1->∃(L:List (List AV)) (c:List AV),aF.sl tv 4 L∈ro/\L[o.tk.toNat]?=some c/\c[1]?=some (I o.prio))(h:bH x o tv hg q s.b s.σ l)(H:Cx B0 W S (l++(ai m vm s.y++R)) ro):
  aG EM (zF 21) [.ptr q 0,.ptr m 0] S λu S'=>∃ab,(∃l',u=B (s.xP x o).σ.over/\bH x o tv hg q (s.xP x o).b (s.xP x o).σ l'/\ab=l'++(ai m vm (s.xP x o).y++R))/\Cx B0 W S' ab ro:=by
 obtain⟨σ,y,b⟩:=s;cases ho:σ.over with
 |false=>
  refine ar (Kt hx (hs.k ho) hs.y (ht ho) h H) λu S' ⟨ab,⟨l',⟨h1,h2⟩,h3⟩,h4⟩=>⟨ab,⟨l',h2,h1,h3⟩,h4⟩
 |true=>
  obtain⟨i,w,e,n,rfl⟩:=gW ho;cases h with
  |d hw=>simp only[Xc.b7,Xc.cs,Tw.cs,Lb.cs,Ar.cs,Ep.cs,lA,lB,lC] at H;refine y1 H rfl ?_;exact⟨rfl,rfl,_,⟨_,rfl,.d hw,rfl⟩,by simp only[Xc.b7,Xc.cs,Tw.cs,Lb.cs,Ar.cs,Ep.cs,lA,lB,lC];exact HQ⟩
theorem xQ {σ:az}{y:Me}(h:σ.over=true):(σ.step x o y)=(σ,y):=by obtain⟨i,w,e,n,rfl⟩:=gW h;rfl
theorem f_.ok.TX (hs:s.ok x o N L)(hx:x.ok)(hN:N<4611686018427387904)(h:dR x o q s.b s.σ l):(s.xP x o).ok x o (N+1) L:=by
 obtain⟨σ,y,b⟩:=s;cases ho:σ.over with
 |true=>
  have e:=xQ (x:=x) (o:=o) (y:=y) ho;refine⟨?_,?_,?_,?_,?_⟩<;>(show _;unfold f_.xP;dsimp only;rw[e])
  .exact hs.k
  .exact hs.w
  .exact hs.y
  .have:=hs.n;dsimp only at this⊢;omega
  .exact hs.l
 |false=>have hk:=hs.k ho;have ha:=TW hx hk hs.y h hs.w;have hn:=hs.n;have hg:=ha.gd hs.y am;exact⟨λ_=>hk,TV hk hs.y h hs.w,hg.1,by have:=hg.2.1;show _<=_;unfold f_.xP;dsimp only at this hn⊢;omega,hg.2.2.trans hs.l⟩
theorem f_.ok.Zb (hs:s.ok x o N L)(hx:x.ok)(hN:N<4611686018427387904)(h:bH x o tv hg q s.b s.σ l):(s.xP x o).ok x o (N+1) L:=by
 obtain⟨σ,y,b⟩:=s;cases ho:σ.over with
 |true=>
  have e:=xQ (x:=x) (o:=o) (y:=y) ho;refine⟨?_,?_,?_,?_,?_⟩<;>(show _;unfold f_.xP;dsimp only;rw[e])
  .exact hs.k
  .exact hs.w
  .exact hs.y
  .have:=hs.n;dsimp only at this⊢;omega
  .exact hs.l
 |false=>have hk:=hs.k ho;have ha:=Y9 hx hk hs.y h hs.w;have hn:=hs.n;have hg:=ha.gd hs.y am;exact⟨λ_=>hk,Y8 hk hs.y h hs.w,hg.1,by have:=hg.2.1;show _<=_;unfold f_.xP;dsimp only at this hn⊢;omega,hg.2.2.trans hs.l⟩
end
section
variable{M:dS}{ro:List aF}{Φ:ma}{K:List Kf}{own:List Own}
theorem Vx.inv {α:Type}{body outs}(P:α->Nat->Prop)(vs:α->List AV)(ow:α->List Own)
  (hs:∀a n,P a n->(∀a' n',n'<n->P a' n'->Vx M (.ret .normal (vs a')) (.loop body outs::K) (ow a') ro Φ)->Vx M (body (vs a)) (.loop body outs::K) (ow a) ro Φ)
  {a0} {n0:Nat} (h0:P a0 n0):Vx M (.loop (vs a0) body outs) K (ow a0) ro Φ:=by
 have key:∀n a,P a n->Vx M (body (vs a)) (.loop body outs::K) (ow a) ro Φ:=by
  intro n;induction n using Nat.strongRecOn with
  |ind n ih=>exact λa h=>hs a n h λa' n' hn h'=>Vx.J1 (ih n' hn a' h')
 exact Vx.loop (key n0 a0 h0)
theorem Zx.an (f:Nat){args k}(h:bL (Vx M (.call (.fn (.func f) [] []) args k) K own ro Φ)):Zx M false (.call (.fn (.func f) [] []) args k) K own ro Φ:=.z h
end
section
variable{B0 S:AH}{W:List Nat}{R l:List Own}{ro:List aF}{m bl q:Nat}{rest:List AV}{x:Xc}{o:Od}{vm tv:AV}{hg N most:Int}{s:f_}{L:Nat}
theorem O8 (hx:x.ok)(hk:o.k≠0)(hs:s.ok x o N L)(hN:0<=N/\N<=1000000000000)(hm:most<=1000000)(h:dR x o q s.b s.σ l)(H:Cx B0 W S (l++(ad m bl s.y rest++R)) ro):
  aG EM (zF 33) [.ptr q 0,.ptr m 0,I most] S λu S'=>∃ab,(∃n s' l',(n,s')=f_.alone x o most most.toNat 0 s/\u=.dh [I n,B (decide (s'.σ.err≠14))]/\dR x o q s'.b s'.σ l'/\s'.ok x o (N+1000000) L/\ab=l'++(ad m bl s'.y rest++R))/\Cx B0 W S' ab ro:=by
 refine Vx.fm H rfl ?_
 (repeat' first|refine Zx.an 104 ?_|refine Zx.an 20 ?_|constructor|exact ZQ|intro _)
 all_goals apply zL
 refine Vx.inv (α:=Int×f_×List Own) (P:=λa n=>n=(most-a.1).toNat/\0<=a.1/\(a.1=0\/a.1<=most)/\a.2.1.ok x o (N+a.1) L/\dR x o q a.2.1.b a.2.1.σ a.2.2/\f_.alone x o most n a.1 a.2.1=f_.alone x o most most.toNat 0 s)
  (λa=>[I a.1]) (λa=>a.2.2++(ad m bl a.2.1.y rest++R)) ?_ (a0:=(0,s,l)) (n0:=most.toNat) ⟨am,am,.inl rfl,by rw[Int.add_zero];exact hs,h,rfl⟩
 rintro⟨i,s1,l1⟩ n ⟨hn,QP,At,pI,h1,ha⟩ ih;dsimp only at hn QP At pI h1 ha⊢;have qn:(¬(s1.σ.err=14/\i<most))->(i,s1)=f_.alone x o most most.toNat 0 s:=by
  intro hc;rw[<-ha];cases n with
  |zero=>rfl
  |succ n=>unfold f_.alone;rw[if_neg hc]
 have wH:∀bb,bb=decide (s1.σ.err≠14)->(¬(s1.σ.err=14/\i<most))->∃n s' l',(n,s')=f_.alone x o most most.toNat 0 s/\AV.dh [I i,B bb]=.dh [I n,B (decide (s'.σ.err≠14))]/\dR x o q s'.b s'.σ l'/\s'.ok x o (N+1000000) L/\l1++(ad m bl s1.y rest++R)=l'++(ad m bl s'.y rest++R):=by intro bb hb hc;exact⟨i,s1,l1,qn hc,by rw[hb],h1,⟨pI.k,pI.w,pI.y,by have:=pI.n;omega,pI.l⟩,rfl⟩
 refine Zx.ok (n:=false) ?_
 (repeat' first|refine Zx.an 104 ?_|refine Zx.an 20 ?_|constructor|exact ZQ|intro _)
 all_goals apply zL
 refine Vx.spec (λB1 W1 S1 H=>y5 hk h1 H) ?_;rintro _ _ ⟨rfl,rfl⟩
 (repeat' first|refine Zx.an 104 ?_|refine Zx.an 20 ?_|constructor|exact ZQ|intro _)
 all_goals apply zL
 .next he du=>
  refine Vx.spec (λB1 W1 S1 H=>L_ hx pI h1 H) ?_;rintro _ _ ⟨l2,rfl,h2,rfl⟩
  (repeat' first|refine Zx.an 104 ?_|refine Zx.an 20 ?_|constructor|exact ZQ|intro _)
  all_goals apply zL
  refine ih (i+1,s1.xP x o,l2) (n-1) am ⟨by dsimp only;omega,by dsimp only;omega,.inr (by dsimp only;omega),?_,h2,?_⟩
  .have:=pI.TX hx am h1;rw[Int.add_assoc] at this;exact this
  .rw[<-ha];obtain⟨k,rfl⟩:∃k,n=k+1:=⟨n-1,am⟩;show _=f_.alone x o most (k+1) i s1;unfold f_.alone;rw[if_pos ⟨he,du⟩];cases k<;>rfl
 all_goals(
  refine Vx.spec (λB1 W1 S1 H=>y5 hk h1 H) ?_;rintro _ _ ⟨rfl,rfl⟩
  (repeat' first|refine Zx.an 104 ?_|refine Zx.an 20 ?_|constructor|exact ZQ|intro _)
  all_goals apply zL
  all_goals first
   |exact⟨rfl,rfl,_,wH _ (by first|exact(decide_eq_true ci).symm|exact(decide_eq_false ci).symm) am,HQ⟩
   |skip)
theorem Is (hx:x.ok)(ht:o.ok x->o.k=1->∃(L:List (List AV)) (c:List AV),aF.sl tv 4 L∈ro/\L[o.tk.toNat]?=some c/\c[1]?=some (I o.prio))(hs:s.ok x o N L)(hN:0<=N/\N<=1000000000000)(hm:most<=1000000)(h:bH x o tv hg q s.b s.σ l)(H:Cx B0 W S (l++(ai m vm s.y++R)) ro):
  aG EM (zF 34) [.ptr q 0,.ptr m 0,I most] S λu S'=>∃ab,(∃n s' l',(n,s')=f_.alone x o most most.toNat 0 s/\u=.dh [I n,B (decide (s'.σ.err≠14))]/\bH x o tv hg q s'.b s'.σ l'/\s'.ok x o (N+1000000) L/\ab=l'++(ai m vm s'.y++R))/\Cx B0 W S' ab ro:=by
 refine Vx.fm H rfl ?_
 (repeat' first|refine Zx.an 47 ?_|refine Zx.an 21 ?_|constructor|exact ZQ|intro _)
 all_goals apply zL
 refine Vx.inv (α:=Int×f_×List Own) (P:=λa n=>n=(most-a.1).toNat/\0<=a.1/\(a.1=0\/a.1<=most)/\a.2.1.ok x o (N+a.1) L/\bH x o tv hg q a.2.1.b a.2.1.σ a.2.2/\f_.alone x o most n a.1 a.2.1=f_.alone x o most most.toNat 0 s)
  (λa=>[I a.1]) (λa=>a.2.2++(ai m vm a.2.1.y++R)) ?_ (a0:=(0,s,l)) (n0:=most.toNat) ⟨am,am,.inl rfl,by rw[Int.add_zero];exact hs,h,rfl⟩
 rintro⟨i,s1,l1⟩ n ⟨hn,QP,At,pI,h1,ha⟩ ih;dsimp only at hn QP At pI h1 ha⊢;have qn:(¬(s1.σ.err=14/\i<most))->(i,s1)=f_.alone x o most most.toNat 0 s:=by
  intro hc;rw[<-ha];cases n with
  |zero=>rfl
  |succ n=>unfold f_.alone;rw[if_neg hc]
 have wH:∀bb,bb=decide (s1.σ.err≠14)->(¬(s1.σ.err=14/\i<most))->∃n s' l',(n,s')=f_.alone x o most most.toNat 0 s/\AV.dh [I i,B bb]=.dh [I n,B (decide (s'.σ.err≠14))]/\bH x o tv hg q s'.b s'.σ l'/\s'.ok x o (N+1000000) L/\l1++(ai m vm s1.y++R)=l'++(ai m vm s'.y++R):=by intro bb hb hc;exact⟨i,s1,l1,qn hc,by rw[hb],h1,⟨pI.k,pI.w,pI.y,by have:=pI.n;omega,pI.l⟩,rfl⟩
 refine Zx.ok (n:=false) ?_
 (repeat' first|refine Zx.an 47 ?_|refine Zx.an 21 ?_|constructor|exact ZQ|intro _)
 all_goals apply zL
 refine Vx.spec (λB1 W1 S1 H=>rj h1 H) ?_;rintro _ _ ⟨rfl,rfl⟩
 (repeat' first|refine Zx.an 47 ?_|refine Zx.an 21 ?_|constructor|exact ZQ|intro _)
 all_goals apply zL
 .next he du=>
  refine Vx.spec (λB1 W1 S1 H=>Ma hx pI (λho=>ht (pI.k ho)) h1 H) ?_;rintro _ _ ⟨l2,rfl,h2,rfl⟩
  (repeat' first|refine Zx.an 47 ?_|refine Zx.an 21 ?_|constructor|exact ZQ|intro _)
  all_goals apply zL
  refine ih (i+1,s1.xP x o,l2) (n-1) am ⟨by dsimp only;omega,by dsimp only;omega,.inr (by dsimp only;omega),?_,h2,?_⟩
  .have:=pI.Zb hx am h1;rw[Int.add_assoc] at this;exact this
  .rw[<-ha];obtain⟨k,rfl⟩:∃k,n=k+1:=⟨n-1,am⟩;show _=f_.alone x o most (k+1) i s1;unfold f_.alone;rw[if_pos ⟨he,du⟩];cases k<;>rfl
 all_goals(
  refine Vx.spec (λB1 W1 S1 H=>rj h1 H) ?_;rintro _ _ ⟨rfl,rfl⟩
  (repeat' first|refine Zx.an 47 ?_|refine Zx.an 21 ?_|constructor|exact ZQ|intro _)
  all_goals apply zL
  all_goals first
   |exact⟨rfl,rfl,_,wH _ (by first|exact(decide_eq_true ci).symm|exact(decide_eq_false ci).symm) am,HQ⟩
   |skip)
end
end Go.cI
