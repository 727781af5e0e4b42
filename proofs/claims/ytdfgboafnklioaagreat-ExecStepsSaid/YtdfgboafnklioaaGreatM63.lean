/- Contracts. Conditions: in each theorem. -/
import Derived.Test.YtdfgboafnklioaaGreatM62
set_option linter.all false
set_option maxRecDepth 100000
set_option maxHeartbeats 4000000
namespace Go.cG
open Go.Proofs
section
variable{l lo:List Own}{q:Nat}{x:Me}
theorem II {s σ}(hs:s.ok)(hx:x.gd)(h:w9 s q σ l):Ac x (σ.step s x).2:=by
 unfold Sk.ok at hs;cases h with
 |a=>exact .ld hx
 |b=>exact .ld hx
 |c hw hi hj=>exact .gY hx (CG am hw)
 |d=>exact .z
 |n=>exact .z
theorem zi {s}{v:Int}{σ}(hs:s.ok)(hx:x.gd)(h:kR s v q σ l):Ac x (σ.step s v x).2:=by
 unfold Sk.ok at hs;cases h with
 |a=>exact .ld hx
 |@b w hv hw=>exact .st (by have:=gp (n:=s.size) (w:=w) am;unfold Me.aC;omega)
 |c hv hw=>exact .gY hx (CG am hw)
 |d=>exact .z
theorem Pj {s σ}(hs:s.ok)(hx:x.gd)(h:yT s q σ l):Ac x (σ.step s x).2:=by
 unfold Sk.ok at hs;cases h with
 |a=>exact .ld hx
 |b hw hi=>exact .gY hx (CG am hw)
 |d=>exact .z
 |n=>exact .z
theorem IJ {a σ}(hs:a.ok)(hx:x.gd)(h:n9 a q σ l):Ac x (σ.step a x).2:=by
 cases h with
 |p h ho=>exact II hs.1 hx h
 |g=>exact .ld hx
 |w=>exact .ld hx
 |d=>exact .z
theorem K3 {a}{v:Int}{σ}(hs:a.ok)(hx:x.gd)(h:rq a v q σ l):Ac x (σ.step a v x).2:=by
 cases h with
 |l=>exact .ld hx
 |r=>exact .st (by unfold Me.aC;omega)
 |u hv h ho=>exact zi hs.1 hx h
 |w=>exact .add
 |d=>exact .z
theorem CH {e}{c:Int}{σ}(hx:x.gd)(h:w_ e c q σ l):Ac x (σ.step e c x).2:=by
 cases h with
 |a=>exact .ld hx
 |b hc hp=>exact .st (by unfold Me.aC;omega)
 |c=>exact .ld hx
 |d=>exact .z
theorem rJ {e}{c:Int}{σ}(h:mK e c q σ l):Ac x (σ.step e c x).2:=by
 cases h with
 |a=>exact .st (by unfold Me.aC;omega)
 |d=>exact .z
theorem Pl {e}{c p:Int}{σ}(hx:x.gd)(h:yU e c p q σ l):Ac x (σ.step e c p x).2:=by
 cases h with
 |a=>exact .ld hx
 |b=>exact .ld hx
 |c hc hw hp=>exact .gY hx (by unfold Me.aC at*;omega)
 |d=>exact .z
theorem IK {b}{v:Int}{σ}(hs:b.ok)(hx:x.gd)(h:AE b v q σ l):Ac x (σ.step b v x).2:=by
 cases h with
 |a=>exact .ld hx
 |b hk h ho=>exact zi (Lb.oN hs hk.1 hk.2) hx h
 |d=>exact .z
theorem Pm {b}{c p:Int}{σ}(hs:b.ok)(hx:x.gd)(h:yV b c p q σ l):Ac x (σ.step b c p x).2:=by
 cases h with
 |v hp h ho h2=>exact Pl hx h
 |t hp h ho=>exact Pj (Lb.oN hs am am) hx h
 |l=>exact .ld hx
 |f hi hn hj h ho=>exact K3 hs.1 hx h
 |d=>exact .z
theorem IL {r}{v:Int}{σ}(hx:x.gd)(h:lG r v q σ l):Ac x (σ.step r v x).2:=by
 cases h with
 |a=>exact .ld hx
 |b=>exact .ld hx
 |@c t w hv ht hw=>exact .gY hx (by have:=n_ (r:=r) (t:=t);unfold Me.aC;omega)
 |l=>exact .gY hx (by unfold Me.aC;omega)
 |h=>exact .gY hx (by unfold Me.aC;omega)
 |d=>exact .z
theorem IM {r σ}(hx:x.gd)(h:j_ r q σ l):Ac x (σ.step r x).2:=by
 cases h with
 |a=>exact .ld hx
 |b=>exact .ld hx
 |d=>exact .z
theorem K4 {r}{h0:Int}{σ}(h:ru r h0 q σ l):Ac x (σ.step r h0 x).2:=by
 cases h with
 |a=>exact .st (by unfold Me.aC;omega)
 |b=>exact .st (by unfold Me.aC;omega)
 |d=>exact .z
theorem K5 {a e n:Int}{σ}(hn:0<=n/\n<=1099511627776)(hx:x.gd)(h:oc a e n q σ l):Ac x (σ.step a e n x).2:=by
 cases h with
 |a=>exact .ld hx
 |b=>exact .gY hx (by unfold Me.aC;omega)
 |d=>exact .z
theorem K6 {j σ}(hs:j.ok)(hx:x.gd)(h:kS j q σ l):Ac x (σ.step j x).2:=by
 cases h with
 |p h ho=>exact II hs.1 hx h
 |l=>exact .ld hx
 |s=>exact .gY hx (by unfold Me.aC jw;omega)
 |d=>exact .z
 |n=>exact .z
theorem K7 {j}{i:Int}{σ}(hs:j.ok)(hx:x.gd)(h:pc j i q σ l):Ac x (σ.step j i x).2:=by
 cases h with
 |l=>exact .ld hx
 |s hi hw h=>exact .gY hx (TW am am hw)
 |p hi h ho=>exact zi hs.1 hx h
 |d=>exact .z
theorem K8 {j}{i fr to c:Int}{σ}(ht:0<=to/\to<6)(hc:0<=c/\c<64)(hx:x.gd)(h:rv j i fr to c q σ l):Ac x (σ.step j i fr to c x).2:=by
 cases h with
 |l=>exact .ld hx
 |s hi hw=>exact .gY hx (TW am (by split<;>omega) hw)
 |d=>exact .z
theorem CI {j}{i k:Int}{σ}(hk:Me.aC k)(h:xa j i k q σ l):Ac x (σ.step j i k x).2:=by
 cases h with
 |a=>exact .st hk
 |d=>exact .z
theorem wi {j}{i:Int}{σ}(hx:x.gd)(h:ji j i q σ l):Ac x (σ.stepOf j i x).2:=by
 cases h with
 |a=>exact .ld hx
 |d=>exact .z
theorem Pn {t}{i g key ar high:Int}{σ}(hj:0<=ar/\ar<=65534/\0<=high/\high<=4)(hk:Me.aC key)(h:AP t i g key ar high q σ l):Ac x (σ.step t (aK i g) key ar high x).2:=by
 cases h with
 |@s k VJ=>
  match k with
  |0=>exact .st hk
  |1=>exact .st (by unfold Me.aC;omega)
  |2=>exact .st (by unfold Me.aC;omega)
  |k+3=>exact .st (by unfold Me.aC;omega)
 |d=>exact .z
theorem uk {t}{key b:Int}{σ}(hx:x.gd)(h:b_ t key q b σ l):Ac x (σ.step t key x).2:=by
 cases h with
 |a=>exact .ld hx
 |b=>exact .ld hx
 |c h hc hi hw hm=>exact .gY hx (by unfold Me.aC at*;omega)
 |e=>exact .ld hx
 |d=>exact .z
theorem Po {t}{i g key high b:Int}{σ}(hs:t.ok)(hr:t.rf i g)(hx:x.gd)(h:lI t i g key high q b σ l):Ac x (σ.step t (aK i g) key high x).2:=by
 have hrw:=mJ hr.1;cases h with
 |f h ho=>exact uk hx h
 |s hl h=>cases h with|d hk hT hL=>exact .st (gL.Ms hT)
 |e h=>exact .gY hx hrw
 |l=>exact .ld hx
 |t hl hw h=>cases h with|d hk hT hL=>exact .gY hx (gL.Ms hT)
 |k hl h=>exact .gY hx hrw
 |g hl h ho=>exact uk hx h
 |o=>exact .ld hx
 |q=>exact .ld hx
 |c h ho=>exact uk hx h
 |r=>exact .add
 |w h ho=>show Ac x (iX.step t.l (t.ix _) _ x).2;rw[Tw.AN hr];exact IK hs.2.2.2.2 hx h
 |d=>exact .z
theorem TX {t}{b:Int}{σ}(hs:t.ok)(hx:x.gd)(h:wF t q b σ l):Ac x (σ.step t false x).2:=by
 cases h with
 |a=>exact .ld hx
 |b=>exact .ld hx
 |c ha hw hm=>exact .gY hx (by unfold Me.aC at*;omega)
 |m=>exact .ld hx
 |n=>exact .ld hx
 |o h hv hl hw hm=>exact .gY hx (by unfold Me.aC at*;omega)
 |k=>exact .ld hx
 |h h hw hm=>exact .gY hx (by unfold Me.aC at*;omega)
 |r=>exact .ld hx
 |j=>exact .ld hx
 |f h hk hF ho=>exact uk hx hF
 |g=>exact .add
 |w hi hk h ho=>exact IK hs.2.2.2.2 hx h
 |d=>exact .z
theorem TY {t}{b:Int}{σ}(hx:x.gd)(h:DK t q b σ l):Ac x (σ.step t true x).2:=by
 cases h with
 |a=>exact .ld hx
 |b=>exact .ld hx
 |c ha hw hm=>exact .gY hx (by unfold Me.aC at*;omega)
 |r=>exact .ld hx
 |j=>exact .ld hx
 |d=>exact .z
theorem IP {t}{c key ar high b:Int}{σ}(hs:t.ok)(vK:(0<=ar/\ar<=65534)/\0<=high/\high<=4)(hk:Me.aC key)(hx:x.gd)(h:i4 t c key ar high q b σ l):Ac x (σ.step t c key ar high x).2:=by
 cases h with
 |p0=>exact .ld hx
 |p1 hn h ho=>exact CH hx h
 |a0=>exact .ld hx
 |a1 hn hp h ho=>exact IJ hs.2.2.2.2.1 hx h
 |c0=>exact .ld hx
 |c1 hn hp h ho=>exact Pm hs.2.2.2.2 hx h
 |l0=>exact .st (by unfold Me.aC;omega)
 |l1 hn h ho=>exact rJ h
 |y0=>exact .st hk
 |y1 hr h=>exact Pn am hk h
 |i0=>exact .ld hx
 |i1 hr h ho=>exact Po hs hr hx h
 |u0=>exact .st (by unfold Me.aC;omega)
 |u1 h ho=>exact rJ h
 |d=>exact .z
theorem TZ {t}{c b:Int}{σ}(hs:t.ok)(hx:x.gd)(h:AW t c q b σ l):Ac x (σ.step t c false x).2:=by
 cases h with
 |p0=>exact .ld hx
 |p1 h ho=>exact CH hx h
 |c0=>exact .ld hx
 |c1 h ho=>exact TX hs hx h
 |u0=>exact .st (by unfold Me.aC;omega)
 |u1 h ho=>exact rJ h
 |d=>exact .z
theorem T0 {t}{c b:Int}{σ}(hs:t.ok)(hx:x.gd)(h:Cp t c q b σ l):Ac x (σ.step t c true x).2:=by
 cases h with
 |p0=>exact .ld hx
 |p1 h ho=>exact CH hx h
 |c0=>exact .ld hx
 |c1 h ho=>exact TY hx h
 |u0=>exact .st (by unfold Me.aC;omega)
 |u1 h ho=>exact rJ h
 |d=>exact .z
theorem Pp {t r}{c b:Int}{σ}(hs:t.ok)(hx:x.gd)(h:rA t r c q b σ l):Ac x (σ.step t r c x).2:=by
 cases h with
 |k h ho=>exact T0 hs hx h
 |r0=>exact .ld hx
 |r1=>exact .ld hx
 |f=>exact .st (by unfold Me.aC;omega)
 |d=>exact .z
theorem K9 {r}{v:Int}{σ}(hx:x.gd)(h:pg r v q σ l):Ac x (σ.step r v x).2:=by
 cases h with
 |s h ho=>exact IL hx h
 |d=>exact .z
end
section
variable{q vx vn vt vw vb:Nat}{cl:List AV}{lo l:List Own}{x:Xc}{y:Me}{i c w n ev now aw high:Int}{r:Rn}{o:Od}{b:Int}
theorem T1 {σ}(hn:0<=now/\now<=1099511627776)(hy:y.gd)(h:xR x vx vn vt vw n ev now q cl σ lo):Ac y (σ.step (x.ct+n) ev now y).2:=by
 cases h with
 |f=>exact .ld hy
 |r dY h ho=>exact K5 hn hy h
theorem T3 {σ}(hj:x.j.ok)(hy:y.gd)(h:rE x vx q cl σ lo):Ac y (σ.step x.j y).2:=by
 cases h with
 |f=>exact .ld hy
 |r dY h ho=>exact K6 hj hy h
theorem T4 {σ}(hw:Me.aC w)(h:xO x i w vx q cl σ lo):Ac y (σ.step x.j i w y).2:=by
 cases h with
 |f=>exact .st hw
 |r dY h ho=>exact CI hw h
theorem T5 {σ}(hw:Me.aC w)(h:xP x i w vx q cl σ lo):Ac y (σ.step x.j i w y).2:=by
 cases h with
 |f=>exact .st hw
 |r dY h ho=>exact CI hw h
theorem T6 {σ}(h:xQ x i w vx q cl σ lo):Ac y (σ.step x.j i ((w+1)%18446744073709551616) y).2:=by
 cases h with
 |f=>exact .st (by unfold Me.aC;omega)
 |r dY h ho=>exact CI (by unfold Me.aC;omega) h
theorem T7 {σ}(hy:y.gd)(h:xS x vx vn n i q cl σ lo):Ac y (σ.step (x.ring (n%x.aq)) i y).2:=by
 cases h with
 |f=>exact .ld hy
 |r dY h ho=>exact K9 hy h
theorem Mt {σ}(hj:x.j.ok)(hy:y.gd)(h:vP x i q cl σ lo):Ac y (σ.step x.j i y).2:=by
 cases h with
 |f=>exact .ld hy
 |r dY h ho=>exact K7 hj hy h
theorem Pq {σ}(hy:y.gd)(h:mL x r q cl σ lo):Ac y (σ.step r y).2:=by
 cases h with
 |f=>exact .ld hy
 |r dY h ho=>exact IM hy h
theorem Zj {σ}(hy:y.gd)(h:E4 x i q cl σ lo):Ac y (σ.stepOf x.j i y).2:=by
 cases h with
 |f=>exact .ld hy
 |r dY h ho=>exact wi hy h
theorem T8 {σ}(hy:y.gd)(h:rB x vx i q cl σ lo):Ac y (σ.stepOf x.j i y).2:=by
 cases h with
 |f=>exact .ld hy
 |r dY h ho=>exact wi hy h
theorem T9 {σ}(hy:y.gd)(h:rC x vx i q cl σ lo):Ac y (σ.stepOf x.j i y).2:=by
 cases h with
 |f=>exact .ld hy
 |r dY h ho=>exact wi hy h
theorem x4 {σ}{fr to:Int}(ht:0<=to/\to<6)(hc:0<=c/\c<64)(hy:y.gd)(h:om x i fr to c q cl σ lo):Ac y (σ.step x.j i fr to c y).2:=by
 cases h with
 |f=>exact .ld hy
 |r dY h ho=>exact K8 ht hc hy h
theorem T_ {σ}(hs:x.t.ok)(vK:(0<=i/\i<=65534)/\0<=high/\high<=4)(hk:Me.aC w)(hy:y.gd)(h:xT x c i w high vx q cl σ lo):Ac y (σ.step x.t c w i high y).2:=by
 cases h with
 |f=>exact .ld hy
 |r dY h ho=>exact IP hs vK hk hy h
theorem Ua {σ}(hs:x.t.ok)(vK:(0<=i/\i<=65534)/\0<=high/\high<=4)(hy:y.gd)(h:xU x c i w high vx q cl σ lo):Ac y (σ.step x.t c ((w+1)%18446744073709551616) i high y).2:=by
 cases h with
 |f=>exact .ld hy
 |r dY h ho=>exact IP hs vK (by unfold Me.aC;omega) hy h
theorem Pr {σ}(h:sq x r aw vb vx q cl σ lo):Ac y (σ.step r aw y).2:=by
 cases h with
 |f=>exact .st (by unfold Me.aC;omega)
 |r dY h ho=>exact K4 h
theorem Zk {σ}(hs:x.t.ok)(hy:y.gd)(h:E2 x c q cl σ lo):Ac y (σ.step x.t x.r c y).2:=by
 cases h with
 |f=>exact .ld hy
 |r dY h ho=>exact Pp hs hy h
theorem Ub {σ}(hs:x.t.ok)(hy:y.gd)(h:xV x c vx q cl σ lo):Ac y (σ.step x.t c false y).2:=by
 cases h with
 |f=>exact .ld hy
 |r dY h ho=>exact TZ hs hy h
theorem Uc {σ}(hk:o.ok x)(hy:y.gd)(h:ft x o q b σ l)(hw:σ.wd):(σ.step x o y).1.wd:=by
 cases h with
 |@r1 z=>
  show(aG.sY x o _).wd;generalize(z.step _ _ _ y).1=z';cases z' with
  |d e=>exact db (P:=aG.wd) trivial trivial
  |_=>trivial
 |@r2 z=>
  show(aG.sZ x o _).wd;generalize(z.step x.j y).1=z';cases z' with
  |d i e=>exact db (P:=aG.wd) trivial trivial
  |_=>trivial
 |r3 hv qu hi tu t=>
  have hp:=(hk.2.2 qu).2.1;show aG.wd (if _ then _ else _);split
  .trivial
  .next hn=>show Me.aC (mZ o.prio _);unfold mZ Me.aC;omega
 |r4=>exact db (P:=aG.wd) trivial hw
 |@r5 z i w=>
  show(aG.s0 x o _ _ _).wd;generalize(z.step _ _ y).1=z';cases z' with
  |d e=>exact db (P:=aG.wd) trivial trivial
  |_=>trivial
 |r6=>exact db (P:=aG.wd) trivial trivial
 |@t1 z=>
  show(aG.nZ x o _).wd;generalize(z.step _ y).1=z';cases z' with
  |d h v e=>exact db (P:=aG.wd) (db (P:=aG.wd) trivial trivial) trivial
  |_=>trivial
 |@t2 z=>
  show(aG.rl x o _ _ _).wd;generalize(z.stepOf _ _ y).1=z';cases z' with
  |d w e=>exact db (P:=aG.wd) trivial trivial
  |_=>trivial
 |t3=>exact db (P:=aG.wd) trivial trivial
 |@t4 z=>
  show(aG.s_ x o _ _ _ _).wd;generalize(z.step _ _ _ _ _ y).1=z';cases z' with
  |d e=>exact db (P:=aG.wd) trivial trivial
  |_=>trivial
 |t5=>exact db (P:=aG.wd) trivial trivial
 |t6=>exact db (P:=aG.wd) trivial trivial
 |rk=>exact db (P:=aG.wd) trivial trivial
 |p1=>exact db (P:=aG.wd) trivial trivial
 |@p2 z=>
  have:=Zi (t:=x.t) (look:=false) (c:=o.c) hy (show z.wd from hw);show(aG.kQ x o _).wd;generalize(z.step _ _ _ y).1=z' at this;cases z' with
  |d key ar e=>exact db (P:=aG.wd) (db (P:=aG.wd) trivial this) (db (P:=aG.wd) trivial trivial)
  |_=>exact this
 |p3=>exact db (P:=aG.wd) hw hw
 |p4=>exact hw
 |p5=>trivial
 |s1=>exact db (P:=aG.wd) trivial trivial
 |s2=>trivial
 |s3=>exact db (P:=aG.wd) trivial trivial
 |@s4 z i cl lo L g sv uv UL gu vx vp key aw hv hi h tu t=>
  show(aG.n8 x o _ _).wd;cases h with
  |f=>exact db (P:=aG.wd) trivial (db (P:=aG.wd) trivial (Me.aj hy _))
  |r dY h ho=>
   cases h with
   |a=>exact db (P:=aG.wd) trivial (db (P:=aG.wd) trivial (Me.aj hy _))
   |d=>cases ho
 |s5=>exact db (P:=aG.wd) hw hw
 |s6=>exact hw
 |s7=>exact db (P:=aG.wd) hw hw
 |@s8 z i w=>
  show(aG.ta x o _ _ _).wd;generalize(z.step _ _ _ _ _ y).1=z';cases z' with
  |d e=>exact db (P:=aG.wd) trivial hw
  |_=>exact hw
 |s9=>trivial
 |b1=>exact db (P:=aG.wd) hw hw
 |b2=>exact db (P:=aG.wd) hw hw
 |b3=>trivial
 |b4=>trivial
 |c1=>exact db (P:=aG.wd) trivial trivial
 |@c2 z=>
  show(aG.vH x o _ _).wd;generalize(z.stepOf _ _ y).1=z';cases z'<;>trivial
 |c3=>exact db (P:=aG.wd) trivial trivial
 |c4=>trivial
 |c5=>trivial
 |c6=>exact db (P:=aG.wd) trivial trivial
 |d=>trivial
theorem Ud {σ}(hx:x.ok)(hk:o.ok x)(hy:y.gd)(h:ft x o q b σ l)(hw:σ.wd):Ac y (σ.step x o y).2:=by
 have xz:=hx;unfold Xc.ok Tw.ok Lb.ok Ep.ok at xz;have Qb:=hk;unfold Od.ok at Qb;have hW:∀w,Me.aC ((w+1)%18446744073709551616):=λw=>by unfold Me.aC;omega
 cases h with
 |r1 hv qu h t=>exact T1 (by have:=(hk.2.2 qu).2.2;omega) hy h
 |r2 hv qu h t=>exact T3 hx.2.1 hy h
 |r3=>exact .add
 |r4 hv qu hi h tu t=>exact T4 hw h
 |r5 hv qu hi h tu t=>exact T7 hy h
 |r6 hv he h t=>exact Mt hx.2.1 hy h
 |t1 hv h tu t=>exact Pq hy h
 |t2 hv hh hi h tu t=>exact T8 hy h
 |t3 hv hh hi dL h tu t=>exact x4 am am hy h
 |t4 hv hh hi dL h tu t=>exact T_ hx.1 am dL.1 hy h
 |t5 hv he h t=>exact x4 am am hy h
 |t6 hv h t=>exact Pr h
 |rk hv h t=>exact Zk hx.1 hy h
 |p1=>exact .ld hy
 |p2 hv h t=>exact Ub hx.1 hy h
 |p3 hv hi h t=>exact x4 am am hy h
 |p4 hv hi t=>exact .st (by unfold Jb.ok Sk.ok at xz;unfold Me.aC;omega)
 |p5=>exact .st hw
 |s1=>exact .ld hy
 |s2=>exact .st w0
 |s3=>exact .ld hy
 |s4 hv hi h tu t=>exact T9 hy h
 |s5 hv hi dL h tu t=>exact x4 am am hy h
 |s6=>exact .st (by unfold Me.aC;omega)
 |s7 hv hi dL h tu t=>exact T6 h
 |s8 hv hi dL h tu t=>exact Ua hx.1 am hy h
 |s9=>exact .st w0
 |b1 hv hi he h t=>exact T5 hw h
 |b2 hv he h t=>exact x4 am am hy h
 |b3=>exact .st hw
 |b4=>exact .st (by unfold Me.aC;omega)
 |c1=>exact .ld hy
 |c2 hv hi h t=>exact Zj hy h
 |c3 hv hi h t=>exact x4 am am hy h
 |c4=>exact .st w0
 |c5=>exact .st (by unfold Me.aC;omega)
 |c6 hv h t=>exact Mt hx.2.1 hy h
 |d=>exact .z
end
structure tj where
 σ:aG
 y:Me
 b:Int
def tj.CJ (x:Xc)(o:Od)(s:tj):tj:=⟨(s.σ.step x o s.y).1,(s.σ.step x o s.y).2,if s.σ.over then s.b else s.σ.cR x o⟩
def tj.alone (x:Xc)(o:Od)(most:Int):Nat->Int->tj->Int×tj
 |0,i,s=>(i,s)
 |n+1,i,s=>if s.σ.err=14/\i<most then alone x o most n (i+1) (s.CJ x o) else(i,s)
structure tj.ok (x:Xc)(o:Od)(s:tj)(N:Int)(L:Nat):Prop where
 k:s.σ.over=false->o.ok x
 w:s.σ.wd
 y:s.y.gd
 n:s.y.n<=N
 l:s.y.ws.length=L
section
variable{B0 S:AH}{W:List Nat}{R l:List Own}{ro:List aI}{m bl q:Nat}{rest:List AV}{x:Xc}{o:Od}{vm tv:AV}{hg N:Int}{s:tj}{L:Nat}
theorem iG {σ:aG}(h:σ.over=true):∃i w e n,σ=.d i w e n:=by
 cases σ<;>first|(cases h;done)|exact⟨_,_,_,_,rfl⟩
theorem Ue (hx:x.ok)(hs:s.ok x o N L)(h:ft x o q s.b s.σ l)(H:Cx B0 W S (l++(ae m bl s.y rest++R)) ro):
  aN EM (zF 20) [.ptr q 0,.ptr m 0] S λu S'=>∃ab,(∃l',u=B (s.CJ x o).σ.over/\ft x o q (s.CJ x o).b (s.CJ x o).σ l'/\ab=l'++(ae m bl (s.CJ x o).y rest++R))/\Cx B0 W S' ab ro:=by
 obtain⟨σ,y,b⟩:=s;cases ho:σ.over with
 |false=>
  refine az (Oh hx (hs.k ho) hs.y h H) λu S' ⟨ab,⟨l',⟨h1,h2⟩,h3⟩,h4⟩=>⟨ab,⟨l',h2,h1,h3⟩,h4⟩
 |true=>
  obtain⟨i,w,e,n,rfl⟩:=iG ho;cases h with
  |d hs2 hw=>
   simp only[Xc.row,Xc.cs,Tw.cs,Lb.cs,Ar.cs,Ep.cs,lA,lB,lC] at H;refine Vx.fm H rfl ?_;cases hs2 with
   |n=>
    refine z1 ?_;exact⟨rfl,rfl,_,⟨_,rfl,.d .n hw,rfl⟩,by simp only[Xc.row,Xc.cs,Tw.cs,Lb.cs,Ar.cs,Ep.cs,lA,lB,lC];exact HQ⟩
   |s h1 h2 h3=>refine z1 ?_;exact⟨rfl,rfl,_,⟨_,rfl,.d (.s h1 h2 h3) hw,rfl⟩,by simp only[Xc.row,Xc.cs,Tw.cs,Lb.cs,Ar.cs,Ep.cs,lA,lB,lC];exact HQ⟩
theorem Uf (hx:x.ok)(hs:s.ok x o N L)(ht:s.σ.over=false->o.k=1->∃(L:List (List AV)) (c:List AV),aI.sl tv 4 L∈ro/\L[o.tk.toNat]?=some c/\c[1]?=some (I o.prio))(h:cd x o tv hg q s.b s.σ l)(H:Cx B0 W S (l++(ai m vm s.y++R)) ro):
  aN EM (zF 21) [.ptr q 0,.ptr m 0] S λu S'=>∃ab,(∃l',u=B (s.CJ x o).σ.over/\cd x o tv hg q (s.CJ x o).b (s.CJ x o).σ l'/\ab=l'++(ai m vm (s.CJ x o).y++R))/\Cx B0 W S' ab ro:=by
 obtain⟨σ,y,b⟩:=s;cases ho:σ.over with
 |false=>
  refine az (KX hx (hs.k ho) hs.y (ht ho) h H) λu S' ⟨ab,⟨l',⟨h1,h2⟩,h3⟩,h4⟩=>⟨ab,⟨l',h2,h1,h3⟩,h4⟩
 |true=>
  obtain⟨i,w,e,n,rfl⟩:=iG ho;cases h with
  |d hw=>simp only[Xc.cA,Xc.cs,Tw.cs,Lb.cs,Ar.cs,Ep.cs,lA,lB,lC] at H;refine y1 H rfl ?_;exact⟨rfl,rfl,_,⟨_,rfl,.d hw,rfl⟩,by simp only[Xc.cA,Xc.cs,Tw.cs,Lb.cs,Ar.cs,Ep.cs,lA,lB,lC];exact HQ⟩
theorem Fo {σ:aG}{y:Me}(h:σ.over=true):(σ.step x o y)=(σ,y):=by obtain⟨i,w,e,n,rfl⟩:=iG h;rfl
theorem tj.ok.Zl (hs:s.ok x o N L)(hx:x.ok)(hN:N<4611686018427387904)(h:ft x o q s.b s.σ l):(s.CJ x o).ok x o (N+1) L:=by
 obtain⟨σ,y,b⟩:=s;cases ho:σ.over with
 |true=>
  have e:=Fo (x:=x) (o:=o) (y:=y) ho;refine⟨?_,?_,?_,?_,?_⟩<;>(show _;unfold tj.CJ;dsimp only;rw[e])
  .exact hs.k
  .exact hs.w
  .exact hs.y
  .have:=hs.n;dsimp only at this⊢;omega
  .exact hs.l
 |false=>have hk:=hs.k ho;have ha:=Ud hx hk hs.y h hs.w;have hn:=hs.n;have hg:=ha.gd hs.y am;exact⟨λ_=>hk,Uc hk hs.y h hs.w,hg.1,by have:=hg.2.1;show _<=_;unfold tj.CJ;dsimp only at this hn⊢;omega,hg.2.2.trans hs.l⟩
end
section
variable{M:cP}{ro:List aI}{Φ:gz}{K:List Kf}{own:List Own}
theorem Vx.inv {α:Type}{body outs}(P:α->Nat->Prop)(vs:α->List AV)(ow:α->List Own)
  (hs:∀a n,P a n->(∀a' n',n'<n->P a' n'->Vx M (.ret .normal (vs a')) (.loop body outs::K) (ow a') ro Φ)->Vx M (body (vs a)) (.loop body outs::K) (ow a) ro Φ)
  {a0} {n0:Nat} (h0:P a0 n0):Vx M (.loop (vs a0) body outs) K (ow a0) ro Φ:=by
 have key:∀n a,P a n->Vx M (body (vs a)) (.loop body outs::K) (ow a) ro Φ:=by
  intro n;induction n using Nat.strongRecOn with
  |ind n ih=>exact λa h=>hs a n h λa' n' hn h'=>Vx.Ku (ih n' hn a' h')
 exact Vx.loop (key n0 a0 h0)
theorem Zx.aA (f:Nat){args k}(h:bP (Vx M (.call (.fn (.func f) [] []) args k) K own ro Φ)):Zx M false (.call (.fn (.func f) [] []) args k) K own ro Φ:=.z h
end
section
variable{B0 S:AH}{W:List Nat}{R l:List Own}{ro:List aI}{m bl q:Nat}{rest:List AV}{x:Xc}{o:Od}{vm tv:AV}{hg N most:Int}{s:tj}{L:Nat}
end
end Go.cG
