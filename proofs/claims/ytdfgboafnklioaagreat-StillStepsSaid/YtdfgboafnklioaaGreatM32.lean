/- Contracts. Conditions: in each theorem. -/
import Derived.Test.YtdfgboafnklioaaGreatM30
import Derived.Test.YtdfgboafnklioaaGreatM31
set_option linter.all false
set_option maxRecDepth 100000
set_option maxHeartbeats 4000000
namespace Go.cI
open Go.Proofs
section
open az
section
variable{B0 S:AH}{W:List Nat}{R l:List Own}{ro:List aF}{m bl q:Nat}{y:Me}{rest:List AV}{x:Xc}{o:Od}{b:Int}
theorem SO {z}{i:Int}:PQ x o q b m bl rest y (.s4 i z):=by
 intro B0 S W R l ro hx hk hy h H;obtain⟨dK,cR,eD,eU,eQ,eV,bt,dk,eR,eL,eo,eS,-⟩:=aS hx hk;cases h with
 |@s4 z i cl lo L g sv uv UL gu vx vp key aw hv hi h tu t=>
 simp only[lA,lB,lC] at H;have H:=Hs.cx (tgt:=.obj q _::.sl sv 1 _::(lo++(ad m bl y rest++(.obj vx (.row [.ptr q 0])::(g++(gu++(.sl uv 1 UL::.obj vp (.row [.ptr q 0])::R))))))) HQ H;refine eW (kg:=az.mG x o i (z.stepOf x.j i y).1) (y':=(z.stepOf x.j i y).2) (by rw[t.len];exact Nat.le_of_ble_eq_true rfl) (λaT h1 h2 h3 B W S H=>HM h1 h2 h3 cR hy h H) ?_ ?_ H
 .rintro b' aT A hv ⟨rfl,ho,i4,hP,rfl⟩;generalize hw:(z.stepOf x.j i y).1=w at*
  cases w<;>first|(cases ho;done)|exact⟨rfl,rfl,_,.s4 hv hi hP tu t,HQ⟩
 .rintro kQ b' aT L' ca i' aQ aR cT aP A fz h0 hs ⟨rfl,ho,hE,rfl⟩;generalize hw:(z.stepOf x.j i y).1=w at*
  cases w<;>first|(cases ho;done)|skip
  have hb:=qS.bd hy h hw;rename_i w' e';rcases hE with⟨wk,zq,hE⟩|⟨wk,zq,hE⟩|⟨wk,hE⟩
  .have e:mG x o i (.d w' e')=.s5 i w' .l:=(if_neg wk).trans ((if_neg zq).trans (by rw[bh.df hi am]));rw[e];obtain⟨rfl,rfl,rfl,rfl,rfl,rfl,rfl,rfl⟩:=hE;cases t with
   |@cons _ _ nH nZ g2 L2 h2 t2=>
   obtain⟨eM,rfl⟩:=hs.inv;exact⟨rfl,by first|rfl|exact nz,_,.s5 eM hi ⟨hb,wk⟩ (.f hi h2) tu t2,by(try simp only[lC,lA,lB,List.append_nil]);generalize ad m bl _ rest=MM;exact HQ⟩
  .have e:mG x o i (.d w' e')=.d 0 0 12 false:=(if_neg wk).trans (if_pos zq);rw[e];obtain⟨rfl,rfl,rfl,rfl,rfl,rfl,rfl,rfl⟩:=hE;exact⟨rfl,by first|rfl|exact nz,_,.d hs ac,by(try simp only[lC,lA,lB,List.append_nil]);generalize ad m bl _ rest=MM;exact HQ⟩
  .have e:mG x o i (.d w' e')=.d 0 0 5 false:=if_pos wk;rw[e];obtain⟨rfl,rfl,rfl,rfl,rfl,rfl,rfl,rfl⟩:=hE;exact⟨rfl,by first|rfl|exact nz,_,.d hs ac,by(try simp only[lC,lA,lB,List.append_nil]);generalize ad m bl _ rest=MM;exact HQ⟩
theorem SP {z}{i w:Int}:PQ x o q b m bl rest y (.s5 i w z):=by
 intro B0 S W R l ro hx hk hy h H;obtain⟨dK,cR,eD,eU,eQ,eV,bt,dk,eR,eL,eo,eS,-⟩:=aS hx hk;cases h with
 |@s5 z i w cl lo L g sv uv UL gu vx vp aw hv hi c_ h tu t=>
 simp only[lA,lB,lC] at H;have H:=Hs.cx (tgt:=.obj q _::.sl sv 1 _::(lo++(ad m bl y rest++((g++(gu++(.sl uv 1 UL::.obj vx (.row [.ptr q 0])::.obj vp (.row [.ptr q 0])::R))))))) HQ H;refine eW (kg:=if(z.step x.j i 4 3 o.c y).1.over then .s6 i w else .s5 i w (z.step x.j i 4 3 o.c y).1) (y':=(z.step x.j i 4 3 o.c y).2) (by rw[t.len];exact Nat.le_of_ble_eq_true rfl) (λaT h1 h2 h3 B W S H=>lz h1 h2 h3 cR am am am hy h H) ?_ ?_ H
 .rintro b' aT A hv ⟨rfl,ho,i4,hP,rfl⟩;generalize hw:(z.step x.j i 4 3 o.c y).1=w at*
  rw[if_neg (by rw[ho];simp)];exact⟨rfl,rfl,_,.s5 hv hi c_ hP tu t,HQ⟩
 .rintro kQ b' aT L' ca i' aQ aR cT aP A fz h0 hs ⟨rfl,ho,hE,rfl⟩;generalize hw:(z.step x.j i 4 3 o.c y).1=w at*
  rw[if_pos ho];obtain⟨rfl,rfl,rfl,rfl,rfl,rfl,rfl,rfl⟩:=hE;cases t with
  |@cons _ _ nH nZ g2 L2 h2 t2=>
  obtain⟨eM,rfl⟩:=hs.inv;obtain⟨p2,a2,b2,rfl,rfl⟩:=h2;exact⟨rfl,by first|rfl|exact nz,_,.s6 eM hi c_ tu t2,by(try simp only[lC,lA,lB,List.append_nil]);generalize ad m bl _ rest=MM;exact HQ⟩
theorem SQ {i w:Int}:PQ x o q b m bl rest y (.s6 i w):=by
 intro B0 S W R l ro hx hk hy h H;obtain⟨dK,cR,eD,eU,eQ,eV,bt,dk,eR,eL,eo,eS,-⟩:=aS hx hk;cases h with
 |@s6 i w p1 a1 b1 L g sv uv UL gu vx vp aw hv hi c_ tu t=>
 simp only[lA,lB,lC] at H;have H:=Hs.cx (tgt:=.obj q _::.sl sv 1 _::([.obj p1 (.row [.fn (.func 423) [] [.ptr a1 0,.ptr b1 0]]),.obj a1 (.row [I (x.r.runs+o.c)]),.obj b1 (.row [U 18446744073709551615])]++(ad m bl y rest++((g++(gu++(.sl uv 1 UL::.obj vx (.row [.ptr q 0])::.obj vp (.row [.ptr q 0])::R))))))) HQ H;refine eW (kg:=.s7 i w (.new x.j i)) (y':=y.st (x.r.runs+o.c) 18446744073709551615) (by rw[t.len];exact Nat.le_of_ble_eq_true rfl) (λaT h1 h2 h3 B W S H=>jc h1 h2 h3 hy am (by unfold Me.au;omega) H) ?_ ?_ H;.rintro b' aT A hv ⟨⟩
 .rintro kQ b' aT L' ca i' aQ aR cT aP A fz h0 hs ⟨rfl,ho,hE,rfl⟩;rw[bC.df hi];obtain⟨rfl,rfl,rfl,rfl,rfl,rfl,rfl,rfl⟩:=hE;cases t with
  |@cons _ _ nH nZ g2 L2 h2 t2=>
  obtain⟨eM,rfl⟩:=hs.inv;exact⟨rfl,by first|rfl|exact nz,_,.s7 eM hi c_ (.f hi h2) tu t2,by(try simp only[lC,lA,lB,List.append_nil]);generalize ad m bl _ rest=MM;exact HQ⟩
theorem SR {z}{i w:Int}:PQ x o q b m bl rest y (.s7 i w z):=by
 intro B0 S W R l ro hx hk hy h H;obtain⟨dK,cR,eD,eU,eQ,eV,bt,dk,eR,eL,eo,eS,-⟩:=aS hx hk;cases h with
 |@s7 z i w cl lo L g sv uv UL gu vx vp aw hv hi c_ h tu t=>
 simp only[lA,lB,lC] at H;have H:=Hs.cx (tgt:=.obj q _::.sl sv 1 _::(lo++(ad m bl y rest++(.obj vx (.row [.ptr q 0])::(g++(gu++(.sl uv 1 UL::.obj vp (.row [.ptr q 0])::R))))))) HQ H;refine eW (kg:=if(z.step x.j i ((w+1)%18446744073709551616) y).1.over then .s8 i w (.p .a 0) else .s7 i w (z.step x.j i ((w+1)%18446744073709551616) y).1) (y':=(z.step x.j i ((w+1)%18446744073709551616) y).2) (by rw[t.len];exact Nat.le_of_ble_eq_true rfl) (λaT h1 h2 h3 B W S H=>HG h1 h2 h3 cR hy h H) ?_ ?_ H
 .rintro b' aT A hv ⟨rfl,ho,i4,hP,rfl⟩;generalize hw:(z.step x.j i ((w+1)%18446744073709551616) y).1=w at*
  rw[if_neg (by rw[ho];simp)];exact⟨rfl,rfl,_,.s7 hv hi c_ hP tu t,HQ⟩
 .rintro kQ b' aT L' ca i' aQ aR cT aP A fz h0 hs ⟨rfl,ho,hE,rfl⟩;generalize hw:(z.step x.j i ((w+1)%18446744073709551616) y).1=w at*
  rw[if_pos ho];obtain⟨rfl,rfl,rfl,rfl,rfl,rfl,rfl,rfl⟩:=hE;cases t with
  |@cons _ _ nH nZ g2 L2 h2 t2=>
  obtain⟨eM,rfl⟩:=hs.inv;exact⟨rfl,by first|rfl|exact nz,_,.s8 eM hi c_ (.f h2) tu t2,by(try simp only[lC,lA,lB,List.append_nil]);generalize ad m bl _ rest=MM;exact HQ⟩
theorem SS {z}{i w:Int}:PQ x o q b m bl rest y (.s8 i w z):=by
 intro B0 S W R l ro hx hk hy h H;obtain⟨dK,cR,eD,eU,eQ,eV,bt,dk,eR,eL,eo,eS,-⟩:=aS hx hk;cases h with
 |@s8 z i w cl lo L g sv uv UL gu vx vp aw hv hi c_ h tu t=>
 simp only[lA,lB,lC] at H;have H:=Hs.cx (tgt:=.obj q _::.sl sv 1 _::(lo++(ad m bl y rest++(.sl uv 1 UL::.obj vx (.row [.ptr q 0])::(g++(gu++(.obj vp (.row [.ptr q 0])::R))))))) HQ H;refine eW (kg:=az.qI x o i w (z.step x.t o.c ((w+1)%18446744073709551616) i o.high y).1) (y':=(z.step x.t o.c ((w+1)%18446744073709551616) i o.high y).2) (by rw[t.len];exact Nat.le_of_ble_eq_true rfl) (λaT h1 h2 h3 B W S H=>HO h1 h2 h3 (by rw[tu.len];exact Nat.le_of_ble_eq_true rfl) dK am (by have:=c_.1;have:=c_.2;unfold Me.au bY at*;omega) ⟨am,am,am⟩ hy h H) ?_ ?_ H
 .rintro b' aT A hv ⟨rfl,ho,i4,hP,rfl⟩;generalize hw:(z.step x.t o.c ((w+1)%18446744073709551616) i o.high y).1=w at*
  cases w<;>first|(cases ho;done)|exact⟨rfl,rfl,_,.s8 hv hi c_ hP tu t,HQ⟩
 .rintro kQ b' aT L' ca i' aQ aR cT aP A fz h0 hs ⟨rfl,ho,hE,rfl⟩;generalize hw:(z.step x.t o.c ((w+1)%18446744073709551616) i o.high y).1=w at*
  cases w<;>first|(cases ho;done)|skip
  rcases hE with⟨rfl,hE⟩|⟨he,hE⟩
  .obtain⟨rfl,rfl,rfl,rfl,rfl,rfl,rfl,rfl⟩:=hE;cases t with
   |@cons _ _ nH nZ g2 L2 h2 t2=>
   obtain⟨eM,rfl⟩:=hs.inv;obtain⟨p2,a2,b2,rfl,rfl⟩:=h2;exact⟨rfl,by first|rfl|exact nz,_,.s9 eM t2,by(try simp only[lC,lA,lB,List.append_nil]);generalize ad m bl _ rest=MM;exact HQ⟩
  .obtain⟨rfl,rfl,rfl,rfl,rfl,rfl,rfl⟩:=hE;have e:∀i w:Int,0<=i/\i<x.j.f.size->qI x o i w (.d _)=.b1 i w _ .a:=λi w hi=>(if_neg he).trans (by rw[bC.df hi]);rw[e _ _ hi];cases tu with
   |@cons _ _ nH nZ g2 L2 h2 t2=>
   obtain⟨eM,rfl⟩:=hs.inv;exact⟨rfl,by first|rfl|exact nz,_,.b1 eM hi he (.f hi h2) t2,by(try simp only[lC,lA,lB,List.append_nil]);generalize ad m bl _ rest=MM;exact HQ⟩
theorem SU {i w:Int}:PQ x o q b m bl rest y (.s9 i w):=by
 intro B0 S W R l ro hx hk hy h H;obtain⟨dK,cR,eD,eU,eQ,eV,bt,dk,eR,eL,eo,eS,-⟩:=aS hx hk;cases h with
 |@s9 i w p1 a1 b1 L g sv uv vp aw hv t=>
 simp only[lA,lB,lC] at H;have H:=Hs.cx (tgt:=.obj q _::.sl sv 1 _::([.obj p1 (.row [.fn (.func 423) [] [.ptr a1 0,.ptr b1 0]]),.obj a1 (.row [I (x.own+o.c)]),.obj b1 (.row [U 0])]++(ad m bl y rest++((g++(.obj vp (.row [.ptr q 0])::R)))))) HQ H;refine eW (kg:=az.pick) (y':=y.st (x.own+o.c) 0) (by rw[t.len];exact Nat.le_of_ble_eq_true rfl) (λaT h1 h2 h3 B W S H=>jc h1 h2 h3 hy am (by unfold Me.au;omega) H) ?_ ?_ H;.rintro b' aT A hv ⟨⟩
 .rintro kQ b' aT L' ca i' aQ aR cT aP A fz h0 hs ⟨rfl,ho,hE,rfl⟩;obtain⟨rfl,rfl,rfl,rfl,rfl,rfl,rfl,rfl⟩:=hE;cases t with
  |@cons _ _ nH nZ g2 L2 h2 t2=>
  obtain⟨eM,rfl⟩:=hs.inv;exact⟨rfl,by first|rfl|exact nz,_,.p2 eM (.f h2) t2,by(try simp only[lC,lA,lB,List.append_nil]);generalize ad m bl _ rest=MM;exact HQ⟩
end
end
section
open az
section
variable{B0 S:AH}{W:List Nat}{R l:List Own}{ro:List aF}{m bl q:Nat}{y:Me}{rest:List AV}{x:Xc}{o:Od}{b:Int}
theorem SV {z}{i w e:Int}:PQ x o q b m bl rest y (.b1 i w e z):=by
 intro B0 S W R l ro hx hk hy h H;obtain⟨dK,cR,eD,eU,eQ,eV,bt,dk,eR,eL,eo,eS,-⟩:=aS hx hk;cases h with
 |@b1 z i w e cl lo L g sv uv vx aw hv hi he h t=>
 simp only[lA,lB,lC] at H;have H:=Hs.cx (tgt:=.obj q _::.sl sv 1 _::(lo++(ad m bl y rest++(.obj vx (.row [.ptr q 0])::(g++(R)))))) HQ H;refine eW (kg:=if(z.step x.j i w y).1.over then .b2 i w e (.new x.j i o.c) else .b1 i w e (z.step x.j i w y).1) (y':=(z.step x.j i w y).2) (by rw[t.len];exact Nat.le_of_ble_eq_true rfl) (λaT h1 h2 h3 B W S H=>HF h1 h2 h3 cR hy h H) ?_ ?_ H
 .rintro b' aT A hv ⟨rfl,ho,i4,hP,rfl⟩;generalize hw:(z.step x.j i w y).1=w at*
  rw[if_neg (by rw[ho];simp)];exact⟨rfl,rfl,_,.b1 hv hi he hP t,HQ⟩
 .rintro kQ b' aT L' ca i' aQ aR cT aP A fz h0 hs ⟨rfl,ho,hE,rfl⟩;generalize hw:(z.step x.j i w y).1=w at*
  rw[if_pos ho];rw[bh.df hi am];obtain⟨rfl,rfl,rfl,rfl,rfl,rfl,rfl,rfl⟩:=hE;cases t with
  |@cons _ _ nH nZ g2 L2 h2 t2=>
  obtain⟨eM,rfl⟩:=hs.inv;exact⟨rfl,by first|rfl|exact nz,_,.b2 eM he (.f hi h2) t2,by(try simp only[lC,lA,lB,List.append_nil]);generalize ad m bl _ rest=MM;exact HQ⟩
theorem SW {z}{i w e:Int}:PQ x o q b m bl rest y (.b2 i w e z):=by
 intro B0 S W R l ro hx hk hy h H;obtain⟨dK,cR,eD,eU,eQ,eV,bt,dk,eR,eL,eo,eS,-⟩:=aS hx hk;cases h with
 |@b2 z i w e cl lo L g sv uv vx aw hv he h t=>
 simp only[lA,lB,lC] at H;have H:=Hs.cx (tgt:=.obj q _::.sl sv 1 _::(lo++(ad m bl y rest++((g++(.obj vx (.row [.ptr q 0])::R)))))) HQ H;refine eW (kg:=if(z.step x.j i 3 4 o.c y).1.over then .b3 i w e else .b2 i w e (z.step x.j i 3 4 o.c y).1) (y':=(z.step x.j i 3 4 o.c y).2) (by rw[t.len];exact Nat.le_of_ble_eq_true rfl) (λaT h1 h2 h3 B W S H=>lz h1 h2 h3 cR am am am hy h H) ?_ ?_ H
 .rintro b' aT A hv ⟨rfl,ho,i4,hP,rfl⟩;generalize hw:(z.step x.j i 3 4 o.c y).1=w at*
  rw[if_neg (by rw[ho];simp)];exact⟨rfl,rfl,_,.b2 hv he hP t,HQ⟩
 .rintro kQ b' aT L' ca i' aQ aR cT aP A fz h0 hs ⟨rfl,ho,hE,rfl⟩;generalize hw:(z.step x.j i 3 4 o.c y).1=w at*
  rw[if_pos ho];obtain⟨rfl,rfl,rfl,rfl,rfl,rfl,rfl,rfl⟩:=hE;cases t with
  |@cons _ _ nH nZ g2 L2 h2 t2=>
  obtain⟨eM,rfl⟩:=hs.inv;obtain⟨p2,a2,rfl,rfl⟩:=h2;exact⟨rfl,by first|rfl|exact nz,_,.b3 eM he t2,by(try simp only[lC,lA,lB,List.append_nil]);generalize ad m bl _ rest=MM;exact HQ⟩
theorem SX {i w e:Int}:PQ x o q b m bl rest y (.b3 i w e):=by
 intro B0 S W R l ro hx hk hy h H;obtain⟨dK,cR,eD,eU,eQ,eV,bt,dk,eR,eL,eo,eS,-⟩:=aS hx hk;cases h with
 |@b3 i w e p1 a1 L g sv uv vx aw hv he t=>
 simp only[lA,lB,lC] at H;have H:=Hs.cx (tgt:=.obj q _::.sl sv 1 _::([.obj p1 (.row [.fn (.func 426) [] [.ptr a1 0,.ptr vx 0]])]++(ad m bl y rest++(.obj vx (.row [.ptr q 0])::.obj a1 (.row [I (x.r.runs+o.c)])::(g++(R)))))) HQ H;refine eW (kg:=.b4 i w e) (y':=y.st (x.r.runs+o.c) w) (by rw[t.len];exact Nat.le_of_ble_eq_true rfl) (λaT h1 h2 h3 B W S H=>Ke h1 h2 h3 hy am H) ?_ ?_ H;.rintro b' aT A hv ⟨⟩
 .rintro kQ b' aT L' ca i' aQ aR cT aP A fz h0 hs ⟨rfl,ho,hE,rfl⟩;obtain⟨rfl,rfl,rfl,rfl,rfl,rfl,rfl,rfl⟩:=hE;cases t with
  |@cons _ _ nH nZ g2 L2 h2 t2=>
  obtain⟨eM,rfl⟩:=hs.inv;obtain⟨p2,a2,b2,rfl,rfl⟩:=h2;exact⟨rfl,by first|rfl|exact nz,_,.b4 eM he t2,by(try simp only[lC,lA,lB,List.append_nil]);generalize ad m bl _ rest=MM;exact HQ⟩
theorem SY {i w e:Int}:PQ x o q b m bl rest y (.b4 i w e):=by
 intro B0 S W R l ro hx hk hy h H;obtain⟨dK,cR,eD,eU,eQ,eV,bt,dk,eR,eL,eo,eS,-⟩:=aS hx hk;cases h with
 |@b4 i w e p1 a1 b1 L g sv uv aw hv he t=>
 simp only[lA,lB,lC] at H;have H:=Hs.cx (tgt:=.obj q _::.sl sv 1 _::([.obj p1 (.row [.fn (.func 423) [] [.ptr a1 0,.ptr b1 0]]),.obj a1 (.row [I (x.r.flags+o.c)]),.obj b1 (.row [U 1])]++(ad m bl y rest++((g++(R)))))) HQ H;refine eW (kg:=.d i w e false) (y':=y.st (x.r.flags+o.c) 1) (by rw[t.len];exact Nat.le_of_ble_eq_true rfl) (λaT h1 h2 h3 B W S H=>jc h1 h2 h3 hy am (by unfold Me.au;omega) H) ?_ ?_ H;.rintro b' aT A hv ⟨⟩
 .rintro kQ b' aT L' ca i' aQ aR cT aP A fz h0 hs ⟨rfl,ho,hE,rfl⟩;obtain⟨rfl,rfl,rfl,rfl,rfl,rfl,rfl,rfl⟩:=hE;cases t;exact⟨rfl,by first|rfl|exact nz,_,.d hs (λe _=>absurd e he),by(try simp only[lC,lA,lB,List.append_nil]);generalize ad m bl _ rest=MM;exact HQ⟩
theorem SZ (hx:x.ok) (hk:o.ok x) (hy:y.gd) (h:dR x o q b (.c1) l) (H:Cx B0 W S (l++(ad m bl y rest++R)) ro):
  aG EM (zF 20) [.ptr q 0,.ptr m 0] S λu S'=>∃ab,eH (dR x o q (az.cG x o (.c1))) az.over (az.step x o (.c1) y) (ad m bl · rest) R u ab/\Cx B0 W S' ab ro:=by
 obtain⟨dK,cR,eD,eU,eQ,eV,bt,dk,eR,eL,eo,eS,-⟩:=aS hx hk;cases h with
 |@c1 p1 a1 b1 L g sv uv vx i key aw hv t=>
 simp only[lA,lB,lC] at H;have H:=Hs.cx (tgt:=.obj q _::.sl sv 1 _::([.obj p1 (.row [.fn (.func 414) [] [.ptr a1 0,.ptr b1 0]]),.obj a1 (.row [.ptr q 0]),.obj b1 (.row [.fn (.func 303) [] [.ptr vx 0]])]++(ad m bl y rest++(.obj vx (.row [.ptr q 0])::(g++(R)))))) HQ H;refine eW (kg:=if x.rd (y.word (x.own+o.c))<0 then .d 0 0 15 false else .c2 (x.rd (y.word (x.own+o.c))) (.new x.j (x.rd (y.word (x.own+o.c))))) (y':=y.ld (x.own+o.c)) (by rw[t.len];exact Nat.le_of_ble_eq_true rfl) (λaT h1 h2 h3 B W S H=>HS h1 h2 h3 hy ⟨am,am,dk⟩ H) ?_ ?_ H;.rintro b' aT A hv ⟨⟩
 .rintro kQ b' aT L' ca i' aQ aR cT aP A fz h0 hs ⟨rfl,ho,hE,rfl⟩;rcases hE with⟨hr,hE⟩|⟨hr,hE⟩
  .rw[if_neg am,bC.df (x.xH hr)];obtain⟨rfl,rfl,rfl,rfl,rfl,rfl,rfl,rfl⟩:=hE;cases t with
   |@cons _ _ nH nZ g2 L2 h2 t2=>
   obtain⟨eM,rfl⟩:=hs.inv;exact⟨rfl,by first|rfl|exact nz,_,.c2 eM (x.xH hr) (.f (x.xH hr) h2) t2,by(try simp only[lC,lA,lB,List.append_nil]);generalize ad m bl _ rest=MM;exact HQ⟩
  .rw[if_pos hr];obtain⟨rfl,rfl,rfl,rfl,rfl,rfl,rfl,rfl⟩:=hE;exact⟨rfl,by first|rfl|exact nz,_,.d hs ac,by(try simp only[lC,lA,lB,List.append_nil]);generalize ad m bl _ rest=MM;exact HQ⟩
theorem S_ {z}{i:Int}:PQ x o q b m bl rest y (.c2 i z):=by
 intro B0 S W R l ro hx hk hy h H;obtain⟨dK,cR,eD,eU,eQ,eV,bt,dk,eR,eL,eo,eS,-⟩:=aS hx hk;cases h with
 |@c2 z i cl lo L g sv uv vx key aw hv hi h t=>
 simp only[lA,lB,lC] at H;have H:=Hs.cx (tgt:=.obj q _::.sl sv 1 _::(lo++(ad m bl y rest++((g++(.obj vx (.row [.ptr q 0])::R)))))) HQ H;refine eW (kg:=az.sJ x o i (z.stepOf x.j i y).1) (y':=(z.stepOf x.j i y).2) (by rw[t.len];exact Nat.le_of_ble_eq_true rfl) (λaT h1 h2 h3 B W S H=>Kb h1 h2 h3 cR hy h H) ?_ ?_ H
 .rintro b' aT A hv ⟨rfl,ho,i4,hP,rfl⟩;generalize hw:(z.stepOf x.j i y).1=w at*
  cases w<;>first|(cases ho;done)|exact⟨rfl,rfl,_,.c2 hv hi hP t,HQ⟩
 .rintro kQ b' aT L' ca i' aQ aR cT aP A fz h0 hs ⟨rfl,ho,hE,rfl⟩;generalize hw:(z.stepOf x.j i y).1=w at*
  cases w<;>first|(cases ho;done)|skip
  rename_i w' e';have e:sJ x o i (.d w' e')=.c3 i w' .l:=by show az.c3 _ _ _=_;rw[bh.df hi am]
  rw[e];obtain⟨rfl,rfl,rfl,rfl,rfl,rfl,rfl,rfl⟩:=hE;cases t with
  |@cons _ _ nH nZ g2 L2 h2 t2=>
  obtain⟨eM,rfl⟩:=hs.inv;exact⟨rfl,by first|rfl|exact nz,_,.c3 eM hi (.f hi h2) t2,by(try simp only[lC,lA,lB,List.append_nil]);generalize ad m bl _ rest=MM;exact HQ⟩
theorem Ta {z}{i w:Int}:PQ x o q b m bl rest y (.c3 i w z):=by
 intro B0 S W R l ro hx hk hy h H;obtain⟨dK,cR,eD,eU,eQ,eV,bt,dk,eR,eL,eo,eS,-⟩:=aS hx hk;cases h with
 |@c3 z i w cl lo L g sv uv aw hv hi h t=>
 simp only[lA,lB,lC] at H;have H:=Hs.cx (tgt:=.obj q _::.sl sv 1 _::(lo++(ad m bl y rest++((g++(R)))))) HQ H;refine eW (kg:=if(z.step x.j i 4 5 o.c y).1.over then .c4 i w else .c3 i w (z.step x.j i 4 5 o.c y).1) (y':=(z.step x.j i 4 5 o.c y).2) (by rw[t.len];exact Nat.le_of_ble_eq_true rfl) (λaT h1 h2 h3 B W S H=>lz h1 h2 h3 cR am am am hy h H) ?_ ?_ H
 .rintro b' aT A hv ⟨rfl,ho,i4,hP,rfl⟩;generalize hw:(z.step x.j i 4 5 o.c y).1=w at*
  rw[if_neg (by rw[ho];simp)];exact⟨rfl,rfl,_,.c3 hv hi hP t,HQ⟩
 .rintro kQ b' aT L' ca i' aQ aR cT aP A fz h0 hs ⟨rfl,ho,hE,rfl⟩;generalize hw:(z.step x.j i 4 5 o.c y).1=w at*
  rw[if_pos ho];obtain⟨rfl,rfl,rfl,rfl,rfl,rfl,rfl,rfl⟩:=hE;cases t with
  |@cons _ _ nH nZ g2 L2 h2 t2=>
  obtain⟨eM,rfl⟩:=hs.inv;obtain⟨p2,a2,b2,rfl,rfl⟩:=h2;exact⟨rfl,by first|rfl|exact nz,_,.c4 eM hi t2,by(try simp only[lC,lA,lB,List.append_nil]);generalize ad m bl _ rest=MM;exact HQ⟩
theorem Tb {i w:Int}:PQ x o q b m bl rest y (.c4 i w):=by
 intro B0 S W R l ro hx hk hy h H;obtain⟨dK,cR,eD,eU,eQ,eV,bt,dk,eR,eL,eo,eS,-⟩:=aS hx hk;cases h with
 |@c4 i w p1 a1 b1 L g sv uv aw hv hi t=>
 simp only[lA,lB,lC] at H;have H:=Hs.cx (tgt:=.obj q _::.sl sv 1 _::([.obj p1 (.row [.fn (.func 423) [] [.ptr a1 0,.ptr b1 0]]),.obj a1 (.row [I (x.own+o.c)]),.obj b1 (.row [U 0])]++(ad m bl y rest++((g++(R)))))) HQ H;refine eW (kg:=.c5 i w) (y':=y.st (x.own+o.c) 0) (by rw[t.len];exact Nat.le_of_ble_eq_true rfl) (λaT h1 h2 h3 B W S H=>jc h1 h2 h3 hy am (by unfold Me.au;omega) H) ?_ ?_ H;.rintro b' aT A hv ⟨⟩
 .rintro kQ b' aT L' ca i' aQ aR cT aP A fz h0 hs ⟨rfl,ho,hE,rfl⟩;obtain⟨rfl,rfl,rfl,rfl,rfl,rfl,rfl,rfl⟩:=hE;cases t with
  |@cons _ _ nH nZ g2 L2 h2 t2=>
  obtain⟨eM,rfl⟩:=hs.inv;obtain⟨p2,a2,b2,rfl,rfl⟩:=h2;exact⟨rfl,by first|rfl|exact nz,_,.c5 eM hi t2,by(try simp only[lC,lA,lB,List.append_nil]);generalize ad m bl _ rest=MM;exact HQ⟩
theorem Tc {i w:Int}:PQ x o q b m bl rest y (.c5 i w):=by
 intro B0 S W R l ro hx hk hy h H;obtain⟨dK,cR,eD,eU,eQ,eV,bt,dk,eR,eL,eo,eS,-⟩:=aS hx hk;cases h with
 |@c5 i w p1 a1 b1 L g sv uv aw hv hi t=>
 simp only[lA,lB,lC] at H;have H:=Hs.cx (tgt:=.obj q _::.sl sv 1 _::([.obj p1 (.row [.fn (.func 423) [] [.ptr a1 0,.ptr b1 0]]),.obj a1 (.row [I (x.r.runs+o.c)]),.obj b1 (.row [U 18446744073709551615])]++(ad m bl y rest++((g++(R)))))) HQ H;refine eW (kg:=.c6 i w (.new x.j i)) (y':=y.st (x.r.runs+o.c) 18446744073709551615) (by rw[t.len];exact Nat.le_of_ble_eq_true rfl) (λaT h1 h2 h3 B W S H=>jc h1 h2 h3 hy am (by unfold Me.au;omega) H) ?_ ?_ H;.rintro b' aT A hv ⟨⟩
 .rintro kQ b' aT L' ca i' aQ aR cT aP A fz h0 hs ⟨rfl,ho,hE,rfl⟩;rw[cQ.df hi];obtain⟨rfl,rfl,rfl,rfl,rfl,rfl,rfl,rfl⟩:=hE;cases t with
  |@cons _ _ nH nZ g2 L2 h2 t2=>
  obtain⟨eM,rfl⟩:=hs.inv;exact⟨rfl,by first|rfl|exact nz,_,.c6 eM (.f hi h2) t2,by(try simp only[lC,lA,lB,List.append_nil]);generalize ad m bl _ rest=MM;exact HQ⟩
theorem Td {z}{i w:Int}:PQ x o q b m bl rest y (.c6 i w z):=by
 intro B0 S W R l ro hx hk hy h H;obtain⟨dK,cR,eD,eU,eQ,eV,bt,dk,eR,eL,eo,eS,-⟩:=aS hx hk;cases h with
 |@c6 z i w cl lo L g sv uv aw hv h t=>
 simp only[lA,lB,lC] at H;have H:=Hs.cx (tgt:=.obj q _::.sl sv 1 _::(lo++(ad m bl y rest++((g++(R)))))) HQ H;refine eW (kg:=if(z.step x.j i y).1.over then az.balance x i w else .c6 i w (z.step x.j i y).1) (y':=(z.step x.j i y).2) (by rw[t.len];exact Nat.le_of_ble_eq_true rfl) (λaT h1 h2 h3 B W S H=>A1 h1 h2 h3 cR hy h H) ?_ ?_ H
 .rintro b' aT A hv ⟨rfl,ho,i4,hP,rfl⟩;generalize hw:(z.step x.j i y).1=w at*
  rw[if_neg (by rw[ho];simp)];exact⟨rfl,rfl,_,.c6 hv hP t,HQ⟩
 .rintro kQ b' aT L' ca i' aQ aR cT aP A fz h0 hs ⟨rfl,ho,hE,rfl⟩;generalize hw:(z.step x.j i y).1=w at*
  rw[if_pos ho];obtain⟨rfl,rfl,rfl,rfl,rfl,rfl,rfl,rfl⟩:=hE;cases t with
  |@cons _ _ nH nZ g2 L2 h2 t2=>
  obtain⟨eM,rfl⟩:=hs.inv;exact⟨rfl,by first|rfl|exact nz,_,.pg eM (.f h2) t2,by(try simp only[lC,lA,lB,List.append_nil]);generalize ad m bl _ rest=MM;exact HQ⟩
end
end
section
variable{B0 S:AH}{W:List Nat}{R l:List Own}{ro:List aF}{m bl q:Nat}{y:Me}{rest:List AV}{x:Xc}{o:Od}{b:Int}
theorem NT {σ}(hx:x.ok)(hk:o.ok x)(hy:y.gd)(h:dR x o q b σ l)(H:Cx B0 W S (l++(ad m bl y rest++R)) ro):
  aG EM (zF 20) [.ptr q 0,.ptr m 0] S λu S'=>∃ab,eH (dR x o q (if σ.over then b else σ.cG x o)) az.over (σ.step x o y) (ad m bl · rest) R u ab/\Cx B0 W S' ab ro:=by
 cases σ with
 |d i w e n=>
  cases h with
  |d hs hw=>
   simp only[Xc.row,Xc.cs,Tw.cs,Lb.cs,Ar.cs,Ep.cs,lA,lB,lC] at H;refine Vx.fm H rfl ?_;cases hs with
   |n=>
    refine z1 ?_;exact aa rfl (.d .n hw) rfl HQ
   |s h1 h2 h3=>
    refine z1 ?_;exact aa rfl (.d (.s h1 h2 h3) hw) rfl HQ
 |r1=>exact Sq hx hk hy h H
 |r2=>exact Ss hx hk hy h H
 |r3=>exact St hx hk hy h H
 |r4=>exact Sv hx hk hy h H
 |r5=>exact Sw hx hk hy h H
 |r6=>exact Sx hx hk hy h H
 |t1=>exact Sy hx hk hy h H
 |t2=>exact Sz hx hk hy h H
 |t3=>exact SA hx hk hy h H
 |t4=>exact SB hx hk hy h H
 |t5=>exact SD hx hk hy h H
 |t6=>exact SE hx hk hy h H
 |pg=>exact NR hx hk hy h H
 |p1=>exact SF hx hk hy h H
 |p2=>exact SG hx hk hy h H
 |p3=>exact SI hx hk hy h H
 |p4=>exact SJ hx hk hy h H
 |p5=>exact SK hx hk hy h H
 |s1=>exact SL hx hk hy h H
 |s2=>exact SM hx hk hy h H
 |s3=>exact SN hx hk hy h H
 |s4=>exact SO hx hk hy h H
 |s5=>exact SP hx hk hy h H
 |s6=>exact SQ hx hk hy h H
 |s7=>exact SR hx hk hy h H
 |s8=>exact SS hx hk hy h H
 |s9=>exact SU hx hk hy h H
 |b1=>exact SV hx hk hy h H
 |b2=>exact SW hx hk hy h H
 |b3=>exact SX hx hk hy h H
 |b4=>exact SY hx hk hy h H
 |c1=>exact SZ hx hk hy h H
 |c2=>exact S_ hx hk hy h H
 |c3=>exact Ta hx hk hy h H
 |c4=>exact Tb hx hk hy h H
 |c5=>exact Tc hx hk hy h H
 |c6=>exact Td hx hk hy h H
end
end Go.cI
