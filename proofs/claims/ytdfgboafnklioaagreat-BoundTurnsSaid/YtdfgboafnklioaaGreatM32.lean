/- Contracts. Conditions: in each theorem. -/
import Derived.Test.YtdfgboafnklioaaGreatM30
import Derived.Test.YtdfgboafnklioaaGreatM31
set_option linter.all false
set_option maxRecDepth 100000
set_option maxHeartbeats 4000000
namespace Go.cO
open Go.Proofs
section
open an
section
variable{B0 S:AH}{W:List Nat}{R l:List Own}{ro:List aB}{m bl q:Nat}{y:Me}{rest:List AV}{x:Xc}{o:Od}{b:Int}
theorem SX {z}{i:Int}:PQ x o q b m bl rest y (.s4 i z):=by
 intro B0 S W R l ro hx hk hy h H;obtain⟨dT,cY,eO,fi,ff,fj,bz,dC,fk,fA,eR,fg,-⟩:=aO hx hk;cases h with
 |@s4 z i cl lo L g sv uv UL gu vx vp key au hv hi h tu t=>
 simp only[lA,lB,lC] at H;have H:=Hs.cx (tgt:=.obj q _::.sl sv 1 _::(lo++(ad m bl y rest++(.obj vx (.row [.ptr q 0])::(g++(gu++(.sl uv 1 UL::.obj vp (.row [.ptr q 0])::R))))))) HQ H;refine fl (kN:=an.lY x o i (z.stepOf x.j i y).1) (y':=(z.stepOf x.j i y).2) (by rw[t.len];exact Nat.le_of_ble_eq_true rfl) (λaP h1 h2 h3 B W S H=>HJ h1 h2 h3 cY hy h H) ?_ ?_ H
 .rintro b' aP A hv ⟨rfl,ho,ki,hP,rfl⟩;generalize hw:(z.stepOf x.j i y).1=w at*
  cases w<;>first|(cases ho;done)|exact⟨rfl,rfl,_,.s4 hv hi hP tu t,HQ⟩
 .rintro lF b' aP L' cq i' aM aN c_ aL A fW h0 hs ⟨rfl,ho,hE,rfl⟩;generalize hw:(z.stepOf x.j i y).1=w at*
  cases w<;>first|(cases ho;done)|skip
  have hb:=q9.bd hy h hw;rename_i w' e';rcases hE with⟨wT,tC,hE⟩|⟨wT,tC,hE⟩|⟨wT,hE⟩
  .have e:lY x o i (.d w' e')=.s5 i w' .l:=(if_neg wT).trans ((if_neg tC).trans (by rw[aZ.dy hi am]));rw[e];obtain⟨rfl,rfl,rfl,rfl,rfl,rfl,rfl,rfl⟩:=hE;cases t with
   |@cons _ _ nX oL g2 L2 h2 t2=>
   obtain⟨eZ,rfl⟩:=hs.inv;exact⟨rfl,by first|rfl|exact nz,_,.s5 eZ hi ⟨hb,wT⟩ (.f hi h2) tu t2,by(try simp only[lC,lA,lB,List.append_nil]);generalize ad m bl _ rest=MM;exact HQ⟩
  .have e:lY x o i (.d w' e')=.d 0 0 12 false:=(if_neg wT).trans (if_pos tC);rw[e];obtain⟨rfl,rfl,rfl,rfl,rfl,rfl,rfl,rfl⟩:=hE;exact⟨rfl,by first|rfl|exact nz,_,.d hs ac,by(try simp only[lC,lA,lB,List.append_nil]);generalize ad m bl _ rest=MM;exact HQ⟩
  .have e:lY x o i (.d w' e')=.d 0 0 5 false:=if_pos wT;rw[e];obtain⟨rfl,rfl,rfl,rfl,rfl,rfl,rfl,rfl⟩:=hE;exact⟨rfl,by first|rfl|exact nz,_,.d hs ac,by(try simp only[lC,lA,lB,List.append_nil]);generalize ad m bl _ rest=MM;exact HQ⟩
theorem SY {z}{i w:Int}:PQ x o q b m bl rest y (.s5 i w z):=by
 intro B0 S W R l ro hx hk hy h H;obtain⟨dT,cY,eO,fi,ff,fj,bz,dC,fk,fA,eR,fg,-⟩:=aO hx hk;cases h with
 |@s5 z i w cl lo L g sv uv UL gu vx vp au hv hi dt h tu t=>
 simp only[lA,lB,lC] at H;have H:=Hs.cx (tgt:=.obj q _::.sl sv 1 _::(lo++(ad m bl y rest++((g++(gu++(.sl uv 1 UL::.obj vx (.row [.ptr q 0])::.obj vp (.row [.ptr q 0])::R))))))) HQ H;refine fl (kN:=if(z.step x.j i 4 3 o.c y).1.over then .s6 i w else .s5 i w (z.step x.j i 4 3 o.c y).1) (y':=(z.step x.j i 4 3 o.c y).2) (by rw[t.len];exact Nat.le_of_ble_eq_true rfl) (λaP h1 h2 h3 B W S H=>l7 h1 h2 h3 cY am am am hy h H) ?_ ?_ H
 .rintro b' aP A hv ⟨rfl,ho,ki,hP,rfl⟩;generalize hw:(z.step x.j i 4 3 o.c y).1=w at*
  rw[if_neg (by rw[ho];simp)];exact⟨rfl,rfl,_,.s5 hv hi dt hP tu t,HQ⟩
 .rintro lF b' aP L' cq i' aM aN c_ aL A fW h0 hs ⟨rfl,ho,hE,rfl⟩;generalize hw:(z.step x.j i 4 3 o.c y).1=w at*
  rw[if_pos ho];obtain⟨rfl,rfl,rfl,rfl,rfl,rfl,rfl,rfl⟩:=hE;cases t with
  |@cons _ _ nX oL g2 L2 h2 t2=>
  obtain⟨eZ,rfl⟩:=hs.inv;obtain⟨p2,a2,b2,rfl,rfl⟩:=h2;exact⟨rfl,by first|rfl|exact nz,_,.s6 eZ hi dt tu t2,by(try simp only[lC,lA,lB,List.append_nil]);generalize ad m bl _ rest=MM;exact HQ⟩
theorem SZ {i w:Int}:PQ x o q b m bl rest y (.s6 i w):=by
 intro B0 S W R l ro hx hk hy h H;obtain⟨dT,cY,eO,fi,ff,fj,bz,dC,fk,fA,eR,fg,-⟩:=aO hx hk;cases h with
 |@s6 i w p1 a1 b1 L g sv uv UL gu vx vp au hv hi dt tu t=>
 simp only[lA,lB,lC] at H;have H:=Hs.cx (tgt:=.obj q _::.sl sv 1 _::([.obj p1 (.row [.fn (.func 423) [] [.ptr a1 0,.ptr b1 0]]),.obj a1 (.row [I (x.r.runs+o.c)]),.obj b1 (.row [U 18446744073709551615])]++(ad m bl y rest++((g++(gu++(.sl uv 1 UL::.obj vx (.row [.ptr q 0])::.obj vp (.row [.ptr q 0])::R))))))) HQ H;refine fl (kN:=.s7 i w (.new x.j i)) (y':=y.st (x.r.runs+o.c) 18446744073709551615) (by rw[t.len];exact Nat.le_of_ble_eq_true rfl) (λaP h1 h2 h3 B W S H=>jK h1 h2 h3 hy am (by unfold Me.ar;omega) H) ?_ ?_ H;.rintro b' aP A hv ⟨⟩
 .rintro lF b' aP L' cq i' aM aN c_ aL A fW h0 hs ⟨rfl,ho,hE,rfl⟩;rw[bF.dy hi];obtain⟨rfl,rfl,rfl,rfl,rfl,rfl,rfl,rfl⟩:=hE;cases t with
  |@cons _ _ nX oL g2 L2 h2 t2=>
  obtain⟨eZ,rfl⟩:=hs.inv;exact⟨rfl,by first|rfl|exact nz,_,.s7 eZ hi dt (.f hi h2) tu t2,by(try simp only[lC,lA,lB,List.append_nil]);generalize ad m bl _ rest=MM;exact HQ⟩
theorem S_ {z}{i w:Int}:PQ x o q b m bl rest y (.s7 i w z):=by
 intro B0 S W R l ro hx hk hy h H;obtain⟨dT,cY,eO,fi,ff,fj,bz,dC,fk,fA,eR,fg,-⟩:=aO hx hk;cases h with
 |@s7 z i w cl lo L g sv uv UL gu vx vp au hv hi dt h tu t=>
 simp only[lA,lB,lC] at H;have H:=Hs.cx (tgt:=.obj q _::.sl sv 1 _::(lo++(ad m bl y rest++(.obj vx (.row [.ptr q 0])::(g++(gu++(.sl uv 1 UL::.obj vp (.row [.ptr q 0])::R))))))) HQ H;refine fl (kN:=if(z.step x.j i ((w+1)%18446744073709551616) y).1.over then .s8 i w (.p .a 0) else .s7 i w (z.step x.j i ((w+1)%18446744073709551616) y).1) (y':=(z.step x.j i ((w+1)%18446744073709551616) y).2) (by rw[t.len];exact Nat.le_of_ble_eq_true rfl) (λaP h1 h2 h3 B W S H=>HD h1 h2 h3 cY hy h H) ?_ ?_ H
 .rintro b' aP A hv ⟨rfl,ho,ki,hP,rfl⟩;generalize hw:(z.step x.j i ((w+1)%18446744073709551616) y).1=w at*
  rw[if_neg (by rw[ho];simp)];exact⟨rfl,rfl,_,.s7 hv hi dt hP tu t,HQ⟩
 .rintro lF b' aP L' cq i' aM aN c_ aL A fW h0 hs ⟨rfl,ho,hE,rfl⟩;generalize hw:(z.step x.j i ((w+1)%18446744073709551616) y).1=w at*
  rw[if_pos ho];obtain⟨rfl,rfl,rfl,rfl,rfl,rfl,rfl,rfl⟩:=hE;cases t with
  |@cons _ _ nX oL g2 L2 h2 t2=>
  obtain⟨eZ,rfl⟩:=hs.inv;exact⟨rfl,by first|rfl|exact nz,_,.s8 eZ hi dt (.f h2) tu t2,by(try simp only[lC,lA,lB,List.append_nil]);generalize ad m bl _ rest=MM;exact HQ⟩
theorem Ta {z}{i w:Int}:PQ x o q b m bl rest y (.s8 i w z):=by
 intro B0 S W R l ro hx hk hy h H;obtain⟨dT,cY,eO,fi,ff,fj,bz,dC,fk,fA,eR,fg,-⟩:=aO hx hk;cases h with
 |@s8 z i w cl lo L g sv uv UL gu vx vp au hv hi dt h tu t=>
 simp only[lA,lB,lC] at H;have H:=Hs.cx (tgt:=.obj q _::.sl sv 1 _::(lo++(ad m bl y rest++(.sl uv 1 UL::.obj vx (.row [.ptr q 0])::(g++(gu++(.obj vp (.row [.ptr q 0])::R))))))) HQ H;refine fl (kN:=an.o5 x o i w (z.step x.t o.c ((w+1)%18446744073709551616) i o.high y).1) (y':=(z.step x.t o.c ((w+1)%18446744073709551616) i o.high y).2) (by rw[t.len];exact Nat.le_of_ble_eq_true rfl) (λaP h1 h2 h3 B W S H=>HL h1 h2 h3 (by rw[tu.len];exact Nat.le_of_ble_eq_true rfl) dT am (by have:=dt.1;have:=dt.2;unfold Me.ar b_ at*;omega) ⟨am,am,am⟩ hy h H) ?_ ?_ H
 .rintro b' aP A hv ⟨rfl,ho,ki,hP,rfl⟩;generalize hw:(z.step x.t o.c ((w+1)%18446744073709551616) i o.high y).1=w at*
  cases w<;>first|(cases ho;done)|exact⟨rfl,rfl,_,.s8 hv hi dt hP tu t,HQ⟩
 .rintro lF b' aP L' cq i' aM aN c_ aL A fW h0 hs ⟨rfl,ho,hE,rfl⟩;generalize hw:(z.step x.t o.c ((w+1)%18446744073709551616) i o.high y).1=w at*
  cases w<;>first|(cases ho;done)|skip
  rcases hE with⟨rfl,hE⟩|⟨he,hE⟩
  .obtain⟨rfl,rfl,rfl,rfl,rfl,rfl,rfl,rfl⟩:=hE;cases t with
   |@cons _ _ nX oL g2 L2 h2 t2=>
   obtain⟨eZ,rfl⟩:=hs.inv;obtain⟨p2,a2,b2,rfl,rfl⟩:=h2;exact⟨rfl,by first|rfl|exact nz,_,.s9 eZ t2,by(try simp only[lC,lA,lB,List.append_nil]);generalize ad m bl _ rest=MM;exact HQ⟩
  .obtain⟨rfl,rfl,rfl,rfl,rfl,rfl,rfl⟩:=hE;have e:∀i w:Int,0<=i/\i<x.j.f.size->o5 x o i w (.d _)=.b1 i w _ .a:=λi w hi=>(if_neg he).trans (by rw[bF.dy hi]);rw[e _ _ hi];cases tu with
   |@cons _ _ nX oL g2 L2 h2 t2=>
   obtain⟨eZ,rfl⟩:=hs.inv;exact⟨rfl,by first|rfl|exact nz,_,.b1 eZ hi he (.f hi h2) t2,by(try simp only[lC,lA,lB,List.append_nil]);generalize ad m bl _ rest=MM;exact HQ⟩
theorem Tb {i w:Int}:PQ x o q b m bl rest y (.s9 i w):=by
 intro B0 S W R l ro hx hk hy h H;obtain⟨dT,cY,eO,fi,ff,fj,bz,dC,fk,fA,eR,fg,-⟩:=aO hx hk;cases h with
 |@s9 i w p1 a1 b1 L g sv uv vp au hv t=>
 simp only[lA,lB,lC] at H;have H:=Hs.cx (tgt:=.obj q _::.sl sv 1 _::([.obj p1 (.row [.fn (.func 423) [] [.ptr a1 0,.ptr b1 0]]),.obj a1 (.row [I (x.own+o.c)]),.obj b1 (.row [U 0])]++(ad m bl y rest++((g++(.obj vp (.row [.ptr q 0])::R)))))) HQ H;refine fl (kN:=an.pick) (y':=y.st (x.own+o.c) 0) (by rw[t.len];exact Nat.le_of_ble_eq_true rfl) (λaP h1 h2 h3 B W S H=>jK h1 h2 h3 hy am (by unfold Me.ar;omega) H) ?_ ?_ H;.rintro b' aP A hv ⟨⟩
 .rintro lF b' aP L' cq i' aM aN c_ aL A fW h0 hs ⟨rfl,ho,hE,rfl⟩;obtain⟨rfl,rfl,rfl,rfl,rfl,rfl,rfl,rfl⟩:=hE;cases t with
  |@cons _ _ nX oL g2 L2 h2 t2=>
  obtain⟨eZ,rfl⟩:=hs.inv;exact⟨rfl,by first|rfl|exact nz,_,.p2 eZ (.f h2) t2,by(try simp only[lC,lA,lB,List.append_nil]);generalize ad m bl _ rest=MM;exact HQ⟩
end
end
section
open an
section
variable{B0 S:AH}{W:List Nat}{R l:List Own}{ro:List aB}{m bl q:Nat}{y:Me}{rest:List AV}{x:Xc}{o:Od}{b:Int}
theorem Tc {z}{i w e:Int}:PQ x o q b m bl rest y (.b1 i w e z):=by
 intro B0 S W R l ro hx hk hy h H;obtain⟨dT,cY,eO,fi,ff,fj,bz,dC,fk,fA,eR,fg,-⟩:=aO hx hk;cases h with
 |@b1 z i w e cl lo L g sv uv vx au hv hi he h t=>
 simp only[lA,lB,lC] at H;have H:=Hs.cx (tgt:=.obj q _::.sl sv 1 _::(lo++(ad m bl y rest++(.obj vx (.row [.ptr q 0])::(g++(R)))))) HQ H;refine fl (kN:=if(z.step x.j i w y).1.over then .b2 i w e (.new x.j i o.c) else .b1 i w e (z.step x.j i w y).1) (y':=(z.step x.j i w y).2) (by rw[t.len];exact Nat.le_of_ble_eq_true rfl) (λaP h1 h2 h3 B W S H=>HC h1 h2 h3 cY hy h H) ?_ ?_ H
 .rintro b' aP A hv ⟨rfl,ho,ki,hP,rfl⟩;generalize hw:(z.step x.j i w y).1=w at*
  rw[if_neg (by rw[ho];simp)];exact⟨rfl,rfl,_,.b1 hv hi he hP t,HQ⟩
 .rintro lF b' aP L' cq i' aM aN c_ aL A fW h0 hs ⟨rfl,ho,hE,rfl⟩;generalize hw:(z.step x.j i w y).1=w at*
  rw[if_pos ho];rw[aZ.dy hi am];obtain⟨rfl,rfl,rfl,rfl,rfl,rfl,rfl,rfl⟩:=hE;cases t with
  |@cons _ _ nX oL g2 L2 h2 t2=>
  obtain⟨eZ,rfl⟩:=hs.inv;exact⟨rfl,by first|rfl|exact nz,_,.b2 eZ he (.f hi h2) t2,by(try simp only[lC,lA,lB,List.append_nil]);generalize ad m bl _ rest=MM;exact HQ⟩
theorem Td {z}{i w e:Int}:PQ x o q b m bl rest y (.b2 i w e z):=by
 intro B0 S W R l ro hx hk hy h H;obtain⟨dT,cY,eO,fi,ff,fj,bz,dC,fk,fA,eR,fg,-⟩:=aO hx hk;cases h with
 |@b2 z i w e cl lo L g sv uv vx au hv he h t=>
 simp only[lA,lB,lC] at H;have H:=Hs.cx (tgt:=.obj q _::.sl sv 1 _::(lo++(ad m bl y rest++((g++(.obj vx (.row [.ptr q 0])::R)))))) HQ H;refine fl (kN:=if(z.step x.j i 3 4 o.c y).1.over then .b3 i w e else .b2 i w e (z.step x.j i 3 4 o.c y).1) (y':=(z.step x.j i 3 4 o.c y).2) (by rw[t.len];exact Nat.le_of_ble_eq_true rfl) (λaP h1 h2 h3 B W S H=>l7 h1 h2 h3 cY am am am hy h H) ?_ ?_ H
 .rintro b' aP A hv ⟨rfl,ho,ki,hP,rfl⟩;generalize hw:(z.step x.j i 3 4 o.c y).1=w at*
  rw[if_neg (by rw[ho];simp)];exact⟨rfl,rfl,_,.b2 hv he hP t,HQ⟩
 .rintro lF b' aP L' cq i' aM aN c_ aL A fW h0 hs ⟨rfl,ho,hE,rfl⟩;generalize hw:(z.step x.j i 3 4 o.c y).1=w at*
  rw[if_pos ho];obtain⟨rfl,rfl,rfl,rfl,rfl,rfl,rfl,rfl⟩:=hE;cases t with
  |@cons _ _ nX oL g2 L2 h2 t2=>
  obtain⟨eZ,rfl⟩:=hs.inv;obtain⟨p2,a2,rfl,rfl⟩:=h2;exact⟨rfl,by first|rfl|exact nz,_,.b3 eZ he t2,by(try simp only[lC,lA,lB,List.append_nil]);generalize ad m bl _ rest=MM;exact HQ⟩
theorem Te {i w e:Int}:PQ x o q b m bl rest y (.b3 i w e):=by
 intro B0 S W R l ro hx hk hy h H;obtain⟨dT,cY,eO,fi,ff,fj,bz,dC,fk,fA,eR,fg,-⟩:=aO hx hk;cases h with
 |@b3 i w e p1 a1 L g sv uv vx au hv he t=>
 simp only[lA,lB,lC] at H;have H:=Hs.cx (tgt:=.obj q _::.sl sv 1 _::([.obj p1 (.row [.fn (.func 426) [] [.ptr a1 0,.ptr vx 0]])]++(ad m bl y rest++(.obj vx (.row [.ptr q 0])::.obj a1 (.row [I (x.r.runs+o.c)])::(g++(R)))))) HQ H;refine fl (kN:=.b4 i w e) (y':=y.st (x.r.runs+o.c) w) (by rw[t.len];exact Nat.le_of_ble_eq_true rfl) (λaP h1 h2 h3 B W S H=>J7 h1 h2 h3 hy am H) ?_ ?_ H;.rintro b' aP A hv ⟨⟩
 .rintro lF b' aP L' cq i' aM aN c_ aL A fW h0 hs ⟨rfl,ho,hE,rfl⟩;obtain⟨rfl,rfl,rfl,rfl,rfl,rfl,rfl,rfl⟩:=hE;cases t with
  |@cons _ _ nX oL g2 L2 h2 t2=>
  obtain⟨eZ,rfl⟩:=hs.inv;obtain⟨p2,a2,b2,rfl,rfl⟩:=h2;exact⟨rfl,by first|rfl|exact nz,_,.b4 eZ he t2,by(try simp only[lC,lA,lB,List.append_nil]);generalize ad m bl _ rest=MM;exact HQ⟩
theorem Tf {i w e:Int}:PQ x o q b m bl rest y (.b4 i w e):=by
 intro B0 S W R l ro hx hk hy h H;obtain⟨dT,cY,eO,fi,ff,fj,bz,dC,fk,fA,eR,fg,-⟩:=aO hx hk;cases h with
 |@b4 i w e p1 a1 b1 L g sv uv au hv he t=>
 simp only[lA,lB,lC] at H;have H:=Hs.cx (tgt:=.obj q _::.sl sv 1 _::([.obj p1 (.row [.fn (.func 423) [] [.ptr a1 0,.ptr b1 0]]),.obj a1 (.row [I (x.r.flags+o.c)]),.obj b1 (.row [U 1])]++(ad m bl y rest++((g++(R)))))) HQ H;refine fl (kN:=.d i w e false) (y':=y.st (x.r.flags+o.c) 1) (by rw[t.len];exact Nat.le_of_ble_eq_true rfl) (λaP h1 h2 h3 B W S H=>jK h1 h2 h3 hy am (by unfold Me.ar;omega) H) ?_ ?_ H;.rintro b' aP A hv ⟨⟩
 .rintro lF b' aP L' cq i' aM aN c_ aL A fW h0 hs ⟨rfl,ho,hE,rfl⟩;obtain⟨rfl,rfl,rfl,rfl,rfl,rfl,rfl,rfl⟩:=hE;cases t;exact⟨rfl,by first|rfl|exact nz,_,.d hs (λe _=>absurd e he),by(try simp only[lC,lA,lB,List.append_nil]);generalize ad m bl _ rest=MM;exact HQ⟩
theorem Tg (hx:x.ok) (hk:o.ok x) (hy:y.gd) (h:eP x o q b (.c1) l) (H:Cx B0 W S (l++(ad m bl y rest++R)) ro):
  aG EM (zF 20) [.ptr q 0,.ptr m 0] S λu S'=>∃ab,eW (eP x o q (an.cM x o (.c1))) an.over (an.step x o (.c1) y) (ad m bl · rest) R u ab/\Cx B0 W S' ab ro:=by
 obtain⟨dT,cY,eO,fi,ff,fj,bz,dC,fk,fA,eR,fg,-⟩:=aO hx hk;cases h with
 |@c1 p1 a1 b1 L g sv uv vx i key au hv t=>
 simp only[lA,lB,lC] at H;have H:=Hs.cx (tgt:=.obj q _::.sl sv 1 _::([.obj p1 (.row [.fn (.func 414) [] [.ptr a1 0,.ptr b1 0]]),.obj a1 (.row [.ptr q 0]),.obj b1 (.row [.fn (.func 303) [] [.ptr vx 0]])]++(ad m bl y rest++(.obj vx (.row [.ptr q 0])::(g++(R)))))) HQ H;refine fl (kN:=if x.rd (y.word (x.own+o.c))<0 then .d 0 0 15 false else .c2 (x.rd (y.word (x.own+o.c))) (.new x.j (x.rd (y.word (x.own+o.c))))) (y':=y.ld (x.own+o.c)) (by rw[t.len];exact Nat.le_of_ble_eq_true rfl) (λaP h1 h2 h3 B W S H=>HO h1 h2 h3 hy ⟨am,am,dC⟩ H) ?_ ?_ H;.rintro b' aP A hv ⟨⟩
 .rintro lF b' aP L' cq i' aM aN c_ aL A fW h0 hs ⟨rfl,ho,hE,rfl⟩;rcases hE with⟨hr,hE⟩|⟨hr,hE⟩
  .rw[if_neg am,bF.dy (x.xp hr)];obtain⟨rfl,rfl,rfl,rfl,rfl,rfl,rfl,rfl⟩:=hE;cases t with
   |@cons _ _ nX oL g2 L2 h2 t2=>
   obtain⟨eZ,rfl⟩:=hs.inv;exact⟨rfl,by first|rfl|exact nz,_,.c2 eZ (x.xp hr) (.f (x.xp hr) h2) t2,by(try simp only[lC,lA,lB,List.append_nil]);generalize ad m bl _ rest=MM;exact HQ⟩
  .rw[if_pos hr];obtain⟨rfl,rfl,rfl,rfl,rfl,rfl,rfl,rfl⟩:=hE;exact⟨rfl,by first|rfl|exact nz,_,.d hs ac,by(try simp only[lC,lA,lB,List.append_nil]);generalize ad m bl _ rest=MM;exact HQ⟩
theorem Th {z}{i:Int}:PQ x o q b m bl rest y (.c2 i z):=by
 intro B0 S W R l ro hx hk hy h H;obtain⟨dT,cY,eO,fi,ff,fj,bz,dC,fk,fA,eR,fg,-⟩:=aO hx hk;cases h with
 |@c2 z i cl lo L g sv uv vx key au hv hi h t=>
 simp only[lA,lB,lC] at H;have H:=Hs.cx (tgt:=.obj q _::.sl sv 1 _::(lo++(ad m bl y rest++((g++(.obj vx (.row [.ptr q 0])::R)))))) HQ H;refine fl (kN:=an.qR x o i (z.stepOf x.j i y).1) (y':=(z.stepOf x.j i y).2) (by rw[t.len];exact Nat.le_of_ble_eq_true rfl) (λaP h1 h2 h3 B W S H=>J4 h1 h2 h3 cY hy h H) ?_ ?_ H
 .rintro b' aP A hv ⟨rfl,ho,ki,hP,rfl⟩;generalize hw:(z.stepOf x.j i y).1=w at*
  cases w<;>first|(cases ho;done)|exact⟨rfl,rfl,_,.c2 hv hi hP t,HQ⟩
 .rintro lF b' aP L' cq i' aM aN c_ aL A fW h0 hs ⟨rfl,ho,hE,rfl⟩;generalize hw:(z.stepOf x.j i y).1=w at*
  cases w<;>first|(cases ho;done)|skip
  rename_i w' e';have e:qR x o i (.d w' e')=.c3 i w' .l:=by show an.c3 _ _ _=_;rw[aZ.dy hi am]
  rw[e];obtain⟨rfl,rfl,rfl,rfl,rfl,rfl,rfl,rfl⟩:=hE;cases t with
  |@cons _ _ nX oL g2 L2 h2 t2=>
  obtain⟨eZ,rfl⟩:=hs.inv;exact⟨rfl,by first|rfl|exact nz,_,.c3 eZ hi (.f hi h2) t2,by(try simp only[lC,lA,lB,List.append_nil]);generalize ad m bl _ rest=MM;exact HQ⟩
theorem Ti {z}{i w:Int}:PQ x o q b m bl rest y (.c3 i w z):=by
 intro B0 S W R l ro hx hk hy h H;obtain⟨dT,cY,eO,fi,ff,fj,bz,dC,fk,fA,eR,fg,-⟩:=aO hx hk;cases h with
 |@c3 z i w cl lo L g sv uv au hv hi h t=>
 simp only[lA,lB,lC] at H;have H:=Hs.cx (tgt:=.obj q _::.sl sv 1 _::(lo++(ad m bl y rest++((g++(R)))))) HQ H;refine fl (kN:=if(z.step x.j i 4 5 o.c y).1.over then .c4 i w else .c3 i w (z.step x.j i 4 5 o.c y).1) (y':=(z.step x.j i 4 5 o.c y).2) (by rw[t.len];exact Nat.le_of_ble_eq_true rfl) (λaP h1 h2 h3 B W S H=>l7 h1 h2 h3 cY am am am hy h H) ?_ ?_ H
 .rintro b' aP A hv ⟨rfl,ho,ki,hP,rfl⟩;generalize hw:(z.step x.j i 4 5 o.c y).1=w at*
  rw[if_neg (by rw[ho];simp)];exact⟨rfl,rfl,_,.c3 hv hi hP t,HQ⟩
 .rintro lF b' aP L' cq i' aM aN c_ aL A fW h0 hs ⟨rfl,ho,hE,rfl⟩;generalize hw:(z.step x.j i 4 5 o.c y).1=w at*
  rw[if_pos ho];obtain⟨rfl,rfl,rfl,rfl,rfl,rfl,rfl,rfl⟩:=hE;cases t with
  |@cons _ _ nX oL g2 L2 h2 t2=>
  obtain⟨eZ,rfl⟩:=hs.inv;obtain⟨p2,a2,b2,rfl,rfl⟩:=h2;exact⟨rfl,by first|rfl|exact nz,_,.c4 eZ hi t2,by(try simp only[lC,lA,lB,List.append_nil]);generalize ad m bl _ rest=MM;exact HQ⟩
theorem Tj {i w:Int}:PQ x o q b m bl rest y (.c4 i w):=by
 intro B0 S W R l ro hx hk hy h H;obtain⟨dT,cY,eO,fi,ff,fj,bz,dC,fk,fA,eR,fg,-⟩:=aO hx hk;cases h with
 |@c4 i w p1 a1 b1 L g sv uv au hv hi t=>
 simp only[lA,lB,lC] at H;have H:=Hs.cx (tgt:=.obj q _::.sl sv 1 _::([.obj p1 (.row [.fn (.func 423) [] [.ptr a1 0,.ptr b1 0]]),.obj a1 (.row [I (x.own+o.c)]),.obj b1 (.row [U 0])]++(ad m bl y rest++((g++(R)))))) HQ H;refine fl (kN:=.c5 i w) (y':=y.st (x.own+o.c) 0) (by rw[t.len];exact Nat.le_of_ble_eq_true rfl) (λaP h1 h2 h3 B W S H=>jK h1 h2 h3 hy am (by unfold Me.ar;omega) H) ?_ ?_ H;.rintro b' aP A hv ⟨⟩
 .rintro lF b' aP L' cq i' aM aN c_ aL A fW h0 hs ⟨rfl,ho,hE,rfl⟩;obtain⟨rfl,rfl,rfl,rfl,rfl,rfl,rfl,rfl⟩:=hE;cases t with
  |@cons _ _ nX oL g2 L2 h2 t2=>
  obtain⟨eZ,rfl⟩:=hs.inv;obtain⟨p2,a2,b2,rfl,rfl⟩:=h2;exact⟨rfl,by first|rfl|exact nz,_,.c5 eZ hi t2,by(try simp only[lC,lA,lB,List.append_nil]);generalize ad m bl _ rest=MM;exact HQ⟩
theorem Tl {i w:Int}:PQ x o q b m bl rest y (.c5 i w):=by
 intro B0 S W R l ro hx hk hy h H;obtain⟨dT,cY,eO,fi,ff,fj,bz,dC,fk,fA,eR,fg,-⟩:=aO hx hk;cases h with
 |@c5 i w p1 a1 b1 L g sv uv au hv hi t=>
 simp only[lA,lB,lC] at H;have H:=Hs.cx (tgt:=.obj q _::.sl sv 1 _::([.obj p1 (.row [.fn (.func 423) [] [.ptr a1 0,.ptr b1 0]]),.obj a1 (.row [I (x.r.runs+o.c)]),.obj b1 (.row [U 18446744073709551615])]++(ad m bl y rest++((g++(R)))))) HQ H;refine fl (kN:=.c6 i w (.new x.j i)) (y':=y.st (x.r.runs+o.c) 18446744073709551615) (by rw[t.len];exact Nat.le_of_ble_eq_true rfl) (λaP h1 h2 h3 B W S H=>jK h1 h2 h3 hy am (by unfold Me.ar;omega) H) ?_ ?_ H;.rintro b' aP A hv ⟨⟩
 .rintro lF b' aP L' cq i' aM aN c_ aL A fW h0 hs ⟨rfl,ho,hE,rfl⟩;rw[cX.dy hi];obtain⟨rfl,rfl,rfl,rfl,rfl,rfl,rfl,rfl⟩:=hE;cases t with
  |@cons _ _ nX oL g2 L2 h2 t2=>
  obtain⟨eZ,rfl⟩:=hs.inv;exact⟨rfl,by first|rfl|exact nz,_,.c6 eZ (.f hi h2) t2,by(try simp only[lC,lA,lB,List.append_nil]);generalize ad m bl _ rest=MM;exact HQ⟩
theorem Tm {z}{i w:Int}:PQ x o q b m bl rest y (.c6 i w z):=by
 intro B0 S W R l ro hx hk hy h H;obtain⟨dT,cY,eO,fi,ff,fj,bz,dC,fk,fA,eR,fg,-⟩:=aO hx hk;cases h with
 |@c6 z i w cl lo L g sv uv au hv h t=>
 simp only[lA,lB,lC] at H;have H:=Hs.cx (tgt:=.obj q _::.sl sv 1 _::(lo++(ad m bl y rest++((g++(R)))))) HQ H;refine fl (kN:=if(z.step x.j i y).1.over then an.balance x i w else .c6 i w (z.step x.j i y).1) (y':=(z.step x.j i y).2) (by rw[t.len];exact Nat.le_of_ble_eq_true rfl) (λaP h1 h2 h3 B W S H=>AF h1 h2 h3 cY hy h H) ?_ ?_ H
 .rintro b' aP A hv ⟨rfl,ho,ki,hP,rfl⟩;generalize hw:(z.step x.j i y).1=w at*
  rw[if_neg (by rw[ho];simp)];exact⟨rfl,rfl,_,.c6 hv hP t,HQ⟩
 .rintro lF b' aP L' cq i' aM aN c_ aL A fW h0 hs ⟨rfl,ho,hE,rfl⟩;generalize hw:(z.step x.j i y).1=w at*
  rw[if_pos ho];obtain⟨rfl,rfl,rfl,rfl,rfl,rfl,rfl,rfl⟩:=hE;cases t with
  |@cons _ _ nX oL g2 L2 h2 t2=>
  obtain⟨eZ,rfl⟩:=hs.inv;exact⟨rfl,by first|rfl|exact nz,_,.oX eZ (.f h2) t2,by(try simp only[lC,lA,lB,List.append_nil]);generalize ad m bl _ rest=MM;exact HQ⟩
end
end
section
variable{B0 S:AH}{W:List Nat}{R l:List Own}{ro:List aB}{m bl q:Nat}{y:Me}{rest:List AV}{x:Xc}{o:Od}{b:Int}
theorem NK {σ}(hx:x.ok)(hk:o.ok x)(hy:y.gd)(h:eP x o q b σ l)(H:Cx B0 W S (l++(ad m bl y rest++R)) ro):
  aG EM (zF 20) [.ptr q 0,.ptr m 0] S λu S'=>∃ab,eW (eP x o q (if σ.over then b else σ.cM x o)) an.over (σ.step x o y) (ad m bl · rest) R u ab/\Cx B0 W S' ab ro:=by
 cases σ with
 |d i w e n=>
  cases h with
  |d hs hw=>
   simp only[Xc.row,Xc.cs,Tw.cs,Lb.cs,Ar.cs,Ep.cs,lA,lB,lC] at H;refine Vx.fm H rfl ?_;cases hs with
   |n=>
    refine z1 ?_;exact aa rfl (.d .n hw) rfl HQ
   |s h1 h2 h3=>
    refine z1 ?_;exact aa rfl (.d (.s h1 h2 h3) hw) rfl HQ
 |r1=>exact SA hx hk hy h H
 |r2=>exact SB hx hk hy h H
 |r3=>exact SD hx hk hy h H
 |r4=>exact SE hx hk hy h H
 |r5=>exact SF hx hk hy h H
 |r6=>exact SG hx hk hy h H
 |t1=>exact SH hx hk hy h H
 |t2=>exact SI hx hk hy h H
 |t3=>exact SJ hx hk hy h H
 |t4=>exact SK hx hk hy h H
 |t5=>exact SL hx hk hy h H
 |t6=>exact SM hx hk hy h H
 |oX=>exact NJ hx hk hy h H
 |p1=>exact SN hx hk hy h H
 |p2=>exact SO hx hk hy h H
 |p3=>exact SQ hx hk hy h H
 |p4=>exact SR hx hk hy h H
 |p5=>exact SS hx hk hy h H
 |s1=>exact SU hx hk hy h H
 |s2=>exact SV hx hk hy h H
 |s3=>exact SW hx hk hy h H
 |s4=>exact SX hx hk hy h H
 |s5=>exact SY hx hk hy h H
 |s6=>exact SZ hx hk hy h H
 |s7=>exact S_ hx hk hy h H
 |s8=>exact Ta hx hk hy h H
 |s9=>exact Tb hx hk hy h H
 |b1=>exact Tc hx hk hy h H
 |b2=>exact Td hx hk hy h H
 |b3=>exact Te hx hk hy h H
 |b4=>exact Tf hx hk hy h H
 |c1=>exact Tg hx hk hy h H
 |c2=>exact Th hx hk hy h H
 |c3=>exact Ti hx hk hy h H
 |c4=>exact Tj hx hk hy h H
 |c5=>exact Tl hx hk hy h H
 |c6=>exact Tm hx hk hy h H
end
end Go.cO
