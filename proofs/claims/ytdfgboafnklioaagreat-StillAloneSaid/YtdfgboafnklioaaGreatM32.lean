/- Contracts of functions, over the abstract machine. Conditions: stated in each theorem. -/
import Derived.Test.YtdfgboafnklioaaGreatM30
import Derived.Test.YtdfgboafnklioaaGreatM31
set_option linter.all false
set_option maxRecDepth 100000
set_option maxHeartbeats 4000000
namespace Go.cY
open Go.Proofs
section
open av
section
variable{B0 S:AH}{W:List Nat}{R l:List Own}{ro:List aQ}{m bl q:Nat}{y:Me}{rest:List AV}{x:Xc}{o:Od}{b:Int}
theorem P_ {z}{i:Int}:PQ x o q b m bl rest y (.s4 i z):=by
 intro B0 S W R l ro hx hk hy h H
 obtain⟨dD,cG,eu,eO,eL,eP,bq,da,eQ,eY,dX,eM,-⟩:=aK hx hk
 cases h with
 |@s4 z i cl lo L g sv uv UL gu vx vp key au hv hi h tu t=>
 simp only[lA,lB,lC] at H
 have H:=Hs.cx (tgt:=.obj q _::.sl sv 1 _::(lo++(ad m bl y rest++(.obj vx (.row [.ptr q 0])::(g++(gu++(.sl uv 1 UL::.obj vp (.row [.ptr q 0])::R))))))) HQ H
 refine eR (jQ:=av.l9 x o i (z.stepOf x.j i y).1) (y':=(z.stepOf x.j i y).2) (by rw[t.len];exact Nat.le_of_ble_eq_true rfl) (fun aM h1 h2 h3 B W S H=>Gh h1 h2 h3 cG hy h H) ?_ ?_ H
 ·rintro b' aM A hv ⟨rfl,ho,lO,hP,rfl⟩
  generalize hw:(z.stepOf x.j i y).1=w at*
  cases w<;>first|(cases ho;done)|exact⟨rfl,rfl,_,.s4 hv hi hP tu t,HQ⟩
 ·rintro kr b' aM L' b7 i' aI aJ cJ aF A fA h0 hs ⟨rfl,ho,hE,rfl⟩
  generalize hw:(z.stepOf x.j i y).1=w at*
  cases w<;>first|(cases ho;done)|skip
  have hb:=pY.bd hy h hw
  rename_i w' e'
  rcases hE with⟨vM,zM,hE⟩|⟨vM,zM,hE⟩|⟨vM,hE⟩
  ·have e:l9 x o i (.d w' e')=.s5 i w' .l:=(if_neg vM).trans ((if_neg zM).trans (by rw[bE.db hi (by omega)]))
   rw[e]
   obtain⟨rfl,rfl,rfl,rfl,rfl,rfl,rfl,rfl⟩:=hE
   cases t with
   |@cons _ _ na nb g2 L2 h2 t2=>
   obtain⟨eG,rfl⟩:=hs.inv
   exact⟨rfl,by first|rfl|exact nz,_,.s5 eG hi ⟨hb,vM⟩ (.f hi h2) tu t2,by(try simp only[lC,lA,lB,List.append_nil]);generalize ad m bl _ rest=MM;exact HQ⟩
  ·have e:l9 x o i (.d w' e')=.d 0 0 12 false:=(if_neg vM).trans (if_pos zM)
   rw[e]
   obtain⟨rfl,rfl,rfl,rfl,rfl,rfl,rfl,rfl⟩:=hE
   exact⟨rfl,by first|rfl|exact nz,_,.d hs (by simp),by(try simp only[lC,lA,lB,List.append_nil]);generalize ad m bl _ rest=MM;exact HQ⟩
  ·have e:l9 x o i (.d w' e')=.d 0 0 5 false:=if_pos vM
   rw[e]
   obtain⟨rfl,rfl,rfl,rfl,rfl,rfl,rfl,rfl⟩:=hE
   exact⟨rfl,by first|rfl|exact nz,_,.d hs (by simp),by(try simp only[lC,lA,lB,List.append_nil]);generalize ad m bl _ rest=MM;exact HQ⟩
theorem Qa {z}{i w:Int}:PQ x o q b m bl rest y (.s5 i w z):=by
 intro B0 S W R l ro hx hk hy h H
 obtain⟨dD,cG,eu,eO,eL,eP,bq,da,eQ,eY,dX,eM,-⟩:=aK hx hk
 cases h with
 |@s5 z i w cl lo L g sv uv UL gu vx vp au hv hi cV h tu t=>
 simp only[lA,lB,lC] at H
 have H:=Hs.cx (tgt:=.obj q _::.sl sv 1 _::(lo++(ad m bl y rest++((g++(gu++(.sl uv 1 UL::.obj vx (.row [.ptr q 0])::.obj vp (.row [.ptr q 0])::R))))))) HQ H
 refine eR (jQ:=if(z.step x.j i 4 3 o.c y).1.over then .s6 i w else .s5 i w (z.step x.j i 4 3 o.c y).1) (y':=(z.step x.j i 4 3 o.c y).2) (by rw[t.len];exact Nat.le_of_ble_eq_true rfl) (fun aM h1 h2 h3 B W S H=>kP h1 h2 h3 cG (by omega) (by omega) (by omega) hy h H) ?_ ?_ H
 ·rintro b' aM A hv ⟨rfl,ho,lO,hP,rfl⟩
  generalize hw:(z.step x.j i 4 3 o.c y).1=w at*
  rw[if_neg (by rw[ho];simp)]
  exact⟨rfl,rfl,_,.s5 hv hi cV hP tu t,HQ⟩
 ·rintro kr b' aM L' b7 i' aI aJ cJ aF A fA h0 hs ⟨rfl,ho,hE,rfl⟩
  generalize hw:(z.step x.j i 4 3 o.c y).1=w at*
  rw[if_pos ho]
  obtain⟨rfl,rfl,rfl,rfl,rfl,rfl,rfl,rfl⟩:=hE
  cases t with
  |@cons _ _ na nb g2 L2 h2 t2=>
  obtain⟨eG,rfl⟩:=hs.inv
  obtain⟨p2,a2,b2,rfl,rfl⟩:=h2
  exact⟨rfl,by first|rfl|exact nz,_,.s6 eG hi cV tu t2,by(try simp only[lC,lA,lB,List.append_nil]);generalize ad m bl _ rest=MM;exact HQ⟩
theorem Qb {i w:Int}:PQ x o q b m bl rest y (.s6 i w):=by
 intro B0 S W R l ro hx hk hy h H
 obtain⟨dD,cG,eu,eO,eL,eP,bq,da,eQ,eY,dX,eM,-⟩:=aK hx hk
 cases h with
 |@s6 i w p1 a1 b1 L g sv uv UL gu vx vp au hv hi cV tu t=>
 simp only[lA,lB,lC] at H
 have H:=Hs.cx (tgt:=.obj q _::.sl sv 1 _::([.obj p1 (.row [.fn (.func 423) [] [.ptr a1 0,.ptr b1 0]]),.obj a1 (.row [I (x.r.runs+o.c)]),.obj b1 (.row [U 18446744073709551615])]++(ad m bl y rest++((g++(gu++(.sl uv 1 UL::.obj vx (.row [.ptr q 0])::.obj vp (.row [.ptr q 0])::R))))))) HQ H
 refine eR (jQ:=.s7 i w (.new x.j i)) (y':=y.st (x.r.runs+o.c) 18446744073709551615) (by rw[t.len];exact Nat.le_of_ble_eq_true rfl) (fun aM h1 h2 h3 B W S H=>iW h1 h2 h3 hy (by omega) (by unfold Me.ar;omega) H) ?_ ?_ H
 ·rintro b' aM A hv ⟨⟩
 ·rintro kr b' aM L' b7 i' aI aJ cJ aF A fA h0 hs ⟨rfl,ho,hE,rfl⟩
  rw[bO.db hi]
  obtain⟨rfl,rfl,rfl,rfl,rfl,rfl,rfl,rfl⟩:=hE
  cases t with
  |@cons _ _ na nb g2 L2 h2 t2=>
  obtain⟨eG,rfl⟩:=hs.inv
  exact⟨rfl,by first|rfl|exact nz,_,.s7 eG hi cV (.f hi h2) tu t2,by(try simp only[lC,lA,lB,List.append_nil]);generalize ad m bl _ rest=MM;exact HQ⟩
theorem Qc {z}{i w:Int}:PQ x o q b m bl rest y (.s7 i w z):=by
 intro B0 S W R l ro hx hk hy h H
 obtain⟨dD,cG,eu,eO,eL,eP,bq,da,eQ,eY,dX,eM,-⟩:=aK hx hk
 cases h with
 |@s7 z i w cl lo L g sv uv UL gu vx vp au hv hi cV h tu t=>
 simp only[lA,lB,lC] at H
 have H:=Hs.cx (tgt:=.obj q _::.sl sv 1 _::(lo++(ad m bl y rest++(.obj vx (.row [.ptr q 0])::(g++(gu++(.sl uv 1 UL::.obj vp (.row [.ptr q 0])::R))))))) HQ H
 refine eR (jQ:=if(z.step x.j i ((w+1)%18446744073709551616) y).1.over then .s8 i w (.p .a 0) else .s7 i w (z.step x.j i ((w+1)%18446744073709551616) y).1) (y':=(z.step x.j i ((w+1)%18446744073709551616) y).2) (by rw[t.len];exact Nat.le_of_ble_eq_true rfl) (fun aM h1 h2 h3 B W S H=>Ga h1 h2 h3 cG hy h H) ?_ ?_ H
 ·rintro b' aM A hv ⟨rfl,ho,lO,hP,rfl⟩
  generalize hw:(z.step x.j i ((w+1)%18446744073709551616) y).1=w at*
  rw[if_neg (by rw[ho];simp)]
  exact⟨rfl,rfl,_,.s7 hv hi cV hP tu t,HQ⟩
 ·rintro kr b' aM L' b7 i' aI aJ cJ aF A fA h0 hs ⟨rfl,ho,hE,rfl⟩
  generalize hw:(z.step x.j i ((w+1)%18446744073709551616) y).1=w at*
  rw[if_pos ho]
  obtain⟨rfl,rfl,rfl,rfl,rfl,rfl,rfl,rfl⟩:=hE
  cases t with
  |@cons _ _ na nb g2 L2 h2 t2=>
  obtain⟨eG,rfl⟩:=hs.inv
  exact⟨rfl,by first|rfl|exact nz,_,.s8 eG hi cV (.f h2) tu t2,by(try simp only[lC,lA,lB,List.append_nil]);generalize ad m bl _ rest=MM;exact HQ⟩
theorem Qd {z}{i w:Int}:PQ x o q b m bl rest y (.s8 i w z):=by
 intro B0 S W R l ro hx hk hy h H
 obtain⟨dD,cG,eu,eO,eL,eP,bq,da,eQ,eY,dX,eM,-⟩:=aK hx hk
 cases h with
 |@s8 z i w cl lo L g sv uv UL gu vx vp au hv hi cV h tu t=>
 simp only[lA,lB,lC] at H
 have H:=Hs.cx (tgt:=.obj q _::.sl sv 1 _::(lo++(ad m bl y rest++(.sl uv 1 UL::.obj vx (.row [.ptr q 0])::(g++(gu++(.obj vp (.row [.ptr q 0])::R))))))) HQ H
 refine eR (jQ:=av.pP x o i w (z.step x.t o.c ((w+1)%18446744073709551616) i o.high y).1) (y':=(z.step x.t o.c ((w+1)%18446744073709551616) i o.high y).2) (by rw[t.len];exact Nat.le_of_ble_eq_true rfl) (fun aM h1 h2 h3 B W S H=>Gj h1 h2 h3 (by rw[tu.len];exact Nat.le_of_ble_eq_true rfl) dD (by omega) (by have:=cV.1;have:=cV.2;unfold Me.ar bU at*;omega) ⟨by omega,by omega,by omega⟩ hy h H) ?_ ?_ H
 ·rintro b' aM A hv ⟨rfl,ho,lO,hP,rfl⟩
  generalize hw:(z.step x.t o.c ((w+1)%18446744073709551616) i o.high y).1=w at*
  cases w<;>first|(cases ho;done)|exact⟨rfl,rfl,_,.s8 hv hi cV hP tu t,HQ⟩
 ·rintro kr b' aM L' b7 i' aI aJ cJ aF A fA h0 hs ⟨rfl,ho,hE,rfl⟩
  generalize hw:(z.step x.t o.c ((w+1)%18446744073709551616) i o.high y).1=w at*
  cases w<;>first|(cases ho;done)|skip
  rcases hE with⟨rfl,hE⟩|⟨he,hE⟩
  ·obtain⟨rfl,rfl,rfl,rfl,rfl,rfl,rfl,rfl⟩:=hE
   cases t with
   |@cons _ _ na nb g2 L2 h2 t2=>
   obtain⟨eG,rfl⟩:=hs.inv
   obtain⟨p2,a2,b2,rfl,rfl⟩:=h2
   exact⟨rfl,by first|rfl|exact nz,_,.s9 eG t2,by(try simp only[lC,lA,lB,List.append_nil]);generalize ad m bl _ rest=MM;exact HQ⟩
  ·obtain⟨rfl,rfl,rfl,rfl,rfl,rfl,rfl⟩:=hE
   have e:∀i w:Int,0≤i∧i<x.j.f.size→pP x o i w (.d _)=.b1 i w _ .a:=fun i w hi=>(if_neg he).trans (by rw[bO.db hi])
   rw[e _ _ hi]
   cases tu with
   |@cons _ _ na nb g2 L2 h2 t2=>
   obtain⟨eG,rfl⟩:=hs.inv
   exact⟨rfl,by first|rfl|exact nz,_,.b1 eG hi he (.f hi h2) t2,by(try simp only[lC,lA,lB,List.append_nil]);generalize ad m bl _ rest=MM;exact HQ⟩
theorem Qg {i w:Int}:PQ x o q b m bl rest y (.s9 i w):=by
 intro B0 S W R l ro hx hk hy h H
 obtain⟨dD,cG,eu,eO,eL,eP,bq,da,eQ,eY,dX,eM,-⟩:=aK hx hk
 cases h with
 |@s9 i w p1 a1 b1 L g sv uv vp au hv t=>
 simp only[lA,lB,lC] at H
 have H:=Hs.cx (tgt:=.obj q _::.sl sv 1 _::([.obj p1 (.row [.fn (.func 423) [] [.ptr a1 0,.ptr b1 0]]),.obj a1 (.row [I (x.own+o.c)]),.obj b1 (.row [U 0])]++(ad m bl y rest++((g++(.obj vp (.row [.ptr q 0])::R)))))) HQ H
 refine eR (jQ:=av.pick) (y':=y.st (x.own+o.c) 0) (by rw[t.len];exact Nat.le_of_ble_eq_true rfl) (fun aM h1 h2 h3 B W S H=>iW h1 h2 h3 hy (by omega) (by unfold Me.ar;omega) H) ?_ ?_ H
 ·rintro b' aM A hv ⟨⟩
 ·rintro kr b' aM L' b7 i' aI aJ cJ aF A fA h0 hs ⟨rfl,ho,hE,rfl⟩
  obtain⟨rfl,rfl,rfl,rfl,rfl,rfl,rfl,rfl⟩:=hE
  cases t with
  |@cons _ _ na nb g2 L2 h2 t2=>
  obtain⟨eG,rfl⟩:=hs.inv
  exact⟨rfl,by first|rfl|exact nz,_,.p2 eG (.f h2) t2,by(try simp only[lC,lA,lB,List.append_nil]);generalize ad m bl _ rest=MM;exact HQ⟩
end
end
section
open av
section
variable{B0 S:AH}{W:List Nat}{R l:List Own}{ro:List aQ}{m bl q:Nat}{y:Me}{rest:List AV}{x:Xc}{o:Od}{b:Int}
theorem Qh {z}{i w e:Int}:PQ x o q b m bl rest y (.b1 i w e z):=by
 intro B0 S W R l ro hx hk hy h H
 obtain⟨dD,cG,eu,eO,eL,eP,bq,da,eQ,eY,dX,eM,-⟩:=aK hx hk
 cases h with
 |@b1 z i w e cl lo L g sv uv vx au hv hi he h t=>
 simp only[lA,lB,lC] at H
 have H:=Hs.cx (tgt:=.obj q _::.sl sv 1 _::(lo++(ad m bl y rest++(.obj vx (.row [.ptr q 0])::(g++(R)))))) HQ H
 refine eR (jQ:=if(z.step x.j i w y).1.over then .b2 i w e (.new x.j i o.c) else .b1 i w e (z.step x.j i w y).1) (y':=(z.step x.j i w y).2) (by rw[t.len];exact Nat.le_of_ble_eq_true rfl) (fun aM h1 h2 h3 B W S H=>F_ h1 h2 h3 cG hy h H) ?_ ?_ H
 ·rintro b' aM A hv ⟨rfl,ho,lO,hP,rfl⟩
  generalize hw:(z.step x.j i w y).1=w at*
  rw[if_neg (by rw[ho];simp)]
  exact⟨rfl,rfl,_,.b1 hv hi he hP t,HQ⟩
 ·rintro kr b' aM L' b7 i' aI aJ cJ aF A fA h0 hs ⟨rfl,ho,hE,rfl⟩
  generalize hw:(z.step x.j i w y).1=w at*
  rw[if_pos ho]
  rw[bE.db hi (by omega)]
  obtain⟨rfl,rfl,rfl,rfl,rfl,rfl,rfl,rfl⟩:=hE
  cases t with
  |@cons _ _ na nb g2 L2 h2 t2=>
  obtain⟨eG,rfl⟩:=hs.inv
  exact⟨rfl,by first|rfl|exact nz,_,.b2 eG he (.f hi h2) t2,by(try simp only[lC,lA,lB,List.append_nil]);generalize ad m bl _ rest=MM;exact HQ⟩
theorem Qi {z}{i w e:Int}:PQ x o q b m bl rest y (.b2 i w e z):=by
 intro B0 S W R l ro hx hk hy h H
 obtain⟨dD,cG,eu,eO,eL,eP,bq,da,eQ,eY,dX,eM,-⟩:=aK hx hk
 cases h with
 |@b2 z i w e cl lo L g sv uv vx au hv he h t=>
 simp only[lA,lB,lC] at H
 have H:=Hs.cx (tgt:=.obj q _::.sl sv 1 _::(lo++(ad m bl y rest++((g++(.obj vx (.row [.ptr q 0])::R)))))) HQ H
 refine eR (jQ:=if(z.step x.j i 3 4 o.c y).1.over then .b3 i w e else .b2 i w e (z.step x.j i 3 4 o.c y).1) (y':=(z.step x.j i 3 4 o.c y).2) (by rw[t.len];exact Nat.le_of_ble_eq_true rfl) (fun aM h1 h2 h3 B W S H=>kP h1 h2 h3 cG (by omega) (by omega) (by omega) hy h H) ?_ ?_ H
 ·rintro b' aM A hv ⟨rfl,ho,lO,hP,rfl⟩
  generalize hw:(z.step x.j i 3 4 o.c y).1=w at*
  rw[if_neg (by rw[ho];simp)]
  exact⟨rfl,rfl,_,.b2 hv he hP t,HQ⟩
 ·rintro kr b' aM L' b7 i' aI aJ cJ aF A fA h0 hs ⟨rfl,ho,hE,rfl⟩
  generalize hw:(z.step x.j i 3 4 o.c y).1=w at*
  rw[if_pos ho]
  obtain⟨rfl,rfl,rfl,rfl,rfl,rfl,rfl,rfl⟩:=hE
  cases t with
  |@cons _ _ na nb g2 L2 h2 t2=>
  obtain⟨eG,rfl⟩:=hs.inv
  obtain⟨p2,a2,rfl,rfl⟩:=h2
  exact⟨rfl,by first|rfl|exact nz,_,.b3 eG he t2,by(try simp only[lC,lA,lB,List.append_nil]);generalize ad m bl _ rest=MM;exact HQ⟩
theorem Qj {i w e:Int}:PQ x o q b m bl rest y (.b3 i w e):=by
 intro B0 S W R l ro hx hk hy h H
 obtain⟨dD,cG,eu,eO,eL,eP,bq,da,eQ,eY,dX,eM,-⟩:=aK hx hk
 cases h with
 |@b3 i w e p1 a1 L g sv uv vx au hv he t=>
 simp only[lA,lB,lC] at H
 have H:=Hs.cx (tgt:=.obj q _::.sl sv 1 _::([.obj p1 (.row [.fn (.func 426) [] [.ptr a1 0,.ptr vx 0]])]++(ad m bl y rest++(.obj vx (.row [.ptr q 0])::.obj a1 (.row [I (x.r.runs+o.c)])::(g++(R)))))) HQ H
 refine eR (jQ:=.b4 i w e) (y':=y.st (x.r.runs+o.c) w) (by rw[t.len];exact Nat.le_of_ble_eq_true rfl) (fun aM h1 h2 h3 B W S H=>Ie h1 h2 h3 hy (by omega) H) ?_ ?_ H
 ·rintro b' aM A hv ⟨⟩
 ·rintro kr b' aM L' b7 i' aI aJ cJ aF A fA h0 hs ⟨rfl,ho,hE,rfl⟩
  obtain⟨rfl,rfl,rfl,rfl,rfl,rfl,rfl,rfl⟩:=hE
  cases t with
  |@cons _ _ na nb g2 L2 h2 t2=>
  obtain⟨eG,rfl⟩:=hs.inv
  obtain⟨p2,a2,b2,rfl,rfl⟩:=h2
  exact⟨rfl,by first|rfl|exact nz,_,.b4 eG he t2,by(try simp only[lC,lA,lB,List.append_nil]);generalize ad m bl _ rest=MM;exact HQ⟩
theorem Qk {i w e:Int}:PQ x o q b m bl rest y (.b4 i w e):=by
 intro B0 S W R l ro hx hk hy h H
 obtain⟨dD,cG,eu,eO,eL,eP,bq,da,eQ,eY,dX,eM,-⟩:=aK hx hk
 cases h with
 |@b4 i w e p1 a1 b1 L g sv uv au hv he t=>
 simp only[lA,lB,lC] at H
 have H:=Hs.cx (tgt:=.obj q _::.sl sv 1 _::([.obj p1 (.row [.fn (.func 423) [] [.ptr a1 0,.ptr b1 0]]),.obj a1 (.row [I (x.r.flags+o.c)]),.obj b1 (.row [U 1])]++(ad m bl y rest++((g++(R)))))) HQ H
 refine eR (jQ:=.d i w e false) (y':=y.st (x.r.flags+o.c) 1) (by rw[t.len];exact Nat.le_of_ble_eq_true rfl) (fun aM h1 h2 h3 B W S H=>iW h1 h2 h3 hy (by omega) (by unfold Me.ar;omega) H) ?_ ?_ H
 ·rintro b' aM A hv ⟨⟩
 ·rintro kr b' aM L' b7 i' aI aJ cJ aF A fA h0 hs ⟨rfl,ho,hE,rfl⟩
  obtain⟨rfl,rfl,rfl,rfl,rfl,rfl,rfl,rfl⟩:=hE
  cases t
  exact⟨rfl,by first|rfl|exact nz,_,.d hs (fun e _=>absurd e he),by(try simp only[lC,lA,lB,List.append_nil]);generalize ad m bl _ rest=MM;exact HQ⟩
theorem Ql (hx:x.ok) (hk:o.ok x) (hy:y.gd) (h:eF x o q b (.c1) l) (H:Cx B0 W S (l++(ad m bl y rest++R)) ro):
  aO EM (zF 20) [.ptr q 0,.ptr m 0] S fun u S'=>∃ab,eD (eF x o q (av.cz x o (.c1))) av.over (av.step x o (.c1) y) (ad m bl · rest) R u ab∧Cx B0 W S' ab ro:=by
 obtain⟨dD,cG,eu,eO,eL,eP,bq,da,eQ,eY,dX,eM,-⟩:=aK hx hk
 cases h with
 |@c1 p1 a1 b1 L g sv uv vx i key au hv t=>
 simp only[lA,lB,lC] at H
 have H:=Hs.cx (tgt:=.obj q _::.sl sv 1 _::([.obj p1 (.row [.fn (.func 414) [] [.ptr a1 0,.ptr b1 0]]),.obj a1 (.row [.ptr q 0]),.obj b1 (.row [.fn (.func 303) [] [.ptr vx 0]])]++(ad m bl y rest++(.obj vx (.row [.ptr q 0])::(g++(R)))))) HQ H
 refine eR (jQ:=if x.rd (y.word (x.own+o.c))<0 then .d 0 0 15 false else .c2 (x.rd (y.word (x.own+o.c))) (.new x.j (x.rd (y.word (x.own+o.c))))) (y':=y.ld (x.own+o.c)) (by rw[t.len];exact Nat.le_of_ble_eq_true rfl) (fun aM h1 h2 h3 B W S H=>Gm h1 h2 h3 hy ⟨by omega,by omega,da⟩ H) ?_ ?_ H
 ·rintro b' aM A hv ⟨⟩
 ·rintro kr b' aM L' b7 i' aI aJ cJ aF A fA h0 hs ⟨rfl,ho,hE,rfl⟩
  rcases hE with⟨hr,hE⟩|⟨hr,hE⟩
  ·rw[if_neg (by omega),bO.db (x.wu hr)]
   obtain⟨rfl,rfl,rfl,rfl,rfl,rfl,rfl,rfl⟩:=hE
   cases t with
   |@cons _ _ na nb g2 L2 h2 t2=>
   obtain⟨eG,rfl⟩:=hs.inv
   exact⟨rfl,by first|rfl|exact nz,_,.c2 eG (x.wu hr) (.f (x.wu hr) h2) t2,by(try simp only[lC,lA,lB,List.append_nil]);generalize ad m bl _ rest=MM;exact HQ⟩
  ·rw[if_pos hr]
   obtain⟨rfl,rfl,rfl,rfl,rfl,rfl,rfl,rfl⟩:=hE
   exact⟨rfl,by first|rfl|exact nz,_,.d hs (by simp),by(try simp only[lC,lA,lB,List.append_nil]);generalize ad m bl _ rest=MM;exact HQ⟩
theorem Qm {z}{i:Int}:PQ x o q b m bl rest y (.c2 i z):=by
 intro B0 S W R l ro hx hk hy h H
 obtain⟨dD,cG,eu,eO,eL,eP,bq,da,eQ,eY,dX,eM,-⟩:=aK hx hk
 cases h with
 |@c2 z i cl lo L g sv uv vx key au hv hi h t=>
 simp only[lA,lB,lC] at H
 have H:=Hs.cx (tgt:=.obj q _::.sl sv 1 _::(lo++(ad m bl y rest++((g++(.obj vx (.row [.ptr q 0])::R)))))) HQ H
 refine eR (jQ:=av.rA x o i (z.stepOf x.j i y).1) (y':=(z.stepOf x.j i y).2) (by rw[t.len];exact Nat.le_of_ble_eq_true rfl) (fun aM h1 h2 h3 B W S H=>Ia h1 h2 h3 cG hy h H) ?_ ?_ H
 ·rintro b' aM A hv ⟨rfl,ho,lO,hP,rfl⟩
  generalize hw:(z.stepOf x.j i y).1=w at*
  cases w<;>first|(cases ho;done)|exact⟨rfl,rfl,_,.c2 hv hi hP t,HQ⟩
 ·rintro kr b' aM L' b7 i' aI aJ cJ aF A fA h0 hs ⟨rfl,ho,hE,rfl⟩
  generalize hw:(z.stepOf x.j i y).1=w at*
  cases w<;>first|(cases ho;done)|skip
  rename_i w' e'
  have e:rA x o i (.d w' e')=.c3 i w' .l:=by show av.c3 _ _ _=_;rw[bE.db hi (by omega)]
  rw[e]
  obtain⟨rfl,rfl,rfl,rfl,rfl,rfl,rfl,rfl⟩:=hE
  cases t with
  |@cons _ _ na nb g2 L2 h2 t2=>
  obtain⟨eG,rfl⟩:=hs.inv
  exact⟨rfl,by first|rfl|exact nz,_,.c3 eG hi (.f hi h2) t2,by(try simp only[lC,lA,lB,List.append_nil]);generalize ad m bl _ rest=MM;exact HQ⟩
theorem Qo {z}{i w:Int}:PQ x o q b m bl rest y (.c3 i w z):=by
 intro B0 S W R l ro hx hk hy h H
 obtain⟨dD,cG,eu,eO,eL,eP,bq,da,eQ,eY,dX,eM,-⟩:=aK hx hk
 cases h with
 |@c3 z i w cl lo L g sv uv au hv hi h t=>
 simp only[lA,lB,lC] at H
 have H:=Hs.cx (tgt:=.obj q _::.sl sv 1 _::(lo++(ad m bl y rest++((g++(R)))))) HQ H
 refine eR (jQ:=if(z.step x.j i 4 5 o.c y).1.over then .c4 i w else .c3 i w (z.step x.j i 4 5 o.c y).1) (y':=(z.step x.j i 4 5 o.c y).2) (by rw[t.len];exact Nat.le_of_ble_eq_true rfl) (fun aM h1 h2 h3 B W S H=>kP h1 h2 h3 cG (by omega) (by omega) (by omega) hy h H) ?_ ?_ H
 ·rintro b' aM A hv ⟨rfl,ho,lO,hP,rfl⟩
  generalize hw:(z.step x.j i 4 5 o.c y).1=w at*
  rw[if_neg (by rw[ho];simp)]
  exact⟨rfl,rfl,_,.c3 hv hi hP t,HQ⟩
 ·rintro kr b' aM L' b7 i' aI aJ cJ aF A fA h0 hs ⟨rfl,ho,hE,rfl⟩
  generalize hw:(z.step x.j i 4 5 o.c y).1=w at*
  rw[if_pos ho]
  obtain⟨rfl,rfl,rfl,rfl,rfl,rfl,rfl,rfl⟩:=hE
  cases t with
  |@cons _ _ na nb g2 L2 h2 t2=>
  obtain⟨eG,rfl⟩:=hs.inv
  obtain⟨p2,a2,b2,rfl,rfl⟩:=h2
  exact⟨rfl,by first|rfl|exact nz,_,.c4 eG hi t2,by(try simp only[lC,lA,lB,List.append_nil]);generalize ad m bl _ rest=MM;exact HQ⟩
theorem Qp {i w:Int}:PQ x o q b m bl rest y (.c4 i w):=by
 intro B0 S W R l ro hx hk hy h H
 obtain⟨dD,cG,eu,eO,eL,eP,bq,da,eQ,eY,dX,eM,-⟩:=aK hx hk
 cases h with
 |@c4 i w p1 a1 b1 L g sv uv au hv hi t=>
 simp only[lA,lB,lC] at H
 have H:=Hs.cx (tgt:=.obj q _::.sl sv 1 _::([.obj p1 (.row [.fn (.func 423) [] [.ptr a1 0,.ptr b1 0]]),.obj a1 (.row [I (x.own+o.c)]),.obj b1 (.row [U 0])]++(ad m bl y rest++((g++(R)))))) HQ H
 refine eR (jQ:=.c5 i w) (y':=y.st (x.own+o.c) 0) (by rw[t.len];exact Nat.le_of_ble_eq_true rfl) (fun aM h1 h2 h3 B W S H=>iW h1 h2 h3 hy (by omega) (by unfold Me.ar;omega) H) ?_ ?_ H
 ·rintro b' aM A hv ⟨⟩
 ·rintro kr b' aM L' b7 i' aI aJ cJ aF A fA h0 hs ⟨rfl,ho,hE,rfl⟩
  obtain⟨rfl,rfl,rfl,rfl,rfl,rfl,rfl,rfl⟩:=hE
  cases t with
  |@cons _ _ na nb g2 L2 h2 t2=>
  obtain⟨eG,rfl⟩:=hs.inv
  obtain⟨p2,a2,b2,rfl,rfl⟩:=h2
  exact⟨rfl,by first|rfl|exact nz,_,.c5 eG hi t2,by(try simp only[lC,lA,lB,List.append_nil]);generalize ad m bl _ rest=MM;exact HQ⟩
theorem Qq {i w:Int}:PQ x o q b m bl rest y (.c5 i w):=by
 intro B0 S W R l ro hx hk hy h H
 obtain⟨dD,cG,eu,eO,eL,eP,bq,da,eQ,eY,dX,eM,-⟩:=aK hx hk
 cases h with
 |@c5 i w p1 a1 b1 L g sv uv au hv hi t=>
 simp only[lA,lB,lC] at H
 have H:=Hs.cx (tgt:=.obj q _::.sl sv 1 _::([.obj p1 (.row [.fn (.func 423) [] [.ptr a1 0,.ptr b1 0]]),.obj a1 (.row [I (x.r.runs+o.c)]),.obj b1 (.row [U 18446744073709551615])]++(ad m bl y rest++((g++(R)))))) HQ H
 refine eR (jQ:=.c6 i w (.new x.j i)) (y':=y.st (x.r.runs+o.c) 18446744073709551615) (by rw[t.len];exact Nat.le_of_ble_eq_true rfl) (fun aM h1 h2 h3 B W S H=>iW h1 h2 h3 hy (by omega) (by unfold Me.ar;omega) H) ?_ ?_ H
 ·rintro b' aM A hv ⟨⟩
 ·rintro kr b' aM L' b7 i' aI aJ cJ aF A fA h0 hs ⟨rfl,ho,hE,rfl⟩
  rw[dm.db hi]
  obtain⟨rfl,rfl,rfl,rfl,rfl,rfl,rfl,rfl⟩:=hE
  cases t with
  |@cons _ _ na nb g2 L2 h2 t2=>
  obtain⟨eG,rfl⟩:=hs.inv
  exact⟨rfl,by first|rfl|exact nz,_,.c6 eG (.f hi h2) t2,by(try simp only[lC,lA,lB,List.append_nil]);generalize ad m bl _ rest=MM;exact HQ⟩
theorem Qr {z}{i w:Int}:PQ x o q b m bl rest y (.c6 i w z):=by
 intro B0 S W R l ro hx hk hy h H
 obtain⟨dD,cG,eu,eO,eL,eP,bq,da,eQ,eY,dX,eM,-⟩:=aK hx hk
 cases h with
 |@c6 z i w cl lo L g sv uv au hv h t=>
 simp only[lA,lB,lC] at H
 have H:=Hs.cx (tgt:=.obj q _::.sl sv 1 _::(lo++(ad m bl y rest++((g++(R)))))) HQ H
 refine eR (jQ:=if(z.step x.j i y).1.over then av.balance x i w else .c6 i w (z.step x.j i y).1) (y':=(z.step x.j i y).2) (by rw[t.len];exact Nat.le_of_ble_eq_true rfl) (fun aM h1 h2 h3 B W S H=>zh h1 h2 h3 cG hy h H) ?_ ?_ H
 ·rintro b' aM A hv ⟨rfl,ho,lO,hP,rfl⟩
  generalize hw:(z.step x.j i y).1=w at*
  rw[if_neg (by rw[ho];simp)]
  exact⟨rfl,rfl,_,.c6 hv hP t,HQ⟩
 ·rintro kr b' aM L' b7 i' aI aJ cJ aF A fA h0 hs ⟨rfl,ho,hE,rfl⟩
  generalize hw:(z.step x.j i y).1=w at*
  rw[if_pos ho]
  obtain⟨rfl,rfl,rfl,rfl,rfl,rfl,rfl,rfl⟩:=hE
  cases t with
  |@cons _ _ na nb g2 L2 h2 t2=>
  obtain⟨eG,rfl⟩:=hs.inv
  exact⟨rfl,by first|rfl|exact nz,_,.oN eG (.f h2) t2,by(try simp only[lC,lA,lB,List.append_nil]);generalize ad m bl _ rest=MM;exact HQ⟩
end
end
section
section
variable{B0 S:AH}{W:List Nat}{R l:List Own}{ro:List aQ}{m bl q:Nat}{y:Me}{rest:List AV}{x:Xc}{o:Od}{b:Int}
theorem Lt {σ:av}(hx:x.ok)(hk:o.ok x)(hy:y.gd)(h:eF x o q b σ l)(H:Cx B0 W S (l++(ad m bl y rest++R)) ro):
  aO EM (zF 20) [.ptr q 0,.ptr m 0] S fun u S'=>∃ab,eD (eF x o q (if σ.over then b else σ.cz x o)) av.over (σ.step x o y) (ad m bl · rest) R u ab∧Cx B0 W S' ab ro:=by
 cases σ with
 |d i w e n=>
  cases h with
  |d hs hw=>
   simp only[Xc.row,Xc.cs,Tw.cs,Lb.cs,Ar.cs,Ep.cs,lA,lB,lC] at H
   refine Vx.fm H rfl (b:=Tryz.a20) ?_
   cases hs with
   |n=>
    (repeat' first|constructor|exact ZQ|intro _)
    all_goals apply zL
    exact aa rfl (.d .n hw) rfl HQ
   |s h1 h2 h3=>
    (repeat' first|constructor|exact ZQ|intro _)
    all_goals apply zL
    exact aa rfl (.d (.s h1 h2 h3) hw) rfl HQ
 |r1=>exact PM hx hk hy h H
 |r2=>exact PN hx hk hy h H
 |r3=>exact PO hx hk hy h H
 |r4=>exact PR hx hk hy h H
 |r5=>exact PS hx hk hy h H
 |r6=>exact PT hx hk hy h H
 |t1=>exact PU hx hk hy h H
 |t2=>exact PV hx hk hy h H
 |t3=>exact PW hx hk hy h H
 |t4=>exact PX hx hk hy h H
 |t5=>exact PY hx hk hy h H
 |t6=>exact PZ hx hk hy h H
 |oN=>exact Lq hx hk hy h H
 |p1=>exact P1 hx hk hy h H
 |p2=>exact P2 hx hk hy h H
 |p3=>exact P4 hx hk hy h H
 |p4=>exact P5 hx hk hy h H
 |p5=>exact P6 hx hk hy h H
 |s1=>exact P7 hx hk hy h H
 |s2=>exact P8 hx hk hy h H
 |s3=>exact P9 hx hk hy h H
 |s4=>exact P_ hx hk hy h H
 |s5=>exact Qa hx hk hy h H
 |s6=>exact Qb hx hk hy h H
 |s7=>exact Qc hx hk hy h H
 |s8=>exact Qd hx hk hy h H
 |s9=>exact Qg hx hk hy h H
 |b1=>exact Qh hx hk hy h H
 |b2=>exact Qi hx hk hy h H
 |b3=>exact Qj hx hk hy h H
 |b4=>exact Qk hx hk hy h H
 |c1=>exact Ql hx hk hy h H
 |c2=>exact Qm hx hk hy h H
 |c3=>exact Qo hx hk hy h H
 |c4=>exact Qp hx hk hy h H
 |c5=>exact Qq hx hk hy h H
 |c6=>exact Qr hx hk hy h H
end
end
end Go.cY
