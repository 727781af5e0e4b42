/- Contracts of functions, over the abstract machine. Conditions: stated in each theorem. -/
import Derived.Test.YtdfgboafnklioaaGreatM30
set_option linter.all false
set_option maxRecDepth 100000
set_option maxHeartbeats 4000000
namespace Go.cY
open Go.Proofs
section
open av
section
variable{B0 S:AH}{W:List Nat}{R l:List Own}{ro:List aQ}{m bl q:Nat}{y:Me}{rest:List AV}{x:Xc}{o:Od}{b:Int}
theorem PU {z}:PQ x o q b m bl rest y (.t1 z):=by
 intro B0 S W R l ro hx hk hy h H
 obtain⟨dD,cG,eu,eO,eL,eP,bq,da,eQ,eY,dX,eM,-⟩:=aK hx hk
 cases h with
 |@t1 z cl lo L g sv uv UL gu vx vb i key au hv h tu t=>
 simp only[lA,lB,lC] at H
 have H:=Hs.cx (tgt:=.obj q _::.sl sv 1 _::(lo++(ad m bl y rest++((g++(gu++(.sl uv 1 UL::.obj vx (.row [.ptr q 0])::.obj vb (.row [I (x.ring o.c).head,I (x.ring o.c).tail,I (x.ring o.c).eE,I (x.ring o.c).size])::R))))))) HQ H
 refine eR (jQ:=av.l8 x o (z.step (x.ring o.c) y).1) (y':=(z.step (x.ring o.c) y).2) (by rw[t.len];exact Nat.le_of_ble_eq_true rfl) (fun aM h1 h2 h3 B W S H=>Da h1 h2 h3 dX hy h H) ?_ ?_ H
 ·rintro b' aM A hv ⟨rfl,ho,lO,hP,rfl⟩
  generalize hw:(z.step (x.ring o.c) y).1=w at*
  cases w<;>first|(cases ho;done)|exact⟨rfl,rfl,_,.t1 hv hP tu t,HQ⟩
 ·rintro kr b' aM L' b7 i' aI aJ cJ aF A fA h0 hs ⟨rfl,ho,hE,rfl⟩
  generalize hw:(z.step (x.ring o.c) y).1=w at*
  cases w<;>first|(cases ho;done)|skip
  have hb:=lP.bd hy h hw
  rename_i h' v' e'
  rcases hE with⟨rfl,dN,hE⟩|⟨rfl,G2,hE⟩|⟨he,hE⟩
  ·obtain⟨vM,zM⟩:=hb rfl
   have e:l8 x o (.d h' v' 0)=.t2 v' h' .a:=by
    show(if(0:Int)=0 then(if x.j.f.size≤v' then av.d 0 0 5 false else .t2 v' h' (.new x.j v')) else av.d 0 0 15 false)=_
    rw[if_pos rfl,if_neg (by omega),bO.db ⟨vM.1,dN⟩]
   rw[e]
   obtain⟨rfl,rfl,rfl,rfl,rfl,rfl,rfl,rfl⟩:=hE
   cases t with
   |@cons _ _ na nb g2 L2 h2 t2=>
   obtain⟨eG,rfl⟩:=hs.inv
   exact⟨rfl,by first|rfl|exact nz,_,.t2 eG zM ⟨vM.1,dN⟩ (.f ⟨vM.1,dN⟩ h2) tu t2,by(try simp only[lC,lA,lB,List.append_nil]);generalize ad m bl _ rest=MM;exact HQ⟩
  ·have e:l8 x o (.d h' v' 0)=.d 0 0 5 false:=by
    show(if(0:Int)=0 then(if x.j.f.size≤v' then av.d 0 0 5 false else .t2 v' h' (.new x.j v')) else av.d 0 0 15 false)=_
    rw[if_pos rfl,if_pos G2]
   rw[e]
   obtain⟨rfl,rfl,rfl,rfl,rfl,rfl,rfl,rfl⟩:=hE
   exact⟨rfl,by first|rfl|exact nz,_,.d hs (by simp),by(try simp only[lC,lA,lB,List.append_nil]);generalize ad m bl _ rest=MM;exact HQ⟩
  ·have e:l8 x o (.d h' v' e')=.d 0 0 15 false:=if_neg he
   rw[e]
   obtain⟨rfl,rfl,rfl,rfl,rfl,rfl,rfl,rfl⟩:=hE
   exact⟨rfl,by first|rfl|exact nz,_,.d hs (by simp),by(try simp only[lC,lA,lB,List.append_nil]);generalize ad m bl _ rest=MM;exact HQ⟩
theorem PV {z}{i hd:Int}:PQ x o q b m bl rest y (.t2 i hd z):=by
 intro B0 S W R l ro hx hk hy h H
 obtain⟨dD,cG,eu,eO,eL,eP,bq,da,eQ,eY,dX,eM,-⟩:=aK hx hk
 cases h with
 |@t2 z i hd cl lo L g sv uv UL gu vx vb key hv hh hi h tu t=>
 simp only[lA,lB,lC] at H
 have H:=Hs.cx (tgt:=.obj q _::.sl sv 1 _::(lo++(ad m bl y rest++(.obj vx (.row [.ptr q 0])::(g++(gu++(.sl uv 1 UL::.obj vb (.row [I (x.ring o.c).head,I (x.ring o.c).tail,I (x.ring o.c).eE,I (x.ring o.c).size])::R))))))) HQ H
 refine eR (jQ:=av.nW x o i hd (z.stepOf x.j i y).1) (y':=(z.stepOf x.j i y).2) (by rw[t.len];exact Nat.le_of_ble_eq_true rfl) (fun aM h1 h2 h3 B W S H=>Gf h1 h2 h3 cG hy h H) ?_ ?_ H
 ·rintro b' aM A hv ⟨rfl,ho,lO,hP,rfl⟩
  generalize hw:(z.stepOf x.j i y).1=w at*
  cases w<;>first|(cases ho;done)|exact⟨rfl,rfl,_,.t2 hv hh hi hP tu t,HQ⟩
 ·rintro kr b' aM L' b7 i' aI aJ cJ aF A fA h0 hs ⟨rfl,ho,hE,rfl⟩
  generalize hw:(z.stepOf x.j i y).1=w at*
  cases w<;>first|(cases ho;done)|skip
  have hb:=pX.bd hy h hw
  rename_i w' e'
  rcases hE with⟨vM,hE⟩|⟨vM,hE⟩
  ·have e:nW x o i hd (.d w' e')=.t3 i hd w' .l:=(if_neg vM).trans (by rw[bE.db hi (by omega)])
   rw[e]
   obtain⟨rfl,rfl,rfl,rfl,rfl,rfl,rfl,rfl⟩:=hE
   cases t with
   |@cons _ _ na nb g2 L2 h2 t2=>
   obtain⟨eG,rfl⟩:=hs.inv
   exact⟨rfl,by first|rfl|exact nz,_,.t3 eG hh hi ⟨hb,vM⟩ (.f hi h2) tu t2,by(try simp only[lC,lA,lB,List.append_nil]);generalize ad m bl _ rest=MM;exact HQ⟩
  ·have e:nW x o i hd (.d w' e')=.d 0 0 5 false:=if_pos vM
   rw[e]
   obtain⟨rfl,rfl,rfl,rfl,rfl,rfl,rfl,rfl⟩:=hE
   exact⟨rfl,by first|rfl|exact nz,_,.d hs (by simp),by(try simp only[lC,lA,lB,List.append_nil]);generalize ad m bl _ rest=MM;exact HQ⟩
theorem PW {z}{i hd w:Int}:PQ x o q b m bl rest y (.t3 i hd w z):=by
 intro B0 S W R l ro hx hk hy h H
 obtain⟨dD,cG,eu,eO,eL,eP,bq,da,eQ,eY,dX,eM,-⟩:=aK hx hk
 cases h with
 |@t3 z i hd w cl lo L g sv uv UL gu vx vb hv hh hi cV h tu t=>
 simp only[lA,lB,lC] at H
 have H:=Hs.cx (tgt:=.obj q _::.sl sv 1 _::(lo++(ad m bl y rest++((g++(gu++(.sl uv 1 UL::.obj vx (.row [.ptr q 0])::.obj vb (.row [I (x.ring o.c).head,I (x.ring o.c).tail,I (x.ring o.c).eE,I (x.ring o.c).size])::R))))))) HQ H
 refine eR (jQ:=if(z.step x.j i 2 3 o.c y).1.over then .t4 i hd w (.p .a 0) else .t3 i hd w (z.step x.j i 2 3 o.c y).1) (y':=(z.step x.j i 2 3 o.c y).2) (by rw[t.len];exact Nat.le_of_ble_eq_true rfl) (fun aM h1 h2 h3 B W S H=>kP h1 h2 h3 cG (by omega) (by omega) (by omega) hy h H) ?_ ?_ H
 ·rintro b' aM A hv ⟨rfl,ho,lO,hP,rfl⟩
  generalize hw:(z.step x.j i 2 3 o.c y).1=w at*
  rw[if_neg (by rw[ho];simp)]
  exact⟨rfl,rfl,_,.t3 hv hh hi cV hP tu t,HQ⟩
 ·rintro kr b' aM L' b7 i' aI aJ cJ aF A fA h0 hs ⟨rfl,ho,hE,rfl⟩
  generalize hw:(z.step x.j i 2 3 o.c y).1=w at*
  rw[if_pos ho]
  obtain⟨rfl,rfl,rfl,rfl,rfl,rfl,rfl,rfl⟩:=hE
  cases t with
  |@cons _ _ na nb g2 L2 h2 t2=>
  obtain⟨eG,rfl⟩:=hs.inv
  exact⟨rfl,by first|rfl|exact nz,_,.t4 eG hh hi cV (.f h2) tu t2,by(try simp only[lC,lA,lB,List.append_nil]);generalize ad m bl _ rest=MM;exact HQ⟩
theorem PX {z}{i hd w:Int}:PQ x o q b m bl rest y (.t4 i hd w z):=by
 intro B0 S W R l ro hx hk hy h H
 obtain⟨dD,cG,eu,eO,eL,eP,bq,da,eQ,eY,dX,eM,-⟩:=aK hx hk
 cases h with
 |@t4 z i hd w cl lo L g sv uv UL gu vx vb hv hh hi cV h tu t=>
 simp only[lA,lB,lC] at H
 have H:=Hs.cx (tgt:=.obj q _::.sl sv 1 _::(lo++(ad m bl y rest++(.sl uv 1 UL::.obj vx (.row [.ptr q 0])::(g++(gu++(.obj vb (.row [I (x.ring o.c).head,I (x.ring o.c).tail,I (x.ring o.c).eE,I (x.ring o.c).size])::R))))))) HQ H
 refine eR (jQ:=av.pO x o i hd w (z.step x.t o.c w i o.high y).1) (y':=(z.step x.t o.c w i o.high y).2) (by rw[t.len];exact Nat.le_of_ble_eq_true rfl) (fun aM h1 h2 h3 B W S H=>Gi h1 h2 h3 (by rw[tu.len];exact Nat.le_of_ble_eq_true rfl) dD (by omega) (by have:=cV.1;have:=cV.2;unfold Me.ar bU at*;omega) ⟨by omega,by omega,by omega⟩ hy h H) ?_ ?_ H
 ·rintro b' aM A hv ⟨rfl,ho,lO,hP,rfl⟩
  generalize hw:(z.step x.t o.c w i o.high y).1=w at*
  cases w<;>first|(cases ho;done)|exact⟨rfl,rfl,_,.t4 hv hh hi cV hP tu t,HQ⟩
 ·rintro kr b' aM L' b7 i' aI aJ cJ aF A fA h0 hs ⟨rfl,ho,hE,rfl⟩
  generalize hw:(z.step x.t o.c w i o.high y).1=w at*
  cases w<;>first|(cases ho;done)|skip
  rcases hE with⟨rfl,hE⟩|⟨he,hE⟩
  ·obtain⟨rfl,rfl,rfl,rfl,rfl,rfl,rfl,rfl⟩:=hE
   cases t with
   |@cons _ _ na nb g2 L2 h2 t2=>
   obtain⟨eG,rfl⟩:=hs.inv
   exact⟨rfl,by first|rfl|exact nz,_,.t6 eG (.f ⟨dX,hh⟩ h2) t2,by(try simp only[lC,lA,lB,List.append_nil]);generalize ad m bl _ rest=MM;exact HQ⟩
  ·obtain⟨rfl,rfl,rfl,rfl,rfl,rfl,rfl⟩:=hE
   have e:∀i hd w:Int,0≤i∧i<x.j.f.size→pO x o i hd w (.d _)=.t5 i w _ .l:=fun i hd w hi=>(if_neg he).trans (by rw[bE.db hi (by omega)])
   rw[e _ _ _ hi]
   cases tu with
   |@cons _ _ na nb g2 L2 h2 t2=>
   obtain⟨eG,rfl⟩:=hs.inv
   exact⟨rfl,by first|rfl|exact nz,_,.t5 eG he (.f hi h2) t2,by(try simp only[lC,lA,lB,List.append_nil]);generalize ad m bl _ rest=MM;exact HQ⟩
theorem PY {z}{i w e:Int}:PQ x o q b m bl rest y (.t5 i w e z):=by
 intro B0 S W R l ro hx hk hy h H
 obtain⟨dD,cG,eu,eO,eL,eP,bq,da,eQ,eY,dX,eM,-⟩:=aK hx hk
 cases h with
 |@t5 z i w e cl lo L g sv uv key au hv he h t=>
 simp only[lA,lB,lC] at H
 have H:=Hs.cx (tgt:=.obj q _::.sl sv 1 _::(lo++(ad m bl y rest++((g++(R)))))) HQ H
 refine eR (jQ:=if(z.step x.j i 3 2 o.c y).1.over then .d i w e false else .t5 i w e (z.step x.j i 3 2 o.c y).1) (y':=(z.step x.j i 3 2 o.c y).2) (by rw[t.len];exact Nat.le_of_ble_eq_true rfl) (fun aM h1 h2 h3 B W S H=>kP h1 h2 h3 cG (by omega) (by omega) (by omega) hy h H) ?_ ?_ H
 ·rintro b' aM A hv ⟨rfl,ho,lO,hP,rfl⟩
  generalize hw:(z.step x.j i 3 2 o.c y).1=w at*
  rw[if_neg (by rw[ho];simp)]
  exact⟨rfl,rfl,_,.t5 hv he hP t,HQ⟩
 ·rintro kr b' aM L' b7 i' aI aJ cJ aF A fA h0 hs ⟨rfl,ho,hE,rfl⟩
  generalize hw:(z.step x.j i 3 2 o.c y).1=w at*
  rw[if_pos ho]
  obtain⟨rfl,rfl,rfl,rfl,rfl,rfl,rfl,rfl⟩:=hE
  cases t
  exact⟨rfl,by first|rfl|exact nz,_,.d hs (fun e _=>absurd e he),by(try simp only[lC,lA,lB,List.append_nil]);generalize ad m bl _ rest=MM;exact HQ⟩
theorem PZ {z}{i hd w:Int}:PQ x o q b m bl rest y (.t6 i hd w z):=by
 intro B0 S W R l ro hx hk hy h H
 obtain⟨dD,cG,eu,eO,eL,eP,bq,da,eQ,eY,dX,eM,-⟩:=aK hx hk
 cases h with
 |@t6 z i hd w cl lo L g sv uv vx vb hv h t=>
 simp only[lA,lB,lC] at H
 have H:=Hs.cx (tgt:=.obj q _::.sl sv 1 _::(lo++(ad m bl y rest++(.obj vx (.row [.ptr q 0])::.obj vb (.row [I (x.ring o.c).head,I (x.ring o.c).tail,I (x.ring o.c).eE,I (x.ring o.c).size])::(g++(R)))))) HQ H
 refine eR (jQ:=if(z.step (x.ring o.c) hd y).1.over then av.balance x i w else .t6 i hd w (z.step (x.ring o.c) hd y).1) (y':=(z.step (x.ring o.c) hd y).2) (by rw[t.len];exact Nat.le_of_ble_eq_true rfl) (fun aM h1 h2 h3 B W S H=>De h1 h2 h3 dX hy h H) ?_ ?_ H
 ·rintro b' aM A hv ⟨rfl,ho,lO,hP,rfl⟩
  generalize hw:(z.step (x.ring o.c) hd y).1=w at*
  rw[if_neg (by rw[ho];simp)]
  exact⟨rfl,rfl,_,.t6 hv hP t,HQ⟩
 ·rintro kr b' aM L' b7 i' aI aJ cJ aF A fA h0 hs ⟨rfl,ho,hE,rfl⟩
  generalize hw:(z.step (x.ring o.c) hd y).1=w at*
  rw[if_pos ho]
  obtain⟨rfl,rfl,rfl,rfl,rfl,rfl,rfl,rfl⟩:=hE
  cases t with
  |@cons _ _ na nb g2 L2 h2 t2=>
  obtain⟨eG,rfl⟩:=hs.inv
  exact⟨rfl,by first|rfl|exact nz,_,.oN eG (.f h2) t2,by(try simp only[lC,lA,lB,List.append_nil]);generalize ad m bl _ rest=MM;exact HQ⟩
theorem Lq {z}{i w:Int}:PQ x o q b m bl rest y (.oN i w z):=by
 intro B0 S W R l ro hx hk hy h H
 obtain⟨dD,cG,eu,eO,eL,eP,bq,da,eQ,eY,dX,eM,-⟩:=aK hx hk
 cases h with
 |@oN z i w cl lo L g sv uv au hv h t=>
 simp only[lA,lB,lC] at H
 have H:=Hs.cx (tgt:=.obj q _::.sl sv 1 _::(lo++(ad m bl y rest++((g++(R)))))) HQ H
 refine eR (jQ:=if(z.step x.t x.r o.c y).1.over then .d i w 0 false else .oN i w (z.step x.t x.r o.c y).1) (y':=(z.step x.t x.r o.c y).2) (by rw[t.len];exact Nat.le_of_ble_eq_true rfl) (fun aM h1 h2 h3 B W S H=>H8 h1 h2 h3 dD eu (by omega) hy h H) ?_ ?_ H
 ·rintro b' aM A hv ⟨rfl,ho,lO,hP,rfl⟩
  generalize hw:(z.step x.t x.r o.c y).1=w at*
  rw[if_neg (by rw[ho];simp)]
  exact⟨rfl,rfl,_,.oN hv hP t,HQ⟩
 ·rintro kr b' aM L' b7 i' aI aJ cJ aF A fA h0 hs ⟨rfl,ho,hE,rfl⟩
  generalize hw:(z.step x.t x.r o.c y).1=w at*
  rw[if_pos ho]
  obtain⟨rfl,rfl,rfl,rfl,rfl,rfl,rfl,rfl⟩:=hE
  cases t
  exact⟨rfl,by first|rfl|exact nz,_,.d hs (fun _ _=>⟨rfl,rfl⟩),by(try simp only[lC,lA,lB,List.append_nil]);generalize ad m bl _ rest=MM;exact HQ⟩
end
end
section
open av
section
variable{B0 S:AH}{W:List Nat}{R l:List Own}{ro:List aQ}{m bl q:Nat}{y:Me}{rest:List AV}{x:Xc}{o:Od}{b:Int}
theorem P1 (hx:x.ok) (hk:o.ok x) (hy:y.gd) (h:eF x o q b (.p1) l) (H:Cx B0 W S (l++(ad m bl y rest++R)) ro):
  aO EM (zF 20) [.ptr q 0,.ptr m 0] S fun u S'=>∃ab,eD (eF x o q (av.cz x o (.p1))) av.over (av.step x o (.p1) y) (ad m bl · rest) R u ab∧Cx B0 W S' ab ro:=by
 obtain⟨dD,cG,eu,eO,eL,eP,bq,da,eQ,eY,dX,eM,-⟩:=aK hx hk
 cases h with
 |@p1 p1 a1 b1 L g sv uv vx i key au hv t=>
 simp only[lA,lB,lC] at H
 have H:=Hs.cx (tgt:=.obj q _::.sl sv 1 _::([.obj p1 (.row [.fn (.func 414) [] [.ptr a1 0,.ptr b1 0]]),.obj a1 (.row [.ptr q 0]),.obj b1 (.row [.fn (.func 294) [] [.ptr vx 0]])]++(ad m bl y rest++(.obj vx (.row [.ptr q 0])::(g++(R)))))) HQ H
 refine eR (jQ:=if 0≤x.rd (y.word (x.own+o.c)) then .d 0 0 11 false else av.pick) (y':=y.ld (x.own+o.c)) (by rw[t.len];exact Nat.le_of_ble_eq_true rfl) (fun aM h1 h2 h3 B W S H=>xK h1 h2 h3 (by rw[t.len];exact Nat.le_of_ble_eq_true rfl) hy ⟨by omega,by omega,da⟩ H) ?_ ?_ H
 ·rintro b' aM A hv ⟨⟩
 ·rintro kr b' aM L' b7 i' aI aJ cJ aF A fA h0 hs ⟨rfl,ho,ex,hE,rfl⟩
  rcases hE with⟨hr,rfl,hE⟩|⟨hr,hE⟩
  ·rw[if_pos hr]
   obtain⟨rfl,rfl,rfl,rfl,rfl,rfl,rfl,rfl⟩:=hE
   exact⟨rfl,by first|rfl|exact nz,_,.d hs (by simp),by(try simp only[lC,lA,lB,List.append_nil]);generalize ad m bl _ rest=MM;exact HQ⟩
  ·rw[if_neg (by omega)]
   obtain⟨P,hP,hE⟩:=hE
   obtain⟨_,rfl,rfl,rfl,rfl,rfl,rfl,rfl⟩:=hE
   cases hP with
   |@mk xG rB xH xI rC xJ pr po vp hb ht hp=>
   cases t
   obtain⟨eG,rfl⟩:=hs.PJ
   exact⟨rfl,rfl,_,.p2 (L:=_) eG (.f hp) (AY hb ht),by(try simp only[lC,lA,lB,List.append_nil]);generalize ad m bl _ rest=MM;exact HQ⟩
theorem P2 {z}:PQ x o q b m bl rest y (.p2 z):=by
 intro B0 S W R l ro hx hk hy h H
 obtain⟨dD,cG,eu,eO,eL,eP,bq,da,eQ,eY,dX,eM,-⟩:=aK hx hk
 cases h with
 |@p2 z cl lo L g sv uv vp i key au hv h t=>
 simp only[lA,lB,lC] at H
 have H:=Hs.cx (tgt:=.obj q _::.sl sv 1 _::(lo++(ad m bl y rest++(.obj vp (.row [.ptr q 0])::(g++(R)))))) HQ H
 refine eR (jQ:=av.jf x o (z.step x.t o.c false y).1) (y':=(z.step x.t o.c false y).2) (by rw[t.len];exact Nat.le_of_ble_eq_true rfl) (fun aM h1 h2 h3 B W S H=>Gk h1 h2 h3 dD (by omega) hy h H) ?_ ?_ H
 ·rintro b' aM A hv ⟨rfl,ho,lO,hP,rfl⟩
  generalize hw:(z.step x.t o.c false y).1=w at*
  cases w<;>first|(cases ho;done)|exact⟨rfl,rfl,_,.p2 hv hP t,HQ⟩
 ·rintro kr b' aM L' b7 i' aI aJ cJ aF A fA h0 hs ⟨rfl,ho,hE,rfl⟩
  generalize hw:(z.step x.t o.c false y).1=w at*
  cases w<;>first|(cases ho;done)|skip
  rename_i k' j' e'
  rcases hE with⟨rfl,Ng,HO,hE⟩|⟨rfl,hj,hE⟩|⟨he,P3,hE⟩|⟨he,P3,hE⟩
  ·have e:jf x o (.d k' j' 0)=.p3 j' k' .l:=by
    show(if(0:Int)=0 then(if j'<0∨x.j.f.size≤j' then av.d 0 0 5 false else .p3 j' k' (.new x.j j' o.c)) else if o.k=4 then av.d 0 0 0 true else .d 0 0 15 false)=_
    rw[if_pos rfl,if_neg (by omega),bE.db ⟨Ng,HO⟩ (by omega)]
   rw[e]
   obtain⟨rfl,rfl,rfl,rfl,rfl,rfl,rfl,rfl⟩:=hE
   cases t with
   |@cons _ _ na nb g2 L2 h2 t2=>
   obtain⟨eG,rfl⟩:=hs.inv
   exact⟨rfl,by first|rfl|exact nz,_,.p3 eG ⟨Ng,HO⟩ (.f ⟨Ng,HO⟩ h2) t2,by(try simp only[lC,lA,lB,List.append_nil]);generalize ad m bl _ rest=MM;exact HQ⟩
  ·have e:jf x o (.d k' j' 0)=.d 0 0 5 false:=by
    show(if(0:Int)=0 then(if j'<0∨x.j.f.size≤j' then av.d 0 0 5 false else .p3 j' k' (.new x.j j' o.c)) else if o.k=4 then av.d 0 0 0 true else .d 0 0 15 false)=_
    rw[if_pos rfl,if_pos hj]
   rw[e]
   obtain⟨rfl,rfl,rfl,rfl,rfl,rfl,rfl,rfl⟩:=hE
   exact⟨rfl,by first|rfl|exact nz,_,.d hs (by simp),by(try simp only[lC,lA,lB,List.append_nil]);generalize ad m bl _ rest=MM;exact HQ⟩
  ·have e:jf x o (.d k' j' e')=.d 0 0 0 true:=(if_neg he).trans (if_pos P3)
   rw[e]
   obtain⟨rfl,rfl,rfl,rfl,rfl,rfl,rfl,rfl⟩:=hE
   exact⟨rfl,by first|rfl|exact nz,_,.d hs (by simp),by(try simp only[lC,lA,lB,List.append_nil]);generalize ad m bl _ rest=MM;exact HQ⟩
  ·have e:jf x o (.d k' j' e')=.d 0 0 15 false:=(if_neg he).trans (if_neg P3)
   rw[e]
   obtain⟨rfl,rfl,rfl,rfl,rfl,rfl,rfl,rfl⟩:=hE
   exact⟨rfl,by first|rfl|exact nz,_,.d hs (by simp),by(try simp only[lC,lA,lB,List.append_nil]);generalize ad m bl _ rest=MM;exact HQ⟩
theorem P4 {z}{i w:Int}:PQ x o q b m bl rest y (.p3 i w z):=by
 intro B0 S W R l ro hx hk hy h H
 obtain⟨dD,cG,eu,eO,eL,eP,bq,da,eQ,eY,dX,eM,-⟩:=aK hx hk
 cases h with
 |@p3 z i w cl lo L g sv uv vp au hv hi h t=>
 simp only[lA,lB,lC] at H
 have H:=Hs.cx (tgt:=.obj q _::.sl sv 1 _::(lo++(ad m bl y rest++((g++(.obj vp (.row [.ptr q 0])::R)))))) HQ H
 refine eR (jQ:=if(z.step x.j i 3 4 o.c y).1.over then .p4 i w else .p3 i w (z.step x.j i 3 4 o.c y).1) (y':=(z.step x.j i 3 4 o.c y).2) (by rw[t.len];exact Nat.le_of_ble_eq_true rfl) (fun aM h1 h2 h3 B W S H=>kP h1 h2 h3 cG (by omega) (by omega) (by omega) hy h H) ?_ ?_ H
 ·rintro b' aM A hv ⟨rfl,ho,lO,hP,rfl⟩
  generalize hw:(z.step x.j i 3 4 o.c y).1=w at*
  rw[if_neg (by rw[ho];simp)]
  exact⟨rfl,rfl,_,.p3 hv hi hP t,HQ⟩
 ·rintro kr b' aM L' b7 i' aI aJ cJ aF A fA h0 hs ⟨rfl,ho,hE,rfl⟩
  generalize hw:(z.step x.j i 3 4 o.c y).1=w at*
  rw[if_pos ho]
  obtain⟨rfl,rfl,rfl,rfl,rfl,rfl,rfl,rfl⟩:=hE
  cases t with
  |@cons _ _ na nb g2 L2 h2 t2=>
  obtain⟨eG,rfl⟩:=hs.inv
  obtain⟨p2,rfl,rfl⟩:=h2
  exact⟨rfl,by first|rfl|exact nz,_,.p4 eG hi t2,by(try simp only[lC,lA,lB,List.append_nil]);generalize ad m bl _ rest=MM;exact HQ⟩
theorem P5 {i w:Int}:PQ x o q b m bl rest y (.p4 i w):=by
 intro B0 S W R l ro hx hk hy h H
 obtain⟨dD,cG,eu,eO,eL,eP,bq,da,eQ,eY,dX,eM,-⟩:=aK hx hk
 cases h with
 |@p4 i w p1 L g sv uv vp au hv hi t=>
 simp only[lA,lB,lC] at H
 have H:=Hs.cx (tgt:=.obj q _::.sl sv 1 _::([.obj p1 (.row [.fn (.func 420) [] [.ptr vp 0]])]++(ad m bl y rest++(.obj vp (.row [.ptr q 0])::(g++(R)))))) HQ H
 refine eR (jQ:=.p5 i w) (y':=y.st (x.own+o.c) (i+1)) (by rw[t.len];exact Nat.le_of_ble_eq_true rfl) (fun aM h1 h2 h3 B W S H=>Ib h1 h2 h3 hy (by omega) H ⟨by omega,by omega⟩) ?_ ?_ H
 ·rintro b' aM A hv ⟨⟩
 ·rintro kr b' aM L' b7 i' aI aJ cJ aF A fA h0 hs ⟨rfl,ho,hE,rfl⟩
  obtain⟨rfl,rfl,rfl,rfl,rfl,rfl,rfl,rfl⟩:=hE
  cases t with
  |@cons _ _ na nb g2 L2 h2 t2=>
  obtain⟨eG,rfl⟩:=hs.inv
  obtain⟨p2,rfl,rfl⟩:=h2
  exact⟨rfl,by first|rfl|exact nz,_,.p5 eG t2,by(try simp only[lC,lA,lB,List.append_nil]);generalize ad m bl _ rest=MM;exact HQ⟩
theorem P6 {i w:Int}:PQ x o q b m bl rest y (.p5 i w):=by
 intro B0 S W R l ro hx hk hy h H
 obtain⟨dD,cG,eu,eO,eL,eP,bq,da,eQ,eY,dX,eM,-⟩:=aK hx hk
 cases h with
 |@p5 i w p1 L g sv uv vp au hv t=>
 simp only[lA,lB,lC] at H
 have H:=Hs.cx (tgt:=.obj q _::.sl sv 1 _::([.obj p1 (.row [.fn (.func 421) [] [.ptr vp 0]])]++(ad m bl y rest++(.obj vp (.row [.ptr q 0])::(g++(R)))))) HQ H
 refine eR (jQ:=av.balance x i w) (y':=y.st (x.r.runs+o.c) w) (by rw[t.len];exact Nat.le_of_ble_eq_true rfl) (fun aM h1 h2 h3 B W S H=>Ic h1 h2 h3 hy ⟨by omega,by omega⟩ H) ?_ ?_ H
 ·rintro b' aM A hv ⟨⟩
 ·rintro kr b' aM L' b7 i' aI aJ cJ aF A fA h0 hs ⟨rfl,ho,hE,rfl⟩
  obtain⟨rfl,rfl,rfl,rfl,rfl,rfl,rfl,rfl⟩:=hE
  cases t with
  |@cons _ _ na nb g2 L2 h2 t2=>
  obtain⟨eG,rfl⟩:=hs.inv
  exact⟨rfl,by first|rfl|exact nz,_,.oN eG (.f h2) t2,by(try simp only[lC,lA,lB,List.append_nil]);generalize ad m bl _ rest=MM;exact HQ⟩
theorem P7 (hx:x.ok) (hk:o.ok x) (hy:y.gd) (h:eF x o q b (.s1) l) (H:Cx B0 W S (l++(ad m bl y rest++R)) ro):
  aO EM (zF 20) [.ptr q 0,.ptr m 0] S fun u S'=>∃ab,eD (eF x o q (av.cz x o (.s1))) av.over (av.step x o (.s1) y) (ad m bl · rest) R u ab∧Cx B0 W S' ab ro:=by
 obtain⟨dD,cG,eu,eO,eL,eP,bq,da,eQ,eY,dX,eM,-⟩:=aK hx hk
 cases h with
 |@s1 p1 L g sv uv vx vh vf i key au hv t=>
 simp only[lA,lB,lC] at H
 have H:=Hs.cx (tgt:=.obj q _::.sl sv 1 _::([.obj p1 (.row [.fn (.func 297) [] [.ptr vf 0,.ptr vx 0]])]++(ad m bl y rest++(.obj vx (.row [.ptr q 0])::.obj vf (.row [I (x.r.flags+o.c)])::(g++(.obj vh (.row [I o.high])::R)))))) HQ H
 refine eR (jQ:=if y.word (x.r.flags+o.c)=0 then .d 0 0 15 false else .s2) (y':=y.ld (x.r.flags+o.c)) (by rw[t.len];exact Nat.le_of_ble_eq_true rfl) (fun aM h1 h2 h3 B W S H=>Gl h1 h2 h3 hy (by omega) H) ?_ ?_ H
 ·rintro b' aM A hv ⟨⟩
 ·rintro kr b' aM L' b7 i' aI aJ cJ aF A fA h0 hs ⟨rfl,ho,hE,rfl⟩
  rcases hE with⟨hr,hE⟩|⟨hr,hE⟩
  ·rw[if_neg hr]
   obtain⟨rfl,rfl,rfl,rfl,rfl,rfl,rfl,rfl⟩:=hE
   cases t with
   |@cons _ _ na nb g2 L2 h2 t2=>
   obtain⟨eG,rfl⟩:=hs.inv
   obtain⟨p2,a2,b2,rfl,rfl⟩:=h2
   exact⟨rfl,by first|rfl|exact nz,_,.s2 eG t2,by(try simp only[lC,lA,lB,List.append_nil]);generalize ad m bl _ rest=MM;exact HQ⟩
  ·rw[if_pos hr]
   obtain⟨rfl,rfl,rfl,rfl,rfl,rfl,rfl,rfl⟩:=hE
   exact⟨rfl,by first|rfl|exact nz,_,.d hs (by simp),by(try simp only[lC,lA,lB,List.append_nil]);generalize ad m bl _ rest=MM;exact HQ⟩
theorem P8 (hx:x.ok) (hk:o.ok x) (hy:y.gd) (h:eF x o q b (.s2) l) (H:Cx B0 W S (l++(ad m bl y rest++R)) ro):
  aO EM (zF 20) [.ptr q 0,.ptr m 0] S fun u S'=>∃ab,eD (eF x o q (av.cz x o (.s2))) av.over (av.step x o (.s2) y) (ad m bl · rest) R u ab∧Cx B0 W S' ab ro:=by
 obtain⟨dD,cG,eu,eO,eL,eP,bq,da,eQ,eY,dX,eM,-⟩:=aK hx hk
 cases h with
 |@s2 p1 a1 b1 L g sv uv vx vh i key au hv t=>
 simp only[lA,lB,lC] at H
 have H:=Hs.cx (tgt:=.obj q _::.sl sv 1 _::([.obj p1 (.row [.fn (.func 423) [] [.ptr a1 0,.ptr b1 0]]),.obj a1 (.row [I (x.r.flags+o.c)]),.obj b1 (.row [U 0])]++(ad m bl y rest++((g++(.obj vx (.row [.ptr q 0])::.obj vh (.row [I o.high])::R)))))) HQ H
 refine eR (jQ:=.s3) (y':=y.st (x.r.flags+o.c) 0) (by rw[t.len];exact Nat.le_of_ble_eq_true rfl) (fun aM h1 h2 h3 B W S H=>iW h1 h2 h3 hy (by omega) (by unfold Me.ar;omega) H) ?_ ?_ H
 ·rintro b' aM A hv ⟨⟩
 ·rintro kr b' aM L' b7 i' aI aJ cJ aF A fA h0 hs ⟨rfl,ho,hE,rfl⟩
  obtain⟨rfl,rfl,rfl,rfl,rfl,rfl,rfl,rfl⟩:=hE
  cases t with
  |@cons _ _ na nb g2 L2 h2 t2=>
  obtain⟨eG,rfl⟩:=hs.inv
  obtain⟨p2,a2,b2,rfl,rfl⟩:=h2
  exact⟨rfl,by first|rfl|exact nz,_,.s3 eG t2,by(try simp only[lC,lA,lB,List.append_nil]);generalize ad m bl _ rest=MM;exact HQ⟩
theorem P9 (hx:x.ok) (hk:o.ok x) (hy:y.gd) (h:eF x o q b (.s3) l) (H:Cx B0 W S (l++(ad m bl y rest++R)) ro):
  aO EM (zF 20) [.ptr q 0,.ptr m 0] S fun u S'=>∃ab,eD (eF x o q (av.cz x o (.s3))) av.over (av.step x o (.s3) y) (ad m bl · rest) R u ab∧Cx B0 W S' ab ro:=by
 obtain⟨dD,cG,eu,eO,eL,eP,bq,da,eQ,eY,dX,eM,-⟩:=aK hx hk
 cases h with
 |@s3 p1 a1 b1 L g sv uv vx vh i key au hv t=>
 simp only[lA,lB,lC] at H
 have H:=Hs.cx (tgt:=.obj q _::.sl sv 1 _::([.obj p1 (.row [.fn (.func 414) [] [.ptr a1 0,.ptr b1 0]]),.obj a1 (.row [.ptr q 0]),.obj b1 (.row [.fn (.func 300) [] [.ptr vx 0,.ptr vh 0]])]++(ad m bl y rest++(.obj vx (.row [.ptr q 0])::.obj vh (.row [I o.high])::(g++(R)))))) HQ H
 refine eR (jQ:=if x.rd (y.word (x.own+o.c))<0 then av.pick else .s4 (x.rd (y.word (x.own+o.c))) (.new x.j (x.rd (y.word (x.own+o.c))))) (y':=y.ld (x.own+o.c)) (by rw[t.len];exact Nat.le_of_ble_eq_true rfl) (fun aM h1 h2 h3 B W S H=>vu h1 h2 h3 (by rw[t.len];exact Nat.le_of_ble_eq_true rfl) hy ⟨by omega,by omega,da⟩ ⟨by omega,by omega⟩ H) ?_ ?_ H
 ·rintro b' aM A hv ⟨⟩
 ·rintro kr b' aM L' b7 i' aI aJ cJ aF A fA h0 hs ⟨rfl,ho,ex,hE,rfl⟩
  rcases hE with⟨hr,hE⟩|⟨hr,hu,P,Y,U',e1,e2,hP,hY,rfl,hE⟩
  ·rw[if_pos hr]
   obtain⟨P,hP,hE⟩:=hE
   obtain⟨_,rfl,rfl,rfl,rfl,rfl,rfl,rfl⟩:=hE
   cases hP with
   |@mk xG rB xH xI rC xJ pr po vp hb ht hp=>
   cases t
   obtain⟨eG,rfl⟩:=hs.PJ
   exact⟨rfl,rfl,_,.p2 (L:=_) eG (.f hp) (AY hb ht),by(try simp only[lC,lA,lB,List.append_nil]);generalize ad m bl _ rest=MM;exact HQ⟩
  ·obtain⟨_,rfl,_,rfl,rfl,rfl,rfl,rfl⟩:=hE
   rw[if_neg (by omega),bO.db (x.wu hr)]
   cases hP with
   |@mk xG rB xH xI rC xJ pr po vp hb ht hp=>
   cases hY with
   |@mk ZP Lj ZR Ll ZS ZT ZU Lm ZV Ln ZW ZX s1 a1 w1 s2 a2 w2 u1 ua uw u2 vr vy ZY Jg z_ Pd ZZ Jh=>
   cases t
   obtain⟨eG,rfl⟩:=hs.PK
   exact⟨rfl,rfl,_,.s4 (L:=_) eG (x.wu hr) (.f (x.wu hr) ZY) (Lp ZZ Jh) (Li Jg z_ Pd hp hb ht),by(try simp only[lC,lA,lB,List.append_nil]);generalize ad m bl _ rest=MM;exact HQ⟩
end
end
end Go.cY
