/- Contracts. Conditions: in each theorem. -/
import Derived.Test.YtdfgboafnklioaaGreatM30
import Derived.Test.YtdfgboafnklioaaGreatM31
set_option linter.all false
set_option maxRecDepth 100000
set_option maxHeartbeats 4000000
namespace Go.cG
open Go.Proofs
section
open aG
section
variable{B0 S:AH}{W:List Nat}{R l:List Own}{ro:List aI}{m bl q:Nat}{y:Me}{rest:List AV}{x:Xc}{o:Od}{b:Int}
theorem Tm {z}{i:Int}:PQ x o q b m bl rest y (.s4 i z):=by
 intro B0 S W R l ro hx hk hy h H;obtain⟨eg,cX,eV,fu,fp,fw,bz,dH,fy,fE,eM,fq,-⟩:=aS hx hk;cases h with
 |@s4 z i cl lo L g sv uv UL gu vx vp key aw hv hi h tu t=>
 simp only[lA,lB,lC] at H;have H:=Hs.cx (tgt:=.obj q _::.sl sv 1 _::(lo++(ae m bl y rest++(.obj vx (.row [.ptr q 0])::(g++(gu++(.sl uv 1 UL::.obj vp (.row [.ptr q 0])::R))))))) HQ H;refine fz (kT:=aG.n8 x o i (z.stepOf x.j i y).1) (y':=(z.stepOf x.j i y).2) (by rw[t.len];exact Nat.le_of_ble_eq_true rfl) (λaT h1 h2 h3 B W S H=>Ih h1 h2 h3 cX hy h H) ?_ ?_ H
 .rintro b' aT A hv ⟨rfl,ho,jx,hP,rfl⟩;generalize hw:(z.stepOf x.j i y).1=w at*
  cases w<;>first|(cases ho;done)|exact⟨rfl,rfl,_,.s4 hv hi hP tu t,HQ⟩
 .rintro lM b' aT L' cq i' aQ aR da aP A ga h0 hs ⟨rfl,ho,hE,rfl⟩;generalize hw:(z.stepOf x.j i y).1=w at*
  cases w<;>first|(cases ho;done)|skip
  have hb:=rC.bd hy h hw;rename_i w' e';rcases hE with⟨yq,wQ,hE⟩|⟨yq,wQ,hE⟩|⟨yq,hE⟩
  .have e:n8 x o i (.d w' e')=.s5 i w' .l:=(if_neg yq).trans ((if_neg wQ).trans (by rw[bg.dD hi am]));rw[e];obtain⟨rfl,rfl,rfl,rfl,rfl,rfl,rfl,rfl⟩:=hE;cases t with
   |@cons _ _ oq oX g2 L2 h2 t2=>
   obtain⟨fh,rfl⟩:=hs.inv;exact⟨rfl,by first|rfl|exact nz,_,.s5 fh hi ⟨hb,yq⟩ (.f hi h2) tu t2,by(try simp only[lC,lA,lB,List.append_nil]);generalize ae m bl _ rest=MM;exact HQ⟩
  .have e:n8 x o i (.d w' e')=.d 0 0 12 false:=(if_neg yq).trans (if_pos wQ);rw[e];obtain⟨rfl,rfl,rfl,rfl,rfl,rfl,rfl,rfl⟩:=hE;exact⟨rfl,by first|rfl|exact nz,_,.d hs ac,by(try simp only[lC,lA,lB,List.append_nil]);generalize ae m bl _ rest=MM;exact HQ⟩
  .have e:n8 x o i (.d w' e')=.d 0 0 5 false:=if_pos yq;rw[e];obtain⟨rfl,rfl,rfl,rfl,rfl,rfl,rfl,rfl⟩:=hE;exact⟨rfl,by first|rfl|exact nz,_,.d hs ac,by(try simp only[lC,lA,lB,List.append_nil]);generalize ae m bl _ rest=MM;exact HQ⟩
theorem Tn {z}{i w:Int}:PQ x o q b m bl rest y (.s5 i w z):=by
 intro B0 S W R l ro hx hk hy h H;obtain⟨eg,cX,eV,fu,fp,fw,bz,dH,fy,fE,eM,fq,-⟩:=aS hx hk;cases h with
 |@s5 z i w cl lo L g sv uv UL gu vx vp aw hv hi dL h tu t=>
 simp only[lA,lB,lC] at H;have H:=Hs.cx (tgt:=.obj q _::.sl sv 1 _::(lo++(ae m bl y rest++((g++(gu++(.sl uv 1 UL::.obj vx (.row [.ptr q 0])::.obj vp (.row [.ptr q 0])::R))))))) HQ H;refine fz (kT:=if(z.step x.j i 4 3 o.c y).1.over then .s6 i w else .s5 i w (z.step x.j i 4 3 o.c y).1) (y':=(z.step x.j i 4 3 o.c y).2) (by rw[t.len];exact Nat.le_of_ble_eq_true rfl) (λaT h1 h2 h3 B W S H=>ma h1 h2 h3 cX am am am hy h H) ?_ ?_ H
 .rintro b' aT A hv ⟨rfl,ho,jx,hP,rfl⟩;generalize hw:(z.step x.j i 4 3 o.c y).1=w at*
  rw[if_neg (by rw[ho];simp)];exact⟨rfl,rfl,_,.s5 hv hi dL hP tu t,HQ⟩
 .rintro lM b' aT L' cq i' aQ aR da aP A ga h0 hs ⟨rfl,ho,hE,rfl⟩;generalize hw:(z.step x.j i 4 3 o.c y).1=w at*
  rw[if_pos ho];obtain⟨rfl,rfl,rfl,rfl,rfl,rfl,rfl,rfl⟩:=hE;cases t with
  |@cons _ _ oq oX g2 L2 h2 t2=>
  obtain⟨fh,rfl⟩:=hs.inv;obtain⟨p2,a2,b2,rfl,rfl⟩:=h2;exact⟨rfl,by first|rfl|exact nz,_,.s6 fh hi dL tu t2,by(try simp only[lC,lA,lB,List.append_nil]);generalize ae m bl _ rest=MM;exact HQ⟩
theorem Tp {i w:Int}:PQ x o q b m bl rest y (.s6 i w):=by
 intro B0 S W R l ro hx hk hy h H;obtain⟨eg,cX,eV,fu,fp,fw,bz,dH,fy,fE,eM,fq,-⟩:=aS hx hk;cases h with
 |@s6 i w p1 a1 b1 L g sv uv UL gu vx vp aw hv hi dL tu t=>
 simp only[lA,lB,lC] at H;have H:=Hs.cx (tgt:=.obj q _::.sl sv 1 _::([.obj p1 (.row [.fn (.func 423) [] [.ptr a1 0,.ptr b1 0]]),.obj a1 (.row [I (x.r.runs+o.c)]),.obj b1 (.row [U 18446744073709551615])]++(ae m bl y rest++((g++(gu++(.sl uv 1 UL::.obj vx (.row [.ptr q 0])::.obj vp (.row [.ptr q 0])::R))))))) HQ H;refine fz (kT:=.s7 i w (.new x.j i)) (y':=y.st (x.r.runs+o.c) 18446744073709551615) (by rw[t.len];exact Nat.le_of_ble_eq_true rfl) (λaT h1 h2 h3 B W S H=>jF h1 h2 h3 hy am (by unfold Me.aC;omega) H) ?_ ?_ H;.rintro b' aT A hv ⟨⟩
 .rintro lM b' aT L' cq i' aQ aR da aP A ga h0 hs ⟨rfl,ho,hE,rfl⟩;rw[bF.dD hi];obtain⟨rfl,rfl,rfl,rfl,rfl,rfl,rfl,rfl⟩:=hE;cases t with
  |@cons _ _ oq oX g2 L2 h2 t2=>
  obtain⟨fh,rfl⟩:=hs.inv;exact⟨rfl,by first|rfl|exact nz,_,.s7 fh hi dL (.f hi h2) tu t2,by(try simp only[lC,lA,lB,List.append_nil]);generalize ae m bl _ rest=MM;exact HQ⟩
theorem Tq {z}{i w:Int}:PQ x o q b m bl rest y (.s7 i w z):=by
 intro B0 S W R l ro hx hk hy h H;obtain⟨eg,cX,eV,fu,fp,fw,bz,dH,fy,fE,eM,fq,-⟩:=aS hx hk;cases h with
 |@s7 z i w cl lo L g sv uv UL gu vx vp aw hv hi dL h tu t=>
 simp only[lA,lB,lC] at H;have H:=Hs.cx (tgt:=.obj q _::.sl sv 1 _::(lo++(ae m bl y rest++(.obj vx (.row [.ptr q 0])::(g++(gu++(.sl uv 1 UL::.obj vp (.row [.ptr q 0])::R))))))) HQ H;refine fz (kT:=if(z.step x.j i ((w+1)%18446744073709551616) y).1.over then .s8 i w (.p .a 0) else .s7 i w (z.step x.j i ((w+1)%18446744073709551616) y).1) (y':=(z.step x.j i ((w+1)%18446744073709551616) y).2) (by rw[t.len];exact Nat.le_of_ble_eq_true rfl) (λaT h1 h2 h3 B W S H=>H_ h1 h2 h3 cX hy h H) ?_ ?_ H
 .rintro b' aT A hv ⟨rfl,ho,jx,hP,rfl⟩;generalize hw:(z.step x.j i ((w+1)%18446744073709551616) y).1=w at*
  rw[if_neg (by rw[ho];simp)];exact⟨rfl,rfl,_,.s7 hv hi dL hP tu t,HQ⟩
 .rintro lM b' aT L' cq i' aQ aR da aP A ga h0 hs ⟨rfl,ho,hE,rfl⟩;generalize hw:(z.step x.j i ((w+1)%18446744073709551616) y).1=w at*
  rw[if_pos ho];obtain⟨rfl,rfl,rfl,rfl,rfl,rfl,rfl,rfl⟩:=hE;cases t with
  |@cons _ _ oq oX g2 L2 h2 t2=>
  obtain⟨fh,rfl⟩:=hs.inv;exact⟨rfl,by first|rfl|exact nz,_,.s8 fh hi dL (.f h2) tu t2,by(try simp only[lC,lA,lB,List.append_nil]);generalize ae m bl _ rest=MM;exact HQ⟩
theorem Tr {z}{i w:Int}:PQ x o q b m bl rest y (.s8 i w z):=by
 intro B0 S W R l ro hx hk hy h H;obtain⟨eg,cX,eV,fu,fp,fw,bz,dH,fy,fE,eM,fq,-⟩:=aS hx hk;cases h with
 |@s8 z i w cl lo L g sv uv UL gu vx vp aw hv hi dL h tu t=>
 simp only[lA,lB,lC] at H;have H:=Hs.cx (tgt:=.obj q _::.sl sv 1 _::(lo++(ae m bl y rest++(.sl uv 1 UL::.obj vx (.row [.ptr q 0])::(g++(gu++(.obj vp (.row [.ptr q 0])::R))))))) HQ H;refine fz (kT:=aG.ta x o i w (z.step x.t o.c ((w+1)%18446744073709551616) i o.high y).1) (y':=(z.step x.t o.c ((w+1)%18446744073709551616) i o.high y).2) (by rw[t.len];exact Nat.le_of_ble_eq_true rfl) (λaT h1 h2 h3 B W S H=>Ij h1 h2 h3 (by rw[tu.len];exact Nat.le_of_ble_eq_true rfl) eg am (by have:=dL.1;have:=dL.2;unfold Me.aC cb at*;omega) ⟨am,am,am⟩ hy h H) ?_ ?_ H
 .rintro b' aT A hv ⟨rfl,ho,jx,hP,rfl⟩;generalize hw:(z.step x.t o.c ((w+1)%18446744073709551616) i o.high y).1=w at*
  cases w<;>first|(cases ho;done)|exact⟨rfl,rfl,_,.s8 hv hi dL hP tu t,HQ⟩
 .rintro lM b' aT L' cq i' aQ aR da aP A ga h0 hs ⟨rfl,ho,hE,rfl⟩;generalize hw:(z.step x.t o.c ((w+1)%18446744073709551616) i o.high y).1=w at*
  cases w<;>first|(cases ho;done)|skip
  rcases hE with⟨rfl,hE⟩|⟨he,hE⟩
  .obtain⟨rfl,rfl,rfl,rfl,rfl,rfl,rfl,rfl⟩:=hE;cases t with
   |@cons _ _ oq oX g2 L2 h2 t2=>
   obtain⟨fh,rfl⟩:=hs.inv;obtain⟨p2,a2,b2,rfl,rfl⟩:=h2;exact⟨rfl,by first|rfl|exact nz,_,.s9 fh t2,by(try simp only[lC,lA,lB,List.append_nil]);generalize ae m bl _ rest=MM;exact HQ⟩
  .obtain⟨rfl,rfl,rfl,rfl,rfl,rfl,rfl⟩:=hE;have e:∀i w:Int,0<=i/\i<x.j.f.size->ta x o i w (.d _)=.b1 i w _ .a:=λi w hi=>(if_neg he).trans (by rw[bF.dD hi]);rw[e _ _ hi];cases tu with
   |@cons _ _ oq oX g2 L2 h2 t2=>
   obtain⟨fh,rfl⟩:=hs.inv;exact⟨rfl,by first|rfl|exact nz,_,.b1 fh hi he (.f hi h2) t2,by(try simp only[lC,lA,lB,List.append_nil]);generalize ae m bl _ rest=MM;exact HQ⟩
theorem Ts {i w:Int}:PQ x o q b m bl rest y (.s9 i w):=by
 intro B0 S W R l ro hx hk hy h H;obtain⟨eg,cX,eV,fu,fp,fw,bz,dH,fy,fE,eM,fq,-⟩:=aS hx hk;cases h with
 |@s9 i w p1 a1 b1 L g sv uv vp aw hv t=>
 simp only[lA,lB,lC] at H;have H:=Hs.cx (tgt:=.obj q _::.sl sv 1 _::([.obj p1 (.row [.fn (.func 423) [] [.ptr a1 0,.ptr b1 0]]),.obj a1 (.row [I (x.own+o.c)]),.obj b1 (.row [U 0])]++(ae m bl y rest++((g++(.obj vp (.row [.ptr q 0])::R)))))) HQ H;refine fz (kT:=aG.pick) (y':=y.st (x.own+o.c) 0) (by rw[t.len];exact Nat.le_of_ble_eq_true rfl) (λaT h1 h2 h3 B W S H=>jF h1 h2 h3 hy am (by unfold Me.aC;omega) H) ?_ ?_ H;.rintro b' aT A hv ⟨⟩
 .rintro lM b' aT L' cq i' aQ aR da aP A ga h0 hs ⟨rfl,ho,hE,rfl⟩;obtain⟨rfl,rfl,rfl,rfl,rfl,rfl,rfl,rfl⟩:=hE;cases t with
  |@cons _ _ oq oX g2 L2 h2 t2=>
  obtain⟨fh,rfl⟩:=hs.inv;exact⟨rfl,by first|rfl|exact nz,_,.p2 fh (.f h2) t2,by(try simp only[lC,lA,lB,List.append_nil]);generalize ae m bl _ rest=MM;exact HQ⟩
end
end
section
open aG
section
variable{B0 S:AH}{W:List Nat}{R l:List Own}{ro:List aI}{m bl q:Nat}{y:Me}{rest:List AV}{x:Xc}{o:Od}{b:Int}
theorem Tt {z}{i w e:Int}:PQ x o q b m bl rest y (.b1 i w e z):=by
 intro B0 S W R l ro hx hk hy h H;obtain⟨eg,cX,eV,fu,fp,fw,bz,dH,fy,fE,eM,fq,-⟩:=aS hx hk;cases h with
 |@b1 z i w e cl lo L g sv uv vx aw hv hi he h t=>
 simp only[lA,lB,lC] at H;have H:=Hs.cx (tgt:=.obj q _::.sl sv 1 _::(lo++(ae m bl y rest++(.obj vx (.row [.ptr q 0])::(g++(R)))))) HQ H;refine fz (kT:=if(z.step x.j i w y).1.over then .b2 i w e (.new x.j i o.c) else .b1 i w e (z.step x.j i w y).1) (y':=(z.step x.j i w y).2) (by rw[t.len];exact Nat.le_of_ble_eq_true rfl) (λaT h1 h2 h3 B W S H=>H9 h1 h2 h3 cX hy h H) ?_ ?_ H
 .rintro b' aT A hv ⟨rfl,ho,jx,hP,rfl⟩;generalize hw:(z.step x.j i w y).1=w at*
  rw[if_neg (by rw[ho];simp)];exact⟨rfl,rfl,_,.b1 hv hi he hP t,HQ⟩
 .rintro lM b' aT L' cq i' aQ aR da aP A ga h0 hs ⟨rfl,ho,hE,rfl⟩;generalize hw:(z.step x.j i w y).1=w at*
  rw[if_pos ho];rw[bg.dD hi am];obtain⟨rfl,rfl,rfl,rfl,rfl,rfl,rfl,rfl⟩:=hE;cases t with
  |@cons _ _ oq oX g2 L2 h2 t2=>
  obtain⟨fh,rfl⟩:=hs.inv;exact⟨rfl,by first|rfl|exact nz,_,.b2 fh he (.f hi h2) t2,by(try simp only[lC,lA,lB,List.append_nil]);generalize ae m bl _ rest=MM;exact HQ⟩
theorem Tu {z}{i w e:Int}:PQ x o q b m bl rest y (.b2 i w e z):=by
 intro B0 S W R l ro hx hk hy h H;obtain⟨eg,cX,eV,fu,fp,fw,bz,dH,fy,fE,eM,fq,-⟩:=aS hx hk;cases h with
 |@b2 z i w e cl lo L g sv uv vx aw hv he h t=>
 simp only[lA,lB,lC] at H;have H:=Hs.cx (tgt:=.obj q _::.sl sv 1 _::(lo++(ae m bl y rest++((g++(.obj vx (.row [.ptr q 0])::R)))))) HQ H;refine fz (kT:=if(z.step x.j i 3 4 o.c y).1.over then .b3 i w e else .b2 i w e (z.step x.j i 3 4 o.c y).1) (y':=(z.step x.j i 3 4 o.c y).2) (by rw[t.len];exact Nat.le_of_ble_eq_true rfl) (λaT h1 h2 h3 B W S H=>ma h1 h2 h3 cX am am am hy h H) ?_ ?_ H
 .rintro b' aT A hv ⟨rfl,ho,jx,hP,rfl⟩;generalize hw:(z.step x.j i 3 4 o.c y).1=w at*
  rw[if_neg (by rw[ho];simp)];exact⟨rfl,rfl,_,.b2 hv he hP t,HQ⟩
 .rintro lM b' aT L' cq i' aQ aR da aP A ga h0 hs ⟨rfl,ho,hE,rfl⟩;generalize hw:(z.step x.j i 3 4 o.c y).1=w at*
  rw[if_pos ho];obtain⟨rfl,rfl,rfl,rfl,rfl,rfl,rfl,rfl⟩:=hE;cases t with
  |@cons _ _ oq oX g2 L2 h2 t2=>
  obtain⟨fh,rfl⟩:=hs.inv;obtain⟨p2,a2,rfl,rfl⟩:=h2;exact⟨rfl,by first|rfl|exact nz,_,.b3 fh he t2,by(try simp only[lC,lA,lB,List.append_nil]);generalize ae m bl _ rest=MM;exact HQ⟩
theorem Tv {i w e:Int}:PQ x o q b m bl rest y (.b3 i w e):=by
 intro B0 S W R l ro hx hk hy h H;obtain⟨eg,cX,eV,fu,fp,fw,bz,dH,fy,fE,eM,fq,-⟩:=aS hx hk;cases h with
 |@b3 i w e p1 a1 L g sv uv vx aw hv he t=>
 simp only[lA,lB,lC] at H;have H:=Hs.cx (tgt:=.obj q _::.sl sv 1 _::([.obj p1 (.row [.fn (.func 426) [] [.ptr a1 0,.ptr vx 0]])]++(ae m bl y rest++(.obj vx (.row [.ptr q 0])::.obj a1 (.row [I (x.r.runs+o.c)])::(g++(R)))))) HQ H;refine fz (kT:=.b4 i w e) (y':=y.st (x.r.runs+o.c) w) (by rw[t.len];exact Nat.le_of_ble_eq_true rfl) (λaT h1 h2 h3 B W S H=>KJ h1 h2 h3 hy am H) ?_ ?_ H;.rintro b' aT A hv ⟨⟩
 .rintro lM b' aT L' cq i' aQ aR da aP A ga h0 hs ⟨rfl,ho,hE,rfl⟩;obtain⟨rfl,rfl,rfl,rfl,rfl,rfl,rfl,rfl⟩:=hE;cases t with
  |@cons _ _ oq oX g2 L2 h2 t2=>
  obtain⟨fh,rfl⟩:=hs.inv;obtain⟨p2,a2,b2,rfl,rfl⟩:=h2;exact⟨rfl,by first|rfl|exact nz,_,.b4 fh he t2,by(try simp only[lC,lA,lB,List.append_nil]);generalize ae m bl _ rest=MM;exact HQ⟩
theorem Tx {i w e:Int}:PQ x o q b m bl rest y (.b4 i w e):=by
 intro B0 S W R l ro hx hk hy h H;obtain⟨eg,cX,eV,fu,fp,fw,bz,dH,fy,fE,eM,fq,-⟩:=aS hx hk;cases h with
 |@b4 i w e p1 a1 b1 L g sv uv aw hv he t=>
 simp only[lA,lB,lC] at H;have H:=Hs.cx (tgt:=.obj q _::.sl sv 1 _::([.obj p1 (.row [.fn (.func 423) [] [.ptr a1 0,.ptr b1 0]]),.obj a1 (.row [I (x.r.flags+o.c)]),.obj b1 (.row [U 1])]++(ae m bl y rest++((g++(R)))))) HQ H;refine fz (kT:=.d i w e false) (y':=y.st (x.r.flags+o.c) 1) (by rw[t.len];exact Nat.le_of_ble_eq_true rfl) (λaT h1 h2 h3 B W S H=>jF h1 h2 h3 hy am (by unfold Me.aC;omega) H) ?_ ?_ H;.rintro b' aT A hv ⟨⟩
 .rintro lM b' aT L' cq i' aQ aR da aP A ga h0 hs ⟨rfl,ho,hE,rfl⟩;obtain⟨rfl,rfl,rfl,rfl,rfl,rfl,rfl,rfl⟩:=hE;cases t;exact⟨rfl,by first|rfl|exact nz,_,.d hs (λe _=>absurd e he),by(try simp only[lC,lA,lB,List.append_nil]);generalize ae m bl _ rest=MM;exact HQ⟩
theorem Ty (hx:x.ok) (hk:o.ok x) (hy:y.gd) (h:ft x o q b (.c1) l) (H:Cx B0 W S (l++(ae m bl y rest++R)) ro):
  aN EM (zF 20) [.ptr q 0,.ptr m 0] S λu S'=>∃ab,fb (ft x o q (aG.cR x o (.c1))) aG.over (aG.step x o (.c1) y) (ae m bl · rest) R u ab/\Cx B0 W S' ab ro:=by
 obtain⟨eg,cX,eV,fu,fp,fw,bz,dH,fy,fE,eM,fq,-⟩:=aS hx hk;cases h with
 |@c1 p1 a1 b1 L g sv uv vx i key aw hv t=>
 simp only[lA,lB,lC] at H;have H:=Hs.cx (tgt:=.obj q _::.sl sv 1 _::([.obj p1 (.row [.fn (.func 414) [] [.ptr a1 0,.ptr b1 0]]),.obj a1 (.row [.ptr q 0]),.obj b1 (.row [.fn (.func 303) [] [.ptr vx 0]])]++(ae m bl y rest++(.obj vx (.row [.ptr q 0])::(g++(R)))))) HQ H;refine fz (kT:=if x.rd (y.word (x.own+o.c))<0 then .d 0 0 15 false else .c2 (x.rd (y.word (x.own+o.c))) (.new x.j (x.rd (y.word (x.own+o.c))))) (y':=y.ld (x.own+o.c)) (by rw[t.len];exact Nat.le_of_ble_eq_true rfl) (λaT h1 h2 h3 B W S H=>Im h1 h2 h3 hy ⟨am,am,dH⟩ H) ?_ ?_ H;.rintro b' aT A hv ⟨⟩
 .rintro lM b' aT L' cq i' aQ aR da aP A ga h0 hs ⟨rfl,ho,hE,rfl⟩;rcases hE with⟨hr,hE⟩|⟨hr,hE⟩
  .rw[if_neg am,bF.dD (x.xW hr)];obtain⟨rfl,rfl,rfl,rfl,rfl,rfl,rfl,rfl⟩:=hE;cases t with
   |@cons _ _ oq oX g2 L2 h2 t2=>
   obtain⟨fh,rfl⟩:=hs.inv;exact⟨rfl,by first|rfl|exact nz,_,.c2 fh (x.xW hr) (.f (x.xW hr) h2) t2,by(try simp only[lC,lA,lB,List.append_nil]);generalize ae m bl _ rest=MM;exact HQ⟩
  .rw[if_pos hr];obtain⟨rfl,rfl,rfl,rfl,rfl,rfl,rfl,rfl⟩:=hE;exact⟨rfl,by first|rfl|exact nz,_,.d hs ac,by(try simp only[lC,lA,lB,List.append_nil]);generalize ae m bl _ rest=MM;exact HQ⟩
theorem Tz {z}{i:Int}:PQ x o q b m bl rest y (.c2 i z):=by
 intro B0 S W R l ro hx hk hy h H;obtain⟨eg,cX,eV,fu,fp,fw,bz,dH,fy,fE,eM,fq,-⟩:=aS hx hk;cases h with
 |@c2 z i cl lo L g sv uv vx key aw hv hi h t=>
 simp only[lA,lB,lC] at H;have H:=Hs.cx (tgt:=.obj q _::.sl sv 1 _::(lo++(ae m bl y rest++((g++(.obj vx (.row [.ptr q 0])::R)))))) HQ H;refine fz (kT:=aG.vH x o i (z.stepOf x.j i y).1) (y':=(z.stepOf x.j i y).2) (by rw[t.len];exact Nat.le_of_ble_eq_true rfl) (λaT h1 h2 h3 B W S H=>KG h1 h2 h3 cX hy h H) ?_ ?_ H
 .rintro b' aT A hv ⟨rfl,ho,jx,hP,rfl⟩;generalize hw:(z.stepOf x.j i y).1=w at*
  cases w<;>first|(cases ho;done)|exact⟨rfl,rfl,_,.c2 hv hi hP t,HQ⟩
 .rintro lM b' aT L' cq i' aQ aR da aP A ga h0 hs ⟨rfl,ho,hE,rfl⟩;generalize hw:(z.stepOf x.j i y).1=w at*
  cases w<;>first|(cases ho;done)|skip
  rename_i w' e';have e:vH x o i (.d w' e')=.c3 i w' .l:=by show aG.c3 _ _ _=_;rw[bg.dD hi am]
  rw[e];obtain⟨rfl,rfl,rfl,rfl,rfl,rfl,rfl,rfl⟩:=hE;cases t with
  |@cons _ _ oq oX g2 L2 h2 t2=>
  obtain⟨fh,rfl⟩:=hs.inv;exact⟨rfl,by first|rfl|exact nz,_,.c3 fh hi (.f hi h2) t2,by(try simp only[lC,lA,lB,List.append_nil]);generalize ae m bl _ rest=MM;exact HQ⟩
theorem TA {z}{i w:Int}:PQ x o q b m bl rest y (.c3 i w z):=by
 intro B0 S W R l ro hx hk hy h H;obtain⟨eg,cX,eV,fu,fp,fw,bz,dH,fy,fE,eM,fq,-⟩:=aS hx hk;cases h with
 |@c3 z i w cl lo L g sv uv aw hv hi h t=>
 simp only[lA,lB,lC] at H;have H:=Hs.cx (tgt:=.obj q _::.sl sv 1 _::(lo++(ae m bl y rest++((g++(R)))))) HQ H;refine fz (kT:=if(z.step x.j i 4 5 o.c y).1.over then .c4 i w else .c3 i w (z.step x.j i 4 5 o.c y).1) (y':=(z.step x.j i 4 5 o.c y).2) (by rw[t.len];exact Nat.le_of_ble_eq_true rfl) (λaT h1 h2 h3 B W S H=>ma h1 h2 h3 cX am am am hy h H) ?_ ?_ H
 .rintro b' aT A hv ⟨rfl,ho,jx,hP,rfl⟩;generalize hw:(z.step x.j i 4 5 o.c y).1=w at*
  rw[if_neg (by rw[ho];simp)];exact⟨rfl,rfl,_,.c3 hv hi hP t,HQ⟩
 .rintro lM b' aT L' cq i' aQ aR da aP A ga h0 hs ⟨rfl,ho,hE,rfl⟩;generalize hw:(z.step x.j i 4 5 o.c y).1=w at*
  rw[if_pos ho];obtain⟨rfl,rfl,rfl,rfl,rfl,rfl,rfl,rfl⟩:=hE;cases t with
  |@cons _ _ oq oX g2 L2 h2 t2=>
  obtain⟨fh,rfl⟩:=hs.inv;obtain⟨p2,a2,b2,rfl,rfl⟩:=h2;exact⟨rfl,by first|rfl|exact nz,_,.c4 fh hi t2,by(try simp only[lC,lA,lB,List.append_nil]);generalize ae m bl _ rest=MM;exact HQ⟩
theorem TB {i w:Int}:PQ x o q b m bl rest y (.c4 i w):=by
 intro B0 S W R l ro hx hk hy h H;obtain⟨eg,cX,eV,fu,fp,fw,bz,dH,fy,fE,eM,fq,-⟩:=aS hx hk;cases h with
 |@c4 i w p1 a1 b1 L g sv uv aw hv hi t=>
 simp only[lA,lB,lC] at H;have H:=Hs.cx (tgt:=.obj q _::.sl sv 1 _::([.obj p1 (.row [.fn (.func 423) [] [.ptr a1 0,.ptr b1 0]]),.obj a1 (.row [I (x.own+o.c)]),.obj b1 (.row [U 0])]++(ae m bl y rest++((g++(R)))))) HQ H;refine fz (kT:=.c5 i w) (y':=y.st (x.own+o.c) 0) (by rw[t.len];exact Nat.le_of_ble_eq_true rfl) (λaT h1 h2 h3 B W S H=>jF h1 h2 h3 hy am (by unfold Me.aC;omega) H) ?_ ?_ H;.rintro b' aT A hv ⟨⟩
 .rintro lM b' aT L' cq i' aQ aR da aP A ga h0 hs ⟨rfl,ho,hE,rfl⟩;obtain⟨rfl,rfl,rfl,rfl,rfl,rfl,rfl,rfl⟩:=hE;cases t with
  |@cons _ _ oq oX g2 L2 h2 t2=>
  obtain⟨fh,rfl⟩:=hs.inv;obtain⟨p2,a2,b2,rfl,rfl⟩:=h2;exact⟨rfl,by first|rfl|exact nz,_,.c5 fh hi t2,by(try simp only[lC,lA,lB,List.append_nil]);generalize ae m bl _ rest=MM;exact HQ⟩
theorem TC {i w:Int}:PQ x o q b m bl rest y (.c5 i w):=by
 intro B0 S W R l ro hx hk hy h H;obtain⟨eg,cX,eV,fu,fp,fw,bz,dH,fy,fE,eM,fq,-⟩:=aS hx hk;cases h with
 |@c5 i w p1 a1 b1 L g sv uv aw hv hi t=>
 simp only[lA,lB,lC] at H;have H:=Hs.cx (tgt:=.obj q _::.sl sv 1 _::([.obj p1 (.row [.fn (.func 423) [] [.ptr a1 0,.ptr b1 0]]),.obj a1 (.row [I (x.r.runs+o.c)]),.obj b1 (.row [U 18446744073709551615])]++(ae m bl y rest++((g++(R)))))) HQ H;refine fz (kT:=.c6 i w (.new x.j i)) (y':=y.st (x.r.runs+o.c) 18446744073709551615) (by rw[t.len];exact Nat.le_of_ble_eq_true rfl) (λaT h1 h2 h3 B W S H=>jF h1 h2 h3 hy am (by unfold Me.aC;omega) H) ?_ ?_ H;.rintro b' aT A hv ⟨⟩
 .rintro lM b' aT L' cq i' aQ aR da aP A ga h0 hs ⟨rfl,ho,hE,rfl⟩;rw[cW.dD hi];obtain⟨rfl,rfl,rfl,rfl,rfl,rfl,rfl,rfl⟩:=hE;cases t with
  |@cons _ _ oq oX g2 L2 h2 t2=>
  obtain⟨fh,rfl⟩:=hs.inv;exact⟨rfl,by first|rfl|exact nz,_,.c6 fh (.f hi h2) t2,by(try simp only[lC,lA,lB,List.append_nil]);generalize ae m bl _ rest=MM;exact HQ⟩
theorem TD {z}{i w:Int}:PQ x o q b m bl rest y (.c6 i w z):=by
 intro B0 S W R l ro hx hk hy h H;obtain⟨eg,cX,eV,fu,fp,fw,bz,dH,fy,fE,eM,fq,-⟩:=aS hx hk;cases h with
 |@c6 z i w cl lo L g sv uv aw hv h t=>
 simp only[lA,lB,lC] at H;have H:=Hs.cx (tgt:=.obj q _::.sl sv 1 _::(lo++(ae m bl y rest++((g++(R)))))) HQ H;refine fz (kT:=if(z.step x.j i y).1.over then aG.balance x i w else .c6 i w (z.step x.j i y).1) (y':=(z.step x.j i y).2) (by rw[t.len];exact Nat.le_of_ble_eq_true rfl) (λaT h1 h2 h3 B W S H=>A0 h1 h2 h3 cX hy h H) ?_ ?_ H
 .rintro b' aT A hv ⟨rfl,ho,jx,hP,rfl⟩;generalize hw:(z.step x.j i y).1=w at*
  rw[if_neg (by rw[ho];simp)];exact⟨rfl,rfl,_,.c6 hv hP t,HQ⟩
 .rintro lM b' aT L' cq i' aQ aR da aP A ga h0 hs ⟨rfl,ho,hE,rfl⟩;generalize hw:(z.step x.j i y).1=w at*
  rw[if_pos ho];obtain⟨rfl,rfl,rfl,rfl,rfl,rfl,rfl,rfl⟩:=hE;cases t with
  |@cons _ _ oq oX g2 L2 h2 t2=>
  obtain⟨fh,rfl⟩:=hs.inv;exact⟨rfl,by first|rfl|exact nz,_,.rk fh (.f h2) t2,by(try simp only[lC,lA,lB,List.append_nil]);generalize ae m bl _ rest=MM;exact HQ⟩
end
end
section
variable{B0 S:AH}{W:List Nat}{R l:List Own}{ro:List aI}{m bl q:Nat}{y:Me}{rest:List AV}{x:Xc}{o:Od}{b:Int}
theorem Oh {σ}(hx:x.ok)(hk:o.ok x)(hy:y.gd)(h:ft x o q b σ l)(H:Cx B0 W S (l++(ae m bl y rest++R)) ro):
  aN EM (zF 20) [.ptr q 0,.ptr m 0] S λu S'=>∃ab,fb (ft x o q (if σ.over then b else σ.cR x o)) aG.over (σ.step x o y) (ae m bl · rest) R u ab/\Cx B0 W S' ab ro:=by
 cases σ with
 |d i w e n=>
  cases h with
  |d hs hw=>
   simp only[Xc.row,Xc.cs,Tw.cs,Lb.cs,Ar.cs,Ep.cs,lA,lB,lC] at H;refine Vx.fm H rfl ?_;cases hs with
   |n=>
    refine z1 ?_;exact aa rfl (.d .n hw) rfl HQ
   |s h1 h2 h3=>
    refine z1 ?_;exact aa rfl (.d (.s h1 h2 h3) hw) rfl HQ
 |r1=>exact SR hx hk hy h H
 |r2=>exact SS hx hk hy h H
 |r3=>exact SU hx hk hy h H
 |r4=>exact SV hx hk hy h H
 |r5=>exact SW hx hk hy h H
 |r6=>exact SX hx hk hy h H
 |t1=>exact SY hx hk hy h H
 |t2=>exact SZ hx hk hy h H
 |t3=>exact S_ hx hk hy h H
 |t4=>exact Ta hx hk hy h H
 |t5=>exact Tb hx hk hy h H
 |t6=>exact Tc hx hk hy h H
 |rk=>exact Og hx hk hy h H
 |p1=>exact Td hx hk hy h H
 |p2=>exact Te hx hk hy h H
 |p3=>exact Tf hx hk hy h H
 |p4=>exact Tg hx hk hy h H
 |p5=>exact Th hx hk hy h H
 |s1=>exact Ti hx hk hy h H
 |s2=>exact Tj hx hk hy h H
 |s3=>exact Tl hx hk hy h H
 |s4=>exact Tm hx hk hy h H
 |s5=>exact Tn hx hk hy h H
 |s6=>exact Tp hx hk hy h H
 |s7=>exact Tq hx hk hy h H
 |s8=>exact Tr hx hk hy h H
 |s9=>exact Ts hx hk hy h H
 |b1=>exact Tt hx hk hy h H
 |b2=>exact Tu hx hk hy h H
 |b3=>exact Tv hx hk hy h H
 |b4=>exact Tx hx hk hy h H
 |c1=>exact Ty hx hk hy h H
 |c2=>exact Tz hx hk hy h H
 |c3=>exact TA hx hk hy h H
 |c4=>exact TB hx hk hy h H
 |c5=>exact TC hx hk hy h H
 |c6=>exact TD hx hk hy h H
end
end Go.cG
