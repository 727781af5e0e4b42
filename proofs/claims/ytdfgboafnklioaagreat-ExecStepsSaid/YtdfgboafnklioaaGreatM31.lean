/- Contracts. Conditions: in each theorem. -/
import Derived.Test.YtdfgboafnklioaaGreatM30
set_option linter.all false
set_option maxRecDepth 100000
set_option maxHeartbeats 4000000
namespace Go.cG
open Go.Proofs
section
open aG
section
variable{B0 S:AH}{W:List Nat}{R l:List Own}{ro:List aI}{m bl q:Nat}{y:Me}{rest:List AV}{x:Xc}{o:Od}{b:Int}
theorem SY {z}:PQ x o q b m bl rest y (.t1 z):=by
 intro B0 S W R l ro hx hk hy h H;obtain⟨eg,cX,eV,fu,fp,fw,bz,dH,fy,fE,eM,fq,-⟩:=aS hx hk;cases h with
 |@t1 z cl lo L g sv uv UL gu vx vb i key aw hv h tu t=>
 simp only[lA,lB,lC] at H;have H:=Hs.cx (tgt:=.obj q _::.sl sv 1 _::(lo++(ae m bl y rest++((g++(gu++(.sl uv 1 UL::.obj vx (.row [.ptr q 0])::.obj vb (.row [I (x.ring o.c).head,I (x.ring o.c).tail,I (x.ring o.c).fg,I (x.ring o.c).size])::R))))))) HQ H;refine fz (kT:=aG.nZ x o (z.step (x.ring o.c) y).1) (y':=(z.step (x.ring o.c) y).2) (by rw[t.len];exact Nat.le_of_ble_eq_true rfl) (λaT h1 h2 h3 B W S H=>E3 h1 h2 h3 eM hy h H) ?_ ?_ H
 .rintro b' aT A hv ⟨rfl,ho,jx,hP,rfl⟩;generalize hw:(z.step (x.ring o.c) y).1=w at*
  cases w<;>first|(cases ho;done)|exact⟨rfl,rfl,_,.t1 hv hP tu t,HQ⟩
 .rintro lM b' aT L' cq i' aQ aR da aP A ga h0 hs ⟨rfl,ho,hE,rfl⟩;generalize hw:(z.step (x.ring o.c) y).1=w at*
  cases w<;>first|(cases ho;done)|skip
  have hb:=mL.bd hy h hw;rename_i h' v' e';rcases hE with⟨rfl,de,hE⟩|⟨rfl,Jr,hE⟩|⟨he,hE⟩
  .obtain⟨yq,wQ⟩:=hb rfl;have e:nZ x o (.d h' v' 0)=.t2 v' h' .a:=by show(if(0:Int)=0 then(if x.j.f.size<=v' then aG.d 0 0 5 false else .t2 v' h' (.new x.j v')) else aG.d 0 0 15 false)=_;rw[if_pos rfl,if_neg am,bF.dD ⟨yq.1,de⟩]
   rw[e];obtain⟨rfl,rfl,rfl,rfl,rfl,rfl,rfl,rfl⟩:=hE;cases t with
   |@cons _ _ oq oX g2 L2 h2 t2=>
   obtain⟨fh,rfl⟩:=hs.inv;exact⟨rfl,by first|rfl|exact nz,_,.t2 fh wQ ⟨yq.1,de⟩ (.f ⟨yq.1,de⟩ h2) tu t2,by(try simp only[lC,lA,lB,List.append_nil]);generalize ae m bl _ rest=MM;exact HQ⟩
  .have e:nZ x o (.d h' v' 0)=.d 0 0 5 false:=by show(if(0:Int)=0 then(if x.j.f.size<=v' then aG.d 0 0 5 false else .t2 v' h' (.new x.j v')) else aG.d 0 0 15 false)=_;rw[if_pos rfl,if_pos Jr]
   rw[e];obtain⟨rfl,rfl,rfl,rfl,rfl,rfl,rfl,rfl⟩:=hE;exact⟨rfl,by first|rfl|exact nz,_,.d hs ac,by(try simp only[lC,lA,lB,List.append_nil]);generalize ae m bl _ rest=MM;exact HQ⟩
  .have e:nZ x o (.d h' v' e')=.d 0 0 15 false:=if_neg he;rw[e];obtain⟨rfl,rfl,rfl,rfl,rfl,rfl,rfl,rfl⟩:=hE;exact⟨rfl,by first|rfl|exact nz,_,.d hs ac,by(try simp only[lC,lA,lB,List.append_nil]);generalize ae m bl _ rest=MM;exact HQ⟩
theorem SZ {z}{i hd:Int}:PQ x o q b m bl rest y (.t2 i hd z):=by
 intro B0 S W R l ro hx hk hy h H;obtain⟨eg,cX,eV,fu,fp,fw,bz,dH,fy,fE,eM,fq,-⟩:=aS hx hk;cases h with
 |@t2 z i hd cl lo L g sv uv UL gu vx vb key hv hh hi h tu t=>
 simp only[lA,lB,lC] at H;have H:=Hs.cx (tgt:=.obj q _::.sl sv 1 _::(lo++(ae m bl y rest++(.obj vx (.row [.ptr q 0])::(g++(gu++(.sl uv 1 UL::.obj vb (.row [I (x.ring o.c).head,I (x.ring o.c).tail,I (x.ring o.c).fg,I (x.ring o.c).size])::R))))))) HQ H;refine fz (kT:=aG.rl x o i hd (z.stepOf x.j i y).1) (y':=(z.stepOf x.j i y).2) (by rw[t.len];exact Nat.le_of_ble_eq_true rfl) (λaT h1 h2 h3 B W S H=>Ie h1 h2 h3 cX hy h H) ?_ ?_ H
 .rintro b' aT A hv ⟨rfl,ho,jx,hP,rfl⟩;generalize hw:(z.stepOf x.j i y).1=w at*
  cases w<;>first|(cases ho;done)|exact⟨rfl,rfl,_,.t2 hv hh hi hP tu t,HQ⟩
 .rintro lM b' aT L' cq i' aQ aR da aP A ga h0 hs ⟨rfl,ho,hE,rfl⟩;generalize hw:(z.stepOf x.j i y).1=w at*
  cases w<;>first|(cases ho;done)|skip
  have hb:=rB.bd hy h hw;rename_i w' e';rcases hE with⟨yq,hE⟩|⟨yq,hE⟩
  .have e:rl x o i hd (.d w' e')=.t3 i hd w' .l:=(if_neg yq).trans (by rw[bg.dD hi am]);rw[e];obtain⟨rfl,rfl,rfl,rfl,rfl,rfl,rfl,rfl⟩:=hE;cases t with
   |@cons _ _ oq oX g2 L2 h2 t2=>
   obtain⟨fh,rfl⟩:=hs.inv;exact⟨rfl,by first|rfl|exact nz,_,.t3 fh hh hi ⟨hb,yq⟩ (.f hi h2) tu t2,by(try simp only[lC,lA,lB,List.append_nil]);generalize ae m bl _ rest=MM;exact HQ⟩
  .have e:rl x o i hd (.d w' e')=.d 0 0 5 false:=if_pos yq;rw[e];obtain⟨rfl,rfl,rfl,rfl,rfl,rfl,rfl,rfl⟩:=hE;exact⟨rfl,by first|rfl|exact nz,_,.d hs ac,by(try simp only[lC,lA,lB,List.append_nil]);generalize ae m bl _ rest=MM;exact HQ⟩
theorem S_ {z}{i hd w:Int}:PQ x o q b m bl rest y (.t3 i hd w z):=by
 intro B0 S W R l ro hx hk hy h H;obtain⟨eg,cX,eV,fu,fp,fw,bz,dH,fy,fE,eM,fq,-⟩:=aS hx hk;cases h with
 |@t3 z i hd w cl lo L g sv uv UL gu vx vb hv hh hi dL h tu t=>
 simp only[lA,lB,lC] at H;have H:=Hs.cx (tgt:=.obj q _::.sl sv 1 _::(lo++(ae m bl y rest++((g++(gu++(.sl uv 1 UL::.obj vx (.row [.ptr q 0])::.obj vb (.row [I (x.ring o.c).head,I (x.ring o.c).tail,I (x.ring o.c).fg,I (x.ring o.c).size])::R))))))) HQ H;refine fz (kT:=if(z.step x.j i 2 3 o.c y).1.over then .t4 i hd w (.p .a 0) else .t3 i hd w (z.step x.j i 2 3 o.c y).1) (y':=(z.step x.j i 2 3 o.c y).2) (by rw[t.len];exact Nat.le_of_ble_eq_true rfl) (λaT h1 h2 h3 B W S H=>ma h1 h2 h3 cX am am am hy h H) ?_ ?_ H
 .rintro b' aT A hv ⟨rfl,ho,jx,hP,rfl⟩;generalize hw:(z.step x.j i 2 3 o.c y).1=w at*
  rw[if_neg (by rw[ho];simp)];exact⟨rfl,rfl,_,.t3 hv hh hi dL hP tu t,HQ⟩
 .rintro lM b' aT L' cq i' aQ aR da aP A ga h0 hs ⟨rfl,ho,hE,rfl⟩;generalize hw:(z.step x.j i 2 3 o.c y).1=w at*
  rw[if_pos ho];obtain⟨rfl,rfl,rfl,rfl,rfl,rfl,rfl,rfl⟩:=hE;cases t with
  |@cons _ _ oq oX g2 L2 h2 t2=>
  obtain⟨fh,rfl⟩:=hs.inv;exact⟨rfl,by first|rfl|exact nz,_,.t4 fh hh hi dL (.f h2) tu t2,by(try simp only[lC,lA,lB,List.append_nil]);generalize ae m bl _ rest=MM;exact HQ⟩
theorem Ta {z}{i hd w:Int}:PQ x o q b m bl rest y (.t4 i hd w z):=by
 intro B0 S W R l ro hx hk hy h H;obtain⟨eg,cX,eV,fu,fp,fw,bz,dH,fy,fE,eM,fq,-⟩:=aS hx hk;cases h with
 |@t4 z i hd w cl lo L g sv uv UL gu vx vb hv hh hi dL h tu t=>
 simp only[lA,lB,lC] at H;have H:=Hs.cx (tgt:=.obj q _::.sl sv 1 _::(lo++(ae m bl y rest++(.sl uv 1 UL::.obj vx (.row [.ptr q 0])::(g++(gu++(.obj vb (.row [I (x.ring o.c).head,I (x.ring o.c).tail,I (x.ring o.c).fg,I (x.ring o.c).size])::R))))))) HQ H;refine fz (kT:=aG.s_ x o i hd w (z.step x.t o.c w i o.high y).1) (y':=(z.step x.t o.c w i o.high y).2) (by rw[t.len];exact Nat.le_of_ble_eq_true rfl) (λaT h1 h2 h3 B W S H=>Ii h1 h2 h3 (by rw[tu.len];exact Nat.le_of_ble_eq_true rfl) eg am (by have:=dL.1;have:=dL.2;unfold Me.aC cb at*;omega) ⟨am,am,am⟩ hy h H) ?_ ?_ H
 .rintro b' aT A hv ⟨rfl,ho,jx,hP,rfl⟩;generalize hw:(z.step x.t o.c w i o.high y).1=w at*
  cases w<;>first|(cases ho;done)|exact⟨rfl,rfl,_,.t4 hv hh hi dL hP tu t,HQ⟩
 .rintro lM b' aT L' cq i' aQ aR da aP A ga h0 hs ⟨rfl,ho,hE,rfl⟩;generalize hw:(z.step x.t o.c w i o.high y).1=w at*
  cases w<;>first|(cases ho;done)|skip
  rcases hE with⟨rfl,hE⟩|⟨he,hE⟩
  .obtain⟨rfl,rfl,rfl,rfl,rfl,rfl,rfl,rfl⟩:=hE;cases t with
   |@cons _ _ oq oX g2 L2 h2 t2=>
   obtain⟨fh,rfl⟩:=hs.inv;exact⟨rfl,by first|rfl|exact nz,_,.t6 fh (.f ⟨eM,hh⟩ h2) t2,by(try simp only[lC,lA,lB,List.append_nil]);generalize ae m bl _ rest=MM;exact HQ⟩
  .obtain⟨rfl,rfl,rfl,rfl,rfl,rfl,rfl⟩:=hE;have e:∀i hd w:Int,0<=i/\i<x.j.f.size->s_ x o i hd w (.d _)=.t5 i w _ .l:=λi hd w hi=>(if_neg he).trans (by rw[bg.dD hi am]);rw[e _ _ _ hi];cases tu with
   |@cons _ _ oq oX g2 L2 h2 t2=>
   obtain⟨fh,rfl⟩:=hs.inv;exact⟨rfl,by first|rfl|exact nz,_,.t5 fh he (.f hi h2) t2,by(try simp only[lC,lA,lB,List.append_nil]);generalize ae m bl _ rest=MM;exact HQ⟩
theorem Tb {z}{i w e:Int}:PQ x o q b m bl rest y (.t5 i w e z):=by
 intro B0 S W R l ro hx hk hy h H;obtain⟨eg,cX,eV,fu,fp,fw,bz,dH,fy,fE,eM,fq,-⟩:=aS hx hk;cases h with
 |@t5 z i w e cl lo L g sv uv key aw hv he h t=>
 simp only[lA,lB,lC] at H;have H:=Hs.cx (tgt:=.obj q _::.sl sv 1 _::(lo++(ae m bl y rest++((g++(R)))))) HQ H;refine fz (kT:=if(z.step x.j i 3 2 o.c y).1.over then .d i w e false else .t5 i w e (z.step x.j i 3 2 o.c y).1) (y':=(z.step x.j i 3 2 o.c y).2) (by rw[t.len];exact Nat.le_of_ble_eq_true rfl) (λaT h1 h2 h3 B W S H=>ma h1 h2 h3 cX am am am hy h H) ?_ ?_ H
 .rintro b' aT A hv ⟨rfl,ho,jx,hP,rfl⟩;generalize hw:(z.step x.j i 3 2 o.c y).1=w at*
  rw[if_neg (by rw[ho];simp)];exact⟨rfl,rfl,_,.t5 hv he hP t,HQ⟩
 .rintro lM b' aT L' cq i' aQ aR da aP A ga h0 hs ⟨rfl,ho,hE,rfl⟩;generalize hw:(z.step x.j i 3 2 o.c y).1=w at*
  rw[if_pos ho];obtain⟨rfl,rfl,rfl,rfl,rfl,rfl,rfl,rfl⟩:=hE;cases t;exact⟨rfl,by first|rfl|exact nz,_,.d hs (λe _=>absurd e he),by(try simp only[lC,lA,lB,List.append_nil]);generalize ae m bl _ rest=MM;exact HQ⟩
theorem Tc {z}{i hd w:Int}:PQ x o q b m bl rest y (.t6 i hd w z):=by
 intro B0 S W R l ro hx hk hy h H;obtain⟨eg,cX,eV,fu,fp,fw,bz,dH,fy,fE,eM,fq,-⟩:=aS hx hk;cases h with
 |@t6 z i hd w cl lo L g sv uv vx vb hv h t=>
 simp only[lA,lB,lC] at H;have H:=Hs.cx (tgt:=.obj q _::.sl sv 1 _::(lo++(ae m bl y rest++(.obj vx (.row [.ptr q 0])::.obj vb (.row [I (x.ring o.c).head,I (x.ring o.c).tail,I (x.ring o.c).fg,I (x.ring o.c).size])::(g++(R)))))) HQ H;refine fz (kT:=if(z.step (x.ring o.c) hd y).1.over then aG.balance x i w else .t6 i hd w (z.step (x.ring o.c) hd y).1) (y':=(z.step (x.ring o.c) hd y).2) (by rw[t.len];exact Nat.le_of_ble_eq_true rfl) (λaT h1 h2 h3 B W S H=>E7 h1 h2 h3 eM hy h H) ?_ ?_ H
 .rintro b' aT A hv ⟨rfl,ho,jx,hP,rfl⟩;generalize hw:(z.step (x.ring o.c) hd y).1=w at*
  rw[if_neg (by rw[ho];simp)];exact⟨rfl,rfl,_,.t6 hv hP t,HQ⟩
 .rintro lM b' aT L' cq i' aQ aR da aP A ga h0 hs ⟨rfl,ho,hE,rfl⟩;generalize hw:(z.step (x.ring o.c) hd y).1=w at*
  rw[if_pos ho];obtain⟨rfl,rfl,rfl,rfl,rfl,rfl,rfl,rfl⟩:=hE;cases t with
  |@cons _ _ oq oX g2 L2 h2 t2=>
  obtain⟨fh,rfl⟩:=hs.inv;exact⟨rfl,by first|rfl|exact nz,_,.rk fh (.f h2) t2,by(try simp only[lC,lA,lB,List.append_nil]);generalize ae m bl _ rest=MM;exact HQ⟩
theorem Og {z}{i w:Int}:PQ x o q b m bl rest y (.rk i w z):=by
 intro B0 S W R l ro hx hk hy h H;obtain⟨eg,cX,eV,fu,fp,fw,bz,dH,fy,fE,eM,fq,-⟩:=aS hx hk;cases h with
 |@rk z i w cl lo L g sv uv aw hv h t=>
 simp only[lA,lB,lC] at H;have H:=Hs.cx (tgt:=.obj q _::.sl sv 1 _::(lo++(ae m bl y rest++((g++(R)))))) HQ H;refine fz (kT:=if(z.step x.t x.r o.c y).1.over then .d i w 0 false else .rk i w (z.step x.t x.r o.c y).1) (y':=(z.step x.t x.r o.c y).2) (by rw[t.len];exact Nat.le_of_ble_eq_true rfl) (λaT h1 h2 h3 B W S H=>KE h1 h2 h3 eg eV am hy h H) ?_ ?_ H
 .rintro b' aT A hv ⟨rfl,ho,jx,hP,rfl⟩;generalize hw:(z.step x.t x.r o.c y).1=w at*
  rw[if_neg (by rw[ho];simp)];exact⟨rfl,rfl,_,.rk hv hP t,HQ⟩
 .rintro lM b' aT L' cq i' aQ aR da aP A ga h0 hs ⟨rfl,ho,hE,rfl⟩;generalize hw:(z.step x.t x.r o.c y).1=w at*
  rw[if_pos ho];obtain⟨rfl,rfl,rfl,rfl,rfl,rfl,rfl,rfl⟩:=hE;cases t;exact⟨rfl,by first|rfl|exact nz,_,.d hs (λ_ _=>⟨rfl,rfl⟩),by(try simp only[lC,lA,lB,List.append_nil]);generalize ae m bl _ rest=MM;exact HQ⟩
end
end
section
open aG
section
variable{B0 S:AH}{W:List Nat}{R l:List Own}{ro:List aI}{m bl q:Nat}{y:Me}{rest:List AV}{x:Xc}{o:Od}{b:Int}
theorem Td (hx:x.ok) (hk:o.ok x) (hy:y.gd) (h:ft x o q b (.p1) l) (H:Cx B0 W S (l++(ae m bl y rest++R)) ro):
  aN EM (zF 20) [.ptr q 0,.ptr m 0] S λu S'=>∃ab,fb (ft x o q (aG.cR x o (.p1))) aG.over (aG.step x o (.p1) y) (ae m bl · rest) R u ab/\Cx B0 W S' ab ro:=by
 obtain⟨eg,cX,eV,fu,fp,fw,bz,dH,fy,fE,eM,fq,-⟩:=aS hx hk;cases h with
 |@p1 p1 a1 b1 L g sv uv vx i key aw hv t=>
 simp only[lA,lB,lC] at H;have H:=Hs.cx (tgt:=.obj q _::.sl sv 1 _::([.obj p1 (.row [.fn (.func 414) [] [.ptr a1 0,.ptr b1 0]]),.obj a1 (.row [.ptr q 0]),.obj b1 (.row [.fn (.func 294) [] [.ptr vx 0]])]++(ae m bl y rest++(.obj vx (.row [.ptr q 0])::(g++(R)))))) HQ H;refine fz (kT:=if 0<=x.rd (y.word (x.own+o.c)) then .d 0 0 11 false else aG.pick) (y':=y.ld (x.own+o.c)) (by rw[t.len];exact Nat.le_of_ble_eq_true rfl) (λaT h1 h2 h3 B W S H=>y_ h1 h2 h3 (by rw[t.len];exact Nat.le_of_ble_eq_true rfl) hy ⟨am,am,dH⟩ H) ?_ ?_ H;.rintro b' aT A hv ⟨⟩
 .rintro lM b' aT L' cq i' aQ aR da aP A ga h0 hs ⟨rfl,ho,ex,hE,rfl⟩;rcases hE with⟨hr,rfl,hE⟩|⟨hr,hE⟩
  .rw[if_pos hr];obtain⟨rfl,rfl,rfl,rfl,rfl,rfl,rfl,rfl⟩:=hE;exact⟨rfl,by first|rfl|exact nz,_,.d hs ac,by(try simp only[lC,lA,lB,List.append_nil]);generalize ae m bl _ rest=MM;exact HQ⟩
  .rw[if_neg am];obtain⟨P,hP,hE⟩:=hE;obtain⟨_,rfl,rfl,rfl,rfl,rfl,rfl,rfl⟩:=hE;cases hP with
   |@mk y6 tc y7 y8 td y9 pr po vp hb ht hp=>
   cases t;obtain⟨fh,rfl⟩:=hs.SO;exact⟨rfl,rfl,_,.p2 (L:=_) fh (.f hp) (Cv hb ht),by(try simp only[lC,lA,lB,List.append_nil]);generalize ae m bl _ rest=MM;exact HQ⟩
theorem Te {z}:PQ x o q b m bl rest y (.p2 z):=by
 intro B0 S W R l ro hx hk hy h H;obtain⟨eg,cX,eV,fu,fp,fw,bz,dH,fy,fE,eM,fq,-⟩:=aS hx hk;cases h with
 |@p2 z cl lo L g sv uv vp i key aw hv h t=>
 simp only[lA,lB,lC] at H;have H:=Hs.cx (tgt:=.obj q _::.sl sv 1 _::(lo++(ae m bl y rest++(.obj vp (.row [.ptr q 0])::(g++(R)))))) HQ H;refine fz (kT:=aG.kQ x o (z.step x.t o.c false y).1) (y':=(z.step x.t o.c false y).2) (by rw[t.len];exact Nat.le_of_ble_eq_true rfl) (λaT h1 h2 h3 B W S H=>Ik h1 h2 h3 eg am hy h H) ?_ ?_ H
 .rintro b' aT A hv ⟨rfl,ho,jx,hP,rfl⟩;generalize hw:(z.step x.t o.c false y).1=w at*
  cases w<;>first|(cases ho;done)|exact⟨rfl,rfl,_,.p2 hv hP t,HQ⟩
 .rintro lM b' aT L' cq i' aQ aR da aP A ga h0 hs ⟨rfl,ho,hE,rfl⟩;generalize hw:(z.step x.t o.c false y).1=w at*
  cases w<;>first|(cases ho;done)|skip
  rename_i k' j' e';rcases hE with⟨rfl,Jv,wC,hE⟩|⟨rfl,hj,hE⟩|⟨he,VJ,hE⟩|⟨he,VJ,hE⟩
  .have e:kQ x o (.d k' j' 0)=.p3 j' k' .l:=by show(if(0:Int)=0 then(if j'<0\/x.j.f.size<=j' then aG.d 0 0 5 false else .p3 j' k' (.new x.j j' o.c)) else if o.k=4 then aG.d 0 0 0 true else .d 0 0 15 false)=_;rw[if_pos rfl,if_neg am,bg.dD ⟨Jv,wC⟩ am]
   rw[e];obtain⟨rfl,rfl,rfl,rfl,rfl,rfl,rfl,rfl⟩:=hE;cases t with
   |@cons _ _ oq oX g2 L2 h2 t2=>
   obtain⟨fh,rfl⟩:=hs.inv;exact⟨rfl,by first|rfl|exact nz,_,.p3 fh ⟨Jv,wC⟩ (.f ⟨Jv,wC⟩ h2) t2,by(try simp only[lC,lA,lB,List.append_nil]);generalize ae m bl _ rest=MM;exact HQ⟩
  .have e:kQ x o (.d k' j' 0)=.d 0 0 5 false:=by show(if(0:Int)=0 then(if j'<0\/x.j.f.size<=j' then aG.d 0 0 5 false else .p3 j' k' (.new x.j j' o.c)) else if o.k=4 then aG.d 0 0 0 true else .d 0 0 15 false)=_;rw[if_pos rfl,if_pos hj]
   rw[e];obtain⟨rfl,rfl,rfl,rfl,rfl,rfl,rfl,rfl⟩:=hE;exact⟨rfl,by first|rfl|exact nz,_,.d hs ac,by(try simp only[lC,lA,lB,List.append_nil]);generalize ae m bl _ rest=MM;exact HQ⟩
  .have e:kQ x o (.d k' j' e')=.d 0 0 0 true:=(if_neg he).trans (if_pos VJ);rw[e];obtain⟨rfl,rfl,rfl,rfl,rfl,rfl,rfl,rfl⟩:=hE;exact⟨rfl,by first|rfl|exact nz,_,.d hs ac,by(try simp only[lC,lA,lB,List.append_nil]);generalize ae m bl _ rest=MM;exact HQ⟩
  .have e:kQ x o (.d k' j' e')=.d 0 0 15 false:=(if_neg he).trans (if_neg VJ);rw[e];obtain⟨rfl,rfl,rfl,rfl,rfl,rfl,rfl,rfl⟩:=hE;exact⟨rfl,by first|rfl|exact nz,_,.d hs ac,by(try simp only[lC,lA,lB,List.append_nil]);generalize ae m bl _ rest=MM;exact HQ⟩
theorem Tf {z}{i w:Int}:PQ x o q b m bl rest y (.p3 i w z):=by
 intro B0 S W R l ro hx hk hy h H;obtain⟨eg,cX,eV,fu,fp,fw,bz,dH,fy,fE,eM,fq,-⟩:=aS hx hk;cases h with
 |@p3 z i w cl lo L g sv uv vp aw hv hi h t=>
 simp only[lA,lB,lC] at H;have H:=Hs.cx (tgt:=.obj q _::.sl sv 1 _::(lo++(ae m bl y rest++((g++(.obj vp (.row [.ptr q 0])::R)))))) HQ H;refine fz (kT:=if(z.step x.j i 3 4 o.c y).1.over then .p4 i w else .p3 i w (z.step x.j i 3 4 o.c y).1) (y':=(z.step x.j i 3 4 o.c y).2) (by rw[t.len];exact Nat.le_of_ble_eq_true rfl) (λaT h1 h2 h3 B W S H=>ma h1 h2 h3 cX am am am hy h H) ?_ ?_ H
 .rintro b' aT A hv ⟨rfl,ho,jx,hP,rfl⟩;generalize hw:(z.step x.j i 3 4 o.c y).1=w at*
  rw[if_neg (by rw[ho];simp)];exact⟨rfl,rfl,_,.p3 hv hi hP t,HQ⟩
 .rintro lM b' aT L' cq i' aQ aR da aP A ga h0 hs ⟨rfl,ho,hE,rfl⟩;generalize hw:(z.step x.j i 3 4 o.c y).1=w at*
  rw[if_pos ho];obtain⟨rfl,rfl,rfl,rfl,rfl,rfl,rfl,rfl⟩:=hE;cases t with
  |@cons _ _ oq oX g2 L2 h2 t2=>
  obtain⟨fh,rfl⟩:=hs.inv;obtain⟨p2,rfl,rfl⟩:=h2;exact⟨rfl,by first|rfl|exact nz,_,.p4 fh hi t2,by(try simp only[lC,lA,lB,List.append_nil]);generalize ae m bl _ rest=MM;exact HQ⟩
theorem Tg {i w:Int}:PQ x o q b m bl rest y (.p4 i w):=by
 intro B0 S W R l ro hx hk hy h H;obtain⟨eg,cX,eV,fu,fp,fw,bz,dH,fy,fE,eM,fq,-⟩:=aS hx hk;cases h with
 |@p4 i w p1 L g sv uv vp aw hv hi t=>
 simp only[lA,lB,lC] at H;have H:=Hs.cx (tgt:=.obj q _::.sl sv 1 _::([.obj p1 (.row [.fn (.func 420) [] [.ptr vp 0]])]++(ae m bl y rest++(.obj vp (.row [.ptr q 0])::(g++(R)))))) HQ H;refine fz (kT:=.p5 i w) (y':=y.st (x.own+o.c) (i+1)) (by rw[t.len];exact Nat.le_of_ble_eq_true rfl) (λaT h1 h2 h3 B W S H=>KH h1 h2 h3 hy am H ⟨am,am⟩) ?_ ?_ H;.rintro b' aT A hv ⟨⟩
 .rintro lM b' aT L' cq i' aQ aR da aP A ga h0 hs ⟨rfl,ho,hE,rfl⟩;obtain⟨rfl,rfl,rfl,rfl,rfl,rfl,rfl,rfl⟩:=hE;cases t with
  |@cons _ _ oq oX g2 L2 h2 t2=>
  obtain⟨fh,rfl⟩:=hs.inv;obtain⟨p2,rfl,rfl⟩:=h2;exact⟨rfl,by first|rfl|exact nz,_,.p5 fh t2,by(try simp only[lC,lA,lB,List.append_nil]);generalize ae m bl _ rest=MM;exact HQ⟩
theorem Th {i w:Int}:PQ x o q b m bl rest y (.p5 i w):=by
 intro B0 S W R l ro hx hk hy h H;obtain⟨eg,cX,eV,fu,fp,fw,bz,dH,fy,fE,eM,fq,-⟩:=aS hx hk;cases h with
 |@p5 i w p1 L g sv uv vp aw hv t=>
 simp only[lA,lB,lC] at H;have H:=Hs.cx (tgt:=.obj q _::.sl sv 1 _::([.obj p1 (.row [.fn (.func 421) [] [.ptr vp 0]])]++(ae m bl y rest++(.obj vp (.row [.ptr q 0])::(g++(R)))))) HQ H;refine fz (kT:=aG.balance x i w) (y':=y.st (x.r.runs+o.c) w) (by rw[t.len];exact Nat.le_of_ble_eq_true rfl) (λaT h1 h2 h3 B W S H=>KI h1 h2 h3 hy ⟨am,am⟩ H) ?_ ?_ H;.rintro b' aT A hv ⟨⟩
 .rintro lM b' aT L' cq i' aQ aR da aP A ga h0 hs ⟨rfl,ho,hE,rfl⟩;obtain⟨rfl,rfl,rfl,rfl,rfl,rfl,rfl,rfl⟩:=hE;cases t with
  |@cons _ _ oq oX g2 L2 h2 t2=>
  obtain⟨fh,rfl⟩:=hs.inv;exact⟨rfl,by first|rfl|exact nz,_,.rk fh (.f h2) t2,by(try simp only[lC,lA,lB,List.append_nil]);generalize ae m bl _ rest=MM;exact HQ⟩
theorem Ti (hx:x.ok) (hk:o.ok x) (hy:y.gd) (h:ft x o q b (.s1) l) (H:Cx B0 W S (l++(ae m bl y rest++R)) ro):
  aN EM (zF 20) [.ptr q 0,.ptr m 0] S λu S'=>∃ab,fb (ft x o q (aG.cR x o (.s1))) aG.over (aG.step x o (.s1) y) (ae m bl · rest) R u ab/\Cx B0 W S' ab ro:=by
 obtain⟨eg,cX,eV,fu,fp,fw,bz,dH,fy,fE,eM,fq,-⟩:=aS hx hk;cases h with
 |@s1 p1 L g sv uv vx vh vf i key aw hv t=>
 simp only[lA,lB,lC] at H;have H:=Hs.cx (tgt:=.obj q _::.sl sv 1 _::([.obj p1 (.row [.fn (.func 297) [] [.ptr vf 0,.ptr vx 0]])]++(ae m bl y rest++(.obj vx (.row [.ptr q 0])::.obj vf (.row [I (x.r.flags+o.c)])::(g++(.obj vh (.row [I o.high])::R)))))) HQ H;refine fz (kT:=if y.word (x.r.flags+o.c)=0 then .d 0 0 15 false else .s2) (y':=y.ld (x.r.flags+o.c)) (by rw[t.len];exact Nat.le_of_ble_eq_true rfl) (λaT h1 h2 h3 B W S H=>Il h1 h2 h3 hy am H) ?_ ?_ H;.rintro b' aT A hv ⟨⟩
 .rintro lM b' aT L' cq i' aQ aR da aP A ga h0 hs ⟨rfl,ho,hE,rfl⟩;rcases hE with⟨hr,hE⟩|⟨hr,hE⟩
  .rw[if_neg hr];obtain⟨rfl,rfl,rfl,rfl,rfl,rfl,rfl,rfl⟩:=hE;cases t with
   |@cons _ _ oq oX g2 L2 h2 t2=>
   obtain⟨fh,rfl⟩:=hs.inv;obtain⟨p2,a2,b2,rfl,rfl⟩:=h2;exact⟨rfl,by first|rfl|exact nz,_,.s2 fh t2,by(try simp only[lC,lA,lB,List.append_nil]);generalize ae m bl _ rest=MM;exact HQ⟩
  .rw[if_pos hr];obtain⟨rfl,rfl,rfl,rfl,rfl,rfl,rfl,rfl⟩:=hE;exact⟨rfl,by first|rfl|exact nz,_,.d hs ac,by(try simp only[lC,lA,lB,List.append_nil]);generalize ae m bl _ rest=MM;exact HQ⟩
theorem Tj (hx:x.ok) (hk:o.ok x) (hy:y.gd) (h:ft x o q b (.s2) l) (H:Cx B0 W S (l++(ae m bl y rest++R)) ro):
  aN EM (zF 20) [.ptr q 0,.ptr m 0] S λu S'=>∃ab,fb (ft x o q (aG.cR x o (.s2))) aG.over (aG.step x o (.s2) y) (ae m bl · rest) R u ab/\Cx B0 W S' ab ro:=by
 obtain⟨eg,cX,eV,fu,fp,fw,bz,dH,fy,fE,eM,fq,-⟩:=aS hx hk;cases h with
 |@s2 p1 a1 b1 L g sv uv vx vh i key aw hv t=>
 simp only[lA,lB,lC] at H;have H:=Hs.cx (tgt:=.obj q _::.sl sv 1 _::([.obj p1 (.row [.fn (.func 423) [] [.ptr a1 0,.ptr b1 0]]),.obj a1 (.row [I (x.r.flags+o.c)]),.obj b1 (.row [U 0])]++(ae m bl y rest++((g++(.obj vx (.row [.ptr q 0])::.obj vh (.row [I o.high])::R)))))) HQ H;refine fz (kT:=.s3) (y':=y.st (x.r.flags+o.c) 0) (by rw[t.len];exact Nat.le_of_ble_eq_true rfl) (λaT h1 h2 h3 B W S H=>jF h1 h2 h3 hy am (by unfold Me.aC;omega) H) ?_ ?_ H;.rintro b' aT A hv ⟨⟩
 .rintro lM b' aT L' cq i' aQ aR da aP A ga h0 hs ⟨rfl,ho,hE,rfl⟩;obtain⟨rfl,rfl,rfl,rfl,rfl,rfl,rfl,rfl⟩:=hE;cases t with
  |@cons _ _ oq oX g2 L2 h2 t2=>
  obtain⟨fh,rfl⟩:=hs.inv;obtain⟨p2,a2,b2,rfl,rfl⟩:=h2;exact⟨rfl,by first|rfl|exact nz,_,.s3 fh t2,by(try simp only[lC,lA,lB,List.append_nil]);generalize ae m bl _ rest=MM;exact HQ⟩
theorem Tl (hx:x.ok) (hk:o.ok x) (hy:y.gd) (h:ft x o q b (.s3) l) (H:Cx B0 W S (l++(ae m bl y rest++R)) ro):
  aN EM (zF 20) [.ptr q 0,.ptr m 0] S λu S'=>∃ab,fb (ft x o q (aG.cR x o (.s3))) aG.over (aG.step x o (.s3) y) (ae m bl · rest) R u ab/\Cx B0 W S' ab ro:=by
 obtain⟨eg,cX,eV,fu,fp,fw,bz,dH,fy,fE,eM,fq,-⟩:=aS hx hk;cases h with
 |@s3 p1 a1 b1 L g sv uv vx vh i key aw hv t=>
 simp only[lA,lB,lC] at H;have H:=Hs.cx (tgt:=.obj q _::.sl sv 1 _::([.obj p1 (.row [.fn (.func 414) [] [.ptr a1 0,.ptr b1 0]]),.obj a1 (.row [.ptr q 0]),.obj b1 (.row [.fn (.func 300) [] [.ptr vx 0,.ptr vh 0]])]++(ae m bl y rest++(.obj vx (.row [.ptr q 0])::.obj vh (.row [I o.high])::(g++(R)))))) HQ H;refine fz (kT:=if x.rd (y.word (x.own+o.c))<0 then aG.pick else .s4 (x.rd (y.word (x.own+o.c))) (.new x.j (x.rd (y.word (x.own+o.c))))) (y':=y.ld (x.own+o.c)) (by rw[t.len];exact Nat.le_of_ble_eq_true rfl) (λaT h1 h2 h3 B W S H=>xd h1 h2 h3 (by rw[t.len];exact Nat.le_of_ble_eq_true rfl) hy ⟨am,am,dH⟩ ⟨am,am⟩ H) ?_ ?_ H;.rintro b' aT A hv ⟨⟩
 .rintro lM b' aT L' cq i' aQ aR da aP A ga h0 hs ⟨rfl,ho,ex,hE,rfl⟩;rcases hE with⟨hr,hE⟩|⟨hr,hu,P,Y,U',e1,e2,hP,hY,rfl,hE⟩
  .rw[if_pos hr];obtain⟨P,hP,hE⟩:=hE;obtain⟨_,rfl,rfl,rfl,rfl,rfl,rfl,rfl⟩:=hE;cases hP with
   |@mk y6 tc y7 y8 td y9 pr po vp hb ht hp=>
   cases t;obtain⟨fh,rfl⟩:=hs.SO;exact⟨rfl,rfl,_,.p2 (L:=_) fh (.f hp) (Cv hb ht),by(try simp only[lC,lA,lB,List.append_nil]);generalize ae m bl _ rest=MM;exact HQ⟩
  .obtain⟨_,rfl,_,rfl,rfl,rfl,rfl,rfl⟩:=hE;rw[if_neg am,bF.dD (x.xW hr)];cases hP with
   |@mk y6 tc y7 y8 td y9 pr po vp hb ht hp=>
   cases hY with
   |@mk abq Oa abr Ob abt abu abv Oc abw Oe abx aby s1 a1 w1 s2 a2 w2 u1 ua uw u2 vr vy ha' LP BI Sf hu' LQ=>
   cases t;obtain⟨fh,rfl⟩:=hs.SP;exact⟨rfl,rfl,_,.s4 (L:=_) fh (x.xW hr) (.f (x.xW hr) ha') (Of hu' LQ) (N_ LP BI Sf hp hb ht),by(try simp only[lC,lA,lB,List.append_nil]);generalize ae m bl _ rest=MM;exact HQ⟩
end
end
end Go.cG
