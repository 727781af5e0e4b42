/- Contracts. Conditions: in each theorem. -/
import Derived.Test.YtdfgboafnklioaaGreatM30
set_option linter.all false
set_option maxRecDepth 100000
set_option maxHeartbeats 4000000
namespace Go.cO
open Go.Proofs
section
open an
section
variable{B0 S:AH}{W:List Nat}{R l:List Own}{ro:List aB}{m bl q:Nat}{y:Me}{rest:List AV}{x:Xc}{o:Od}{b:Int}
theorem SH {z}:PQ x o q b m bl rest y (.t1 z):=by
 intro B0 S W R l ro hx hk hy h H;obtain⟨dT,cY,eO,fi,ff,fj,bz,dC,fk,fA,eR,fg,-⟩:=aO hx hk;cases h with
 |@t1 z cl lo L g sv uv UL gu vx vb i key au hv h tu t=>
 simp only[lA,lB,lC] at H;have H:=Hs.cx (tgt:=.obj q _::.sl sv 1 _::(lo++(ad m bl y rest++((g++(gu++(.sl uv 1 UL::.obj vx (.row [.ptr q 0])::.obj vb (.row [I (x.ring o.c).head,I (x.ring o.c).tail,I (x.ring o.c).eY,I (x.ring o.c).size])::R))))))) HQ H;refine fl (kN:=an.lX x o (z.step (x.ring o.c) y).1) (y':=(z.step (x.ring o.c) y).2) (by rw[t.len];exact Nat.le_of_ble_eq_true rfl) (λaP h1 h2 h3 B W S H=>Ew h1 h2 h3 eR hy h H) ?_ ?_ H
 .rintro b' aP A hv ⟨rfl,ho,ki,hP,rfl⟩;generalize hw:(z.step (x.ring o.c) y).1=w at*
  cases w<;>first|(cases ho;done)|exact⟨rfl,rfl,_,.t1 hv hP tu t,HQ⟩
 .rintro lF b' aP L' cq i' aM aN c_ aL A fW h0 hs ⟨rfl,ho,hE,rfl⟩;generalize hw:(z.step (x.ring o.c) y).1=w at*
  cases w<;>first|(cases ho;done)|skip
  have hb:=mG.bd hy h hw;rename_i h' v' e';rcases hE with⟨rfl,cA,hE⟩|⟨rfl,zw,hE⟩|⟨he,hE⟩
  .obtain⟨wT,tC⟩:=hb rfl;have e:lX x o (.d h' v' 0)=.t2 v' h' .a:=by show(if(0:Int)=0 then(if x.j.f.size<=v' then an.d 0 0 5 false else .t2 v' h' (.new x.j v')) else an.d 0 0 15 false)=_;rw[if_pos rfl,if_neg am,bF.dy ⟨wT.1,cA⟩]
   rw[e];obtain⟨rfl,rfl,rfl,rfl,rfl,rfl,rfl,rfl⟩:=hE;cases t with
   |@cons _ _ nX oL g2 L2 h2 t2=>
   obtain⟨eZ,rfl⟩:=hs.inv;exact⟨rfl,by first|rfl|exact nz,_,.t2 eZ tC ⟨wT.1,cA⟩ (.f ⟨wT.1,cA⟩ h2) tu t2,by(try simp only[lC,lA,lB,List.append_nil]);generalize ad m bl _ rest=MM;exact HQ⟩
  .have e:lX x o (.d h' v' 0)=.d 0 0 5 false:=by show(if(0:Int)=0 then(if x.j.f.size<=v' then an.d 0 0 5 false else .t2 v' h' (.new x.j v')) else an.d 0 0 15 false)=_;rw[if_pos rfl,if_pos zw]
   rw[e];obtain⟨rfl,rfl,rfl,rfl,rfl,rfl,rfl,rfl⟩:=hE;exact⟨rfl,by first|rfl|exact nz,_,.d hs ac,by(try simp only[lC,lA,lB,List.append_nil]);generalize ad m bl _ rest=MM;exact HQ⟩
  .have e:lX x o (.d h' v' e')=.d 0 0 15 false:=if_neg he;rw[e];obtain⟨rfl,rfl,rfl,rfl,rfl,rfl,rfl,rfl⟩:=hE;exact⟨rfl,by first|rfl|exact nz,_,.d hs ac,by(try simp only[lC,lA,lB,List.append_nil]);generalize ad m bl _ rest=MM;exact HQ⟩
theorem SI {z}{i hd:Int}:PQ x o q b m bl rest y (.t2 i hd z):=by
 intro B0 S W R l ro hx hk hy h H;obtain⟨dT,cY,eO,fi,ff,fj,bz,dC,fk,fA,eR,fg,-⟩:=aO hx hk;cases h with
 |@t2 z i hd cl lo L g sv uv UL gu vx vb key hv hh hi h tu t=>
 simp only[lA,lB,lC] at H;have H:=Hs.cx (tgt:=.obj q _::.sl sv 1 _::(lo++(ad m bl y rest++(.obj vx (.row [.ptr q 0])::(g++(gu++(.sl uv 1 UL::.obj vb (.row [I (x.ring o.c).head,I (x.ring o.c).tail,I (x.ring o.c).eY,I (x.ring o.c).size])::R))))))) HQ H;refine fl (kN:=an.nR x o i hd (z.stepOf x.j i y).1) (y':=(z.stepOf x.j i y).2) (by rw[t.len];exact Nat.le_of_ble_eq_true rfl) (λaP h1 h2 h3 B W S H=>HH h1 h2 h3 cY hy h H) ?_ ?_ H
 .rintro b' aP A hv ⟨rfl,ho,ki,hP,rfl⟩;generalize hw:(z.stepOf x.j i y).1=w at*
  cases w<;>first|(cases ho;done)|exact⟨rfl,rfl,_,.t2 hv hh hi hP tu t,HQ⟩
 .rintro lF b' aP L' cq i' aM aN c_ aL A fW h0 hs ⟨rfl,ho,hE,rfl⟩;generalize hw:(z.stepOf x.j i y).1=w at*
  cases w<;>first|(cases ho;done)|skip
  have hb:=q8.bd hy h hw;rename_i w' e';rcases hE with⟨wT,hE⟩|⟨wT,hE⟩
  .have e:nR x o i hd (.d w' e')=.t3 i hd w' .l:=(if_neg wT).trans (by rw[aZ.dy hi am]);rw[e];obtain⟨rfl,rfl,rfl,rfl,rfl,rfl,rfl,rfl⟩:=hE;cases t with
   |@cons _ _ nX oL g2 L2 h2 t2=>
   obtain⟨eZ,rfl⟩:=hs.inv;exact⟨rfl,by first|rfl|exact nz,_,.t3 eZ hh hi ⟨hb,wT⟩ (.f hi h2) tu t2,by(try simp only[lC,lA,lB,List.append_nil]);generalize ad m bl _ rest=MM;exact HQ⟩
  .have e:nR x o i hd (.d w' e')=.d 0 0 5 false:=if_pos wT;rw[e];obtain⟨rfl,rfl,rfl,rfl,rfl,rfl,rfl,rfl⟩:=hE;exact⟨rfl,by first|rfl|exact nz,_,.d hs ac,by(try simp only[lC,lA,lB,List.append_nil]);generalize ad m bl _ rest=MM;exact HQ⟩
theorem SJ {z}{i hd w:Int}:PQ x o q b m bl rest y (.t3 i hd w z):=by
 intro B0 S W R l ro hx hk hy h H;obtain⟨dT,cY,eO,fi,ff,fj,bz,dC,fk,fA,eR,fg,-⟩:=aO hx hk;cases h with
 |@t3 z i hd w cl lo L g sv uv UL gu vx vb hv hh hi dt h tu t=>
 simp only[lA,lB,lC] at H;have H:=Hs.cx (tgt:=.obj q _::.sl sv 1 _::(lo++(ad m bl y rest++((g++(gu++(.sl uv 1 UL::.obj vx (.row [.ptr q 0])::.obj vb (.row [I (x.ring o.c).head,I (x.ring o.c).tail,I (x.ring o.c).eY,I (x.ring o.c).size])::R))))))) HQ H;refine fl (kN:=if(z.step x.j i 2 3 o.c y).1.over then .t4 i hd w (.p .a 0) else .t3 i hd w (z.step x.j i 2 3 o.c y).1) (y':=(z.step x.j i 2 3 o.c y).2) (by rw[t.len];exact Nat.le_of_ble_eq_true rfl) (λaP h1 h2 h3 B W S H=>l7 h1 h2 h3 cY am am am hy h H) ?_ ?_ H
 .rintro b' aP A hv ⟨rfl,ho,ki,hP,rfl⟩;generalize hw:(z.step x.j i 2 3 o.c y).1=w at*
  rw[if_neg (by rw[ho];simp)];exact⟨rfl,rfl,_,.t3 hv hh hi dt hP tu t,HQ⟩
 .rintro lF b' aP L' cq i' aM aN c_ aL A fW h0 hs ⟨rfl,ho,hE,rfl⟩;generalize hw:(z.step x.j i 2 3 o.c y).1=w at*
  rw[if_pos ho];obtain⟨rfl,rfl,rfl,rfl,rfl,rfl,rfl,rfl⟩:=hE;cases t with
  |@cons _ _ nX oL g2 L2 h2 t2=>
  obtain⟨eZ,rfl⟩:=hs.inv;exact⟨rfl,by first|rfl|exact nz,_,.t4 eZ hh hi dt (.f h2) tu t2,by(try simp only[lC,lA,lB,List.append_nil]);generalize ad m bl _ rest=MM;exact HQ⟩
theorem SK {z}{i hd w:Int}:PQ x o q b m bl rest y (.t4 i hd w z):=by
 intro B0 S W R l ro hx hk hy h H;obtain⟨dT,cY,eO,fi,ff,fj,bz,dC,fk,fA,eR,fg,-⟩:=aO hx hk;cases h with
 |@t4 z i hd w cl lo L g sv uv UL gu vx vb hv hh hi dt h tu t=>
 simp only[lA,lB,lC] at H;have H:=Hs.cx (tgt:=.obj q _::.sl sv 1 _::(lo++(ad m bl y rest++(.sl uv 1 UL::.obj vx (.row [.ptr q 0])::(g++(gu++(.obj vb (.row [I (x.ring o.c).head,I (x.ring o.c).tail,I (x.ring o.c).eY,I (x.ring o.c).size])::R))))))) HQ H;refine fl (kN:=an.o4 x o i hd w (z.step x.t o.c w i o.high y).1) (y':=(z.step x.t o.c w i o.high y).2) (by rw[t.len];exact Nat.le_of_ble_eq_true rfl) (λaP h1 h2 h3 B W S H=>HK h1 h2 h3 (by rw[tu.len];exact Nat.le_of_ble_eq_true rfl) dT am (by have:=dt.1;have:=dt.2;unfold Me.ar b_ at*;omega) ⟨am,am,am⟩ hy h H) ?_ ?_ H
 .rintro b' aP A hv ⟨rfl,ho,ki,hP,rfl⟩;generalize hw:(z.step x.t o.c w i o.high y).1=w at*
  cases w<;>first|(cases ho;done)|exact⟨rfl,rfl,_,.t4 hv hh hi dt hP tu t,HQ⟩
 .rintro lF b' aP L' cq i' aM aN c_ aL A fW h0 hs ⟨rfl,ho,hE,rfl⟩;generalize hw:(z.step x.t o.c w i o.high y).1=w at*
  cases w<;>first|(cases ho;done)|skip
  rcases hE with⟨rfl,hE⟩|⟨he,hE⟩
  .obtain⟨rfl,rfl,rfl,rfl,rfl,rfl,rfl,rfl⟩:=hE;cases t with
   |@cons _ _ nX oL g2 L2 h2 t2=>
   obtain⟨eZ,rfl⟩:=hs.inv;exact⟨rfl,by first|rfl|exact nz,_,.t6 eZ (.f ⟨eR,hh⟩ h2) t2,by(try simp only[lC,lA,lB,List.append_nil]);generalize ad m bl _ rest=MM;exact HQ⟩
  .obtain⟨rfl,rfl,rfl,rfl,rfl,rfl,rfl⟩:=hE;have e:∀i hd w:Int,0<=i/\i<x.j.f.size->o4 x o i hd w (.d _)=.t5 i w _ .l:=λi hd w hi=>(if_neg he).trans (by rw[aZ.dy hi am]);rw[e _ _ _ hi];cases tu with
   |@cons _ _ nX oL g2 L2 h2 t2=>
   obtain⟨eZ,rfl⟩:=hs.inv;exact⟨rfl,by first|rfl|exact nz,_,.t5 eZ he (.f hi h2) t2,by(try simp only[lC,lA,lB,List.append_nil]);generalize ad m bl _ rest=MM;exact HQ⟩
theorem SL {z}{i w e:Int}:PQ x o q b m bl rest y (.t5 i w e z):=by
 intro B0 S W R l ro hx hk hy h H;obtain⟨dT,cY,eO,fi,ff,fj,bz,dC,fk,fA,eR,fg,-⟩:=aO hx hk;cases h with
 |@t5 z i w e cl lo L g sv uv key au hv he h t=>
 simp only[lA,lB,lC] at H;have H:=Hs.cx (tgt:=.obj q _::.sl sv 1 _::(lo++(ad m bl y rest++((g++(R)))))) HQ H;refine fl (kN:=if(z.step x.j i 3 2 o.c y).1.over then .d i w e false else .t5 i w e (z.step x.j i 3 2 o.c y).1) (y':=(z.step x.j i 3 2 o.c y).2) (by rw[t.len];exact Nat.le_of_ble_eq_true rfl) (λaP h1 h2 h3 B W S H=>l7 h1 h2 h3 cY am am am hy h H) ?_ ?_ H
 .rintro b' aP A hv ⟨rfl,ho,ki,hP,rfl⟩;generalize hw:(z.step x.j i 3 2 o.c y).1=w at*
  rw[if_neg (by rw[ho];simp)];exact⟨rfl,rfl,_,.t5 hv he hP t,HQ⟩
 .rintro lF b' aP L' cq i' aM aN c_ aL A fW h0 hs ⟨rfl,ho,hE,rfl⟩;generalize hw:(z.step x.j i 3 2 o.c y).1=w at*
  rw[if_pos ho];obtain⟨rfl,rfl,rfl,rfl,rfl,rfl,rfl,rfl⟩:=hE;cases t;exact⟨rfl,by first|rfl|exact nz,_,.d hs (λe _=>absurd e he),by(try simp only[lC,lA,lB,List.append_nil]);generalize ad m bl _ rest=MM;exact HQ⟩
theorem SM {z}{i hd w:Int}:PQ x o q b m bl rest y (.t6 i hd w z):=by
 intro B0 S W R l ro hx hk hy h H;obtain⟨dT,cY,eO,fi,ff,fj,bz,dC,fk,fA,eR,fg,-⟩:=aO hx hk;cases h with
 |@t6 z i hd w cl lo L g sv uv vx vb hv h t=>
 simp only[lA,lB,lC] at H;have H:=Hs.cx (tgt:=.obj q _::.sl sv 1 _::(lo++(ad m bl y rest++(.obj vx (.row [.ptr q 0])::.obj vb (.row [I (x.ring o.c).head,I (x.ring o.c).tail,I (x.ring o.c).eY,I (x.ring o.c).size])::(g++(R)))))) HQ H;refine fl (kN:=if(z.step (x.ring o.c) hd y).1.over then an.balance x i w else .t6 i hd w (z.step (x.ring o.c) hd y).1) (y':=(z.step (x.ring o.c) hd y).2) (by rw[t.len];exact Nat.le_of_ble_eq_true rfl) (λaP h1 h2 h3 B W S H=>EB h1 h2 h3 eR hy h H) ?_ ?_ H
 .rintro b' aP A hv ⟨rfl,ho,ki,hP,rfl⟩;generalize hw:(z.step (x.ring o.c) hd y).1=w at*
  rw[if_neg (by rw[ho];simp)];exact⟨rfl,rfl,_,.t6 hv hP t,HQ⟩
 .rintro lF b' aP L' cq i' aM aN c_ aL A fW h0 hs ⟨rfl,ho,hE,rfl⟩;generalize hw:(z.step (x.ring o.c) hd y).1=w at*
  rw[if_pos ho];obtain⟨rfl,rfl,rfl,rfl,rfl,rfl,rfl,rfl⟩:=hE;cases t with
  |@cons _ _ nX oL g2 L2 h2 t2=>
  obtain⟨eZ,rfl⟩:=hs.inv;exact⟨rfl,by first|rfl|exact nz,_,.oX eZ (.f h2) t2,by(try simp only[lC,lA,lB,List.append_nil]);generalize ad m bl _ rest=MM;exact HQ⟩
theorem NJ {z}{i w:Int}:PQ x o q b m bl rest y (.oX i w z):=by
 intro B0 S W R l ro hx hk hy h H;obtain⟨dT,cY,eO,fi,ff,fj,bz,dC,fk,fA,eR,fg,-⟩:=aO hx hk;cases h with
 |@oX z i w cl lo L g sv uv au hv h t=>
 simp only[lA,lB,lC] at H;have H:=Hs.cx (tgt:=.obj q _::.sl sv 1 _::(lo++(ad m bl y rest++((g++(R)))))) HQ H;refine fl (kN:=if(z.step x.t x.r o.c y).1.over then .d i w 0 false else .oX i w (z.step x.t x.r o.c y).1) (y':=(z.step x.t x.r o.c y).2) (by rw[t.len];exact Nat.le_of_ble_eq_true rfl) (λaP h1 h2 h3 B W S H=>J2 h1 h2 h3 dT eO am hy h H) ?_ ?_ H
 .rintro b' aP A hv ⟨rfl,ho,ki,hP,rfl⟩;generalize hw:(z.step x.t x.r o.c y).1=w at*
  rw[if_neg (by rw[ho];simp)];exact⟨rfl,rfl,_,.oX hv hP t,HQ⟩
 .rintro lF b' aP L' cq i' aM aN c_ aL A fW h0 hs ⟨rfl,ho,hE,rfl⟩;generalize hw:(z.step x.t x.r o.c y).1=w at*
  rw[if_pos ho];obtain⟨rfl,rfl,rfl,rfl,rfl,rfl,rfl,rfl⟩:=hE;cases t;exact⟨rfl,by first|rfl|exact nz,_,.d hs (λ_ _=>⟨rfl,rfl⟩),by(try simp only[lC,lA,lB,List.append_nil]);generalize ad m bl _ rest=MM;exact HQ⟩
end
end
section
open an
section
variable{B0 S:AH}{W:List Nat}{R l:List Own}{ro:List aB}{m bl q:Nat}{y:Me}{rest:List AV}{x:Xc}{o:Od}{b:Int}
theorem SN (hx:x.ok) (hk:o.ok x) (hy:y.gd) (h:eP x o q b (.p1) l) (H:Cx B0 W S (l++(ad m bl y rest++R)) ro):
  aG EM (zF 20) [.ptr q 0,.ptr m 0] S λu S'=>∃ab,eW (eP x o q (an.cM x o (.p1))) an.over (an.step x o (.p1) y) (ad m bl · rest) R u ab/\Cx B0 W S' ab ro:=by
 obtain⟨dT,cY,eO,fi,ff,fj,bz,dC,fk,fA,eR,fg,-⟩:=aO hx hk;cases h with
 |@p1 p1 a1 b1 L g sv uv vx i key au hv t=>
 simp only[lA,lB,lC] at H;have H:=Hs.cx (tgt:=.obj q _::.sl sv 1 _::([.obj p1 (.row [.fn (.func 414) [] [.ptr a1 0,.ptr b1 0]]),.obj a1 (.row [.ptr q 0]),.obj b1 (.row [.fn (.func 294) [] [.ptr vx 0]])]++(ad m bl y rest++(.obj vx (.row [.ptr q 0])::(g++(R)))))) HQ H;refine fl (kN:=if 0<=x.rd (y.word (x.own+o.c)) then .d 0 0 11 false else an.pick) (y':=y.ld (x.own+o.c)) (by rw[t.len];exact Nat.le_of_ble_eq_true rfl) (λaP h1 h2 h3 B W S H=>yN h1 h2 h3 (by rw[t.len];exact Nat.le_of_ble_eq_true rfl) hy ⟨am,am,dC⟩ H) ?_ ?_ H;.rintro b' aP A hv ⟨⟩
 .rintro lF b' aP L' cq i' aM aN c_ aL A fW h0 hs ⟨rfl,ho,ex,hE,rfl⟩;rcases hE with⟨hr,rfl,hE⟩|⟨hr,hE⟩
  .rw[if_pos hr];obtain⟨rfl,rfl,rfl,rfl,rfl,rfl,rfl,rfl⟩:=hE;exact⟨rfl,by first|rfl|exact nz,_,.d hs ac,by(try simp only[lC,lA,lB,List.append_nil]);generalize ad m bl _ rest=MM;exact HQ⟩
  .rw[if_neg am];obtain⟨P,hP,hE⟩:=hE;obtain⟨_,rfl,rfl,rfl,rfl,rfl,rfl,rfl⟩:=hE;cases hP with
   |@mk yJ sM yK yL sN yM pr po vp hb ht hp=>
   cases t;obtain⟨eZ,rfl⟩:=hs.Sx;exact⟨rfl,rfl,_,.p2 (L:=_) eZ (.f hp) (Cf hb ht),by(try simp only[lC,lA,lB,List.append_nil]);generalize ad m bl _ rest=MM;exact HQ⟩
theorem SO {z}:PQ x o q b m bl rest y (.p2 z):=by
 intro B0 S W R l ro hx hk hy h H;obtain⟨dT,cY,eO,fi,ff,fj,bz,dC,fk,fA,eR,fg,-⟩:=aO hx hk;cases h with
 |@p2 z cl lo L g sv uv vp i key au hv h t=>
 simp only[lA,lB,lC] at H;have H:=Hs.cx (tgt:=.obj q _::.sl sv 1 _::(lo++(ad m bl y rest++(.obj vp (.row [.ptr q 0])::(g++(R)))))) HQ H;refine fl (kN:=an.jl x o (z.step x.t o.c false y).1) (y':=(z.step x.t o.c false y).2) (by rw[t.len];exact Nat.le_of_ble_eq_true rfl) (λaP h1 h2 h3 B W S H=>HM h1 h2 h3 dT am hy h H) ?_ ?_ H
 .rintro b' aP A hv ⟨rfl,ho,ki,hP,rfl⟩;generalize hw:(z.step x.t o.c false y).1=w at*
  cases w<;>first|(cases ho;done)|exact⟨rfl,rfl,_,.p2 hv hP t,HQ⟩
 .rintro lF b' aP L' cq i' aM aN c_ aL A fW h0 hs ⟨rfl,ho,hE,rfl⟩;generalize hw:(z.step x.t o.c false y).1=w at*
  cases w<;>first|(cases ho;done)|skip
  rename_i k' j' e';rcases hE with⟨rfl,Fl,JL,hE⟩|⟨rfl,hj,hE⟩|⟨he,SP,hE⟩|⟨he,SP,hE⟩
  .have e:jl x o (.d k' j' 0)=.p3 j' k' .l:=by show(if(0:Int)=0 then(if j'<0\/x.j.f.size<=j' then an.d 0 0 5 false else .p3 j' k' (.new x.j j' o.c)) else if o.k=4 then an.d 0 0 0 true else .d 0 0 15 false)=_;rw[if_pos rfl,if_neg am,aZ.dy ⟨Fl,JL⟩ am]
   rw[e];obtain⟨rfl,rfl,rfl,rfl,rfl,rfl,rfl,rfl⟩:=hE;cases t with
   |@cons _ _ nX oL g2 L2 h2 t2=>
   obtain⟨eZ,rfl⟩:=hs.inv;exact⟨rfl,by first|rfl|exact nz,_,.p3 eZ ⟨Fl,JL⟩ (.f ⟨Fl,JL⟩ h2) t2,by(try simp only[lC,lA,lB,List.append_nil]);generalize ad m bl _ rest=MM;exact HQ⟩
  .have e:jl x o (.d k' j' 0)=.d 0 0 5 false:=by show(if(0:Int)=0 then(if j'<0\/x.j.f.size<=j' then an.d 0 0 5 false else .p3 j' k' (.new x.j j' o.c)) else if o.k=4 then an.d 0 0 0 true else .d 0 0 15 false)=_;rw[if_pos rfl,if_pos hj]
   rw[e];obtain⟨rfl,rfl,rfl,rfl,rfl,rfl,rfl,rfl⟩:=hE;exact⟨rfl,by first|rfl|exact nz,_,.d hs ac,by(try simp only[lC,lA,lB,List.append_nil]);generalize ad m bl _ rest=MM;exact HQ⟩
  .have e:jl x o (.d k' j' e')=.d 0 0 0 true:=(if_neg he).trans (if_pos SP);rw[e];obtain⟨rfl,rfl,rfl,rfl,rfl,rfl,rfl,rfl⟩:=hE;exact⟨rfl,by first|rfl|exact nz,_,.d hs ac,by(try simp only[lC,lA,lB,List.append_nil]);generalize ad m bl _ rest=MM;exact HQ⟩
  .have e:jl x o (.d k' j' e')=.d 0 0 15 false:=(if_neg he).trans (if_neg SP);rw[e];obtain⟨rfl,rfl,rfl,rfl,rfl,rfl,rfl,rfl⟩:=hE;exact⟨rfl,by first|rfl|exact nz,_,.d hs ac,by(try simp only[lC,lA,lB,List.append_nil]);generalize ad m bl _ rest=MM;exact HQ⟩
theorem SQ {z}{i w:Int}:PQ x o q b m bl rest y (.p3 i w z):=by
 intro B0 S W R l ro hx hk hy h H;obtain⟨dT,cY,eO,fi,ff,fj,bz,dC,fk,fA,eR,fg,-⟩:=aO hx hk;cases h with
 |@p3 z i w cl lo L g sv uv vp au hv hi h t=>
 simp only[lA,lB,lC] at H;have H:=Hs.cx (tgt:=.obj q _::.sl sv 1 _::(lo++(ad m bl y rest++((g++(.obj vp (.row [.ptr q 0])::R)))))) HQ H;refine fl (kN:=if(z.step x.j i 3 4 o.c y).1.over then .p4 i w else .p3 i w (z.step x.j i 3 4 o.c y).1) (y':=(z.step x.j i 3 4 o.c y).2) (by rw[t.len];exact Nat.le_of_ble_eq_true rfl) (λaP h1 h2 h3 B W S H=>l7 h1 h2 h3 cY am am am hy h H) ?_ ?_ H
 .rintro b' aP A hv ⟨rfl,ho,ki,hP,rfl⟩;generalize hw:(z.step x.j i 3 4 o.c y).1=w at*
  rw[if_neg (by rw[ho];simp)];exact⟨rfl,rfl,_,.p3 hv hi hP t,HQ⟩
 .rintro lF b' aP L' cq i' aM aN c_ aL A fW h0 hs ⟨rfl,ho,hE,rfl⟩;generalize hw:(z.step x.j i 3 4 o.c y).1=w at*
  rw[if_pos ho];obtain⟨rfl,rfl,rfl,rfl,rfl,rfl,rfl,rfl⟩:=hE;cases t with
  |@cons _ _ nX oL g2 L2 h2 t2=>
  obtain⟨eZ,rfl⟩:=hs.inv;obtain⟨p2,rfl,rfl⟩:=h2;exact⟨rfl,by first|rfl|exact nz,_,.p4 eZ hi t2,by(try simp only[lC,lA,lB,List.append_nil]);generalize ad m bl _ rest=MM;exact HQ⟩
theorem SR {i w:Int}:PQ x o q b m bl rest y (.p4 i w):=by
 intro B0 S W R l ro hx hk hy h H;obtain⟨dT,cY,eO,fi,ff,fj,bz,dC,fk,fA,eR,fg,-⟩:=aO hx hk;cases h with
 |@p4 i w p1 L g sv uv vp au hv hi t=>
 simp only[lA,lB,lC] at H;have H:=Hs.cx (tgt:=.obj q _::.sl sv 1 _::([.obj p1 (.row [.fn (.func 420) [] [.ptr vp 0]])]++(ad m bl y rest++(.obj vp (.row [.ptr q 0])::(g++(R)))))) HQ H;refine fl (kN:=.p5 i w) (y':=y.st (x.own+o.c) (i+1)) (by rw[t.len];exact Nat.le_of_ble_eq_true rfl) (λaP h1 h2 h3 B W S H=>J5 h1 h2 h3 hy am H ⟨am,am⟩) ?_ ?_ H;.rintro b' aP A hv ⟨⟩
 .rintro lF b' aP L' cq i' aM aN c_ aL A fW h0 hs ⟨rfl,ho,hE,rfl⟩;obtain⟨rfl,rfl,rfl,rfl,rfl,rfl,rfl,rfl⟩:=hE;cases t with
  |@cons _ _ nX oL g2 L2 h2 t2=>
  obtain⟨eZ,rfl⟩:=hs.inv;obtain⟨p2,rfl,rfl⟩:=h2;exact⟨rfl,by first|rfl|exact nz,_,.p5 eZ t2,by(try simp only[lC,lA,lB,List.append_nil]);generalize ad m bl _ rest=MM;exact HQ⟩
theorem SS {i w:Int}:PQ x o q b m bl rest y (.p5 i w):=by
 intro B0 S W R l ro hx hk hy h H;obtain⟨dT,cY,eO,fi,ff,fj,bz,dC,fk,fA,eR,fg,-⟩:=aO hx hk;cases h with
 |@p5 i w p1 L g sv uv vp au hv t=>
 simp only[lA,lB,lC] at H;have H:=Hs.cx (tgt:=.obj q _::.sl sv 1 _::([.obj p1 (.row [.fn (.func 421) [] [.ptr vp 0]])]++(ad m bl y rest++(.obj vp (.row [.ptr q 0])::(g++(R)))))) HQ H;refine fl (kN:=an.balance x i w) (y':=y.st (x.r.runs+o.c) w) (by rw[t.len];exact Nat.le_of_ble_eq_true rfl) (λaP h1 h2 h3 B W S H=>J6 h1 h2 h3 hy ⟨am,am⟩ H) ?_ ?_ H;.rintro b' aP A hv ⟨⟩
 .rintro lF b' aP L' cq i' aM aN c_ aL A fW h0 hs ⟨rfl,ho,hE,rfl⟩;obtain⟨rfl,rfl,rfl,rfl,rfl,rfl,rfl,rfl⟩:=hE;cases t with
  |@cons _ _ nX oL g2 L2 h2 t2=>
  obtain⟨eZ,rfl⟩:=hs.inv;exact⟨rfl,by first|rfl|exact nz,_,.oX eZ (.f h2) t2,by(try simp only[lC,lA,lB,List.append_nil]);generalize ad m bl _ rest=MM;exact HQ⟩
theorem SU (hx:x.ok) (hk:o.ok x) (hy:y.gd) (h:eP x o q b (.s1) l) (H:Cx B0 W S (l++(ad m bl y rest++R)) ro):
  aG EM (zF 20) [.ptr q 0,.ptr m 0] S λu S'=>∃ab,eW (eP x o q (an.cM x o (.s1))) an.over (an.step x o (.s1) y) (ad m bl · rest) R u ab/\Cx B0 W S' ab ro:=by
 obtain⟨dT,cY,eO,fi,ff,fj,bz,dC,fk,fA,eR,fg,-⟩:=aO hx hk;cases h with
 |@s1 p1 L g sv uv vx vh vf i key au hv t=>
 simp only[lA,lB,lC] at H;have H:=Hs.cx (tgt:=.obj q _::.sl sv 1 _::([.obj p1 (.row [.fn (.func 297) [] [.ptr vf 0,.ptr vx 0]])]++(ad m bl y rest++(.obj vx (.row [.ptr q 0])::.obj vf (.row [I (x.r.flags+o.c)])::(g++(.obj vh (.row [I o.high])::R)))))) HQ H;refine fl (kN:=if y.word (x.r.flags+o.c)=0 then .d 0 0 15 false else .s2) (y':=y.ld (x.r.flags+o.c)) (by rw[t.len];exact Nat.le_of_ble_eq_true rfl) (λaP h1 h2 h3 B W S H=>HN h1 h2 h3 hy am H) ?_ ?_ H;.rintro b' aP A hv ⟨⟩
 .rintro lF b' aP L' cq i' aM aN c_ aL A fW h0 hs ⟨rfl,ho,hE,rfl⟩;rcases hE with⟨hr,hE⟩|⟨hr,hE⟩
  .rw[if_neg hr];obtain⟨rfl,rfl,rfl,rfl,rfl,rfl,rfl,rfl⟩:=hE;cases t with
   |@cons _ _ nX oL g2 L2 h2 t2=>
   obtain⟨eZ,rfl⟩:=hs.inv;obtain⟨p2,a2,b2,rfl,rfl⟩:=h2;exact⟨rfl,by first|rfl|exact nz,_,.s2 eZ t2,by(try simp only[lC,lA,lB,List.append_nil]);generalize ad m bl _ rest=MM;exact HQ⟩
  .rw[if_pos hr];obtain⟨rfl,rfl,rfl,rfl,rfl,rfl,rfl,rfl⟩:=hE;exact⟨rfl,by first|rfl|exact nz,_,.d hs ac,by(try simp only[lC,lA,lB,List.append_nil]);generalize ad m bl _ rest=MM;exact HQ⟩
theorem SV (hx:x.ok) (hk:o.ok x) (hy:y.gd) (h:eP x o q b (.s2) l) (H:Cx B0 W S (l++(ad m bl y rest++R)) ro):
  aG EM (zF 20) [.ptr q 0,.ptr m 0] S λu S'=>∃ab,eW (eP x o q (an.cM x o (.s2))) an.over (an.step x o (.s2) y) (ad m bl · rest) R u ab/\Cx B0 W S' ab ro:=by
 obtain⟨dT,cY,eO,fi,ff,fj,bz,dC,fk,fA,eR,fg,-⟩:=aO hx hk;cases h with
 |@s2 p1 a1 b1 L g sv uv vx vh i key au hv t=>
 simp only[lA,lB,lC] at H;have H:=Hs.cx (tgt:=.obj q _::.sl sv 1 _::([.obj p1 (.row [.fn (.func 423) [] [.ptr a1 0,.ptr b1 0]]),.obj a1 (.row [I (x.r.flags+o.c)]),.obj b1 (.row [U 0])]++(ad m bl y rest++((g++(.obj vx (.row [.ptr q 0])::.obj vh (.row [I o.high])::R)))))) HQ H;refine fl (kN:=.s3) (y':=y.st (x.r.flags+o.c) 0) (by rw[t.len];exact Nat.le_of_ble_eq_true rfl) (λaP h1 h2 h3 B W S H=>jK h1 h2 h3 hy am (by unfold Me.ar;omega) H) ?_ ?_ H;.rintro b' aP A hv ⟨⟩
 .rintro lF b' aP L' cq i' aM aN c_ aL A fW h0 hs ⟨rfl,ho,hE,rfl⟩;obtain⟨rfl,rfl,rfl,rfl,rfl,rfl,rfl,rfl⟩:=hE;cases t with
  |@cons _ _ nX oL g2 L2 h2 t2=>
  obtain⟨eZ,rfl⟩:=hs.inv;obtain⟨p2,a2,b2,rfl,rfl⟩:=h2;exact⟨rfl,by first|rfl|exact nz,_,.s3 eZ t2,by(try simp only[lC,lA,lB,List.append_nil]);generalize ad m bl _ rest=MM;exact HQ⟩
theorem SW (hx:x.ok) (hk:o.ok x) (hy:y.gd) (h:eP x o q b (.s3) l) (H:Cx B0 W S (l++(ad m bl y rest++R)) ro):
  aG EM (zF 20) [.ptr q 0,.ptr m 0] S λu S'=>∃ab,eW (eP x o q (an.cM x o (.s3))) an.over (an.step x o (.s3) y) (ad m bl · rest) R u ab/\Cx B0 W S' ab ro:=by
 obtain⟨dT,cY,eO,fi,ff,fj,bz,dC,fk,fA,eR,fg,-⟩:=aO hx hk;cases h with
 |@s3 p1 a1 b1 L g sv uv vx vh i key au hv t=>
 simp only[lA,lB,lC] at H;have H:=Hs.cx (tgt:=.obj q _::.sl sv 1 _::([.obj p1 (.row [.fn (.func 414) [] [.ptr a1 0,.ptr b1 0]]),.obj a1 (.row [.ptr q 0]),.obj b1 (.row [.fn (.func 300) [] [.ptr vx 0,.ptr vh 0]])]++(ad m bl y rest++(.obj vx (.row [.ptr q 0])::.obj vh (.row [I o.high])::(g++(R)))))) HQ H;refine fl (kN:=if x.rd (y.word (x.own+o.c))<0 then an.pick else .s4 (x.rd (y.word (x.own+o.c))) (.new x.j (x.rd (y.word (x.own+o.c))))) (y':=y.ld (x.own+o.c)) (by rw[t.len];exact Nat.le_of_ble_eq_true rfl) (λaP h1 h2 h3 B W S H=>wH h1 h2 h3 (by rw[t.len];exact Nat.le_of_ble_eq_true rfl) hy ⟨am,am,dC⟩ ⟨am,am⟩ H) ?_ ?_ H;.rintro b' aP A hv ⟨⟩
 .rintro lF b' aP L' cq i' aM aN c_ aL A fW h0 hs ⟨rfl,ho,ex,hE,rfl⟩;rcases hE with⟨hr,hE⟩|⟨hr,hu,P,Y,U',e1,e2,hP,hY,rfl,hE⟩
  .rw[if_pos hr];obtain⟨P,hP,hE⟩:=hE;obtain⟨_,rfl,rfl,rfl,rfl,rfl,rfl,rfl⟩:=hE;cases hP with
   |@mk yJ sM yK yL sN yM pr po vp hb ht hp=>
   cases t;obtain⟨eZ,rfl⟩:=hs.Sx;exact⟨rfl,rfl,_,.p2 (L:=_) eZ (.f hp) (Cf hb ht),by(try simp only[lC,lA,lB,List.append_nil]);generalize ad m bl _ rest=MM;exact HQ⟩
  .obtain⟨_,rfl,_,rfl,rfl,rfl,rfl,rfl⟩:=hE;rw[if_neg am,bF.dy (x.xp hr)];cases hP with
   |@mk yJ sM yK yL sN yM pr po vp hb ht hp=>
   cases hY with
   |@mk abm ND abn NF abo abp abq NG abr NH abt abu s1 a1 w1 s2 a2 w2 u1 ua uw u2 vr vy ha' Lh Bt RX hu' Li=>
   cases t;obtain⟨eZ,rfl⟩:=hs.Sy;exact⟨rfl,rfl,_,.s4 (L:=_) eZ (x.xp hr) (.f (x.xp hr) ha') (NI hu' Li) (NB Lh Bt RX hp hb ht),by(try simp only[lC,lA,lB,List.append_nil]);generalize ad m bl _ rest=MM;exact HQ⟩
end
end
end Go.cO
