/- Contracts. Conditions: in each theorem. -/
import Derived.Test.YtdfgboafnklioaaGreatM30
set_option linter.all false
set_option maxRecDepth 100000
set_option maxHeartbeats 4000000
namespace Go.cI
open Go.Proofs
section
open az
section
variable{B0 S:AH}{W:List Nat}{R l:List Own}{ro:List aF}{m bl q:Nat}{y:Me}{rest:List AV}{x:Xc}{o:Od}{b:Int}
theorem Sy {z}:PQ x o q b m bl rest y (.t1 z):=by
 intro B0 S W R l ro hx hk hy h H;obtain⟨dK,cR,eD,eU,eQ,eV,bt,dk,eR,eL,eo,eS,-⟩:=aS hx hk;cases h with
 |@t1 z cl lo L g sv uv UL gu vx vb i key aw hv h tu t=>
 simp only[lA,lB,lC] at H;have H:=Hs.cx (tgt:=.obj q _::.sl sv 1 _::(lo++(ad m bl y rest++((g++(gu++(.sl uv 1 UL::.obj vx (.row [.ptr q 0])::.obj vb (.row [I (x.ring o.c).head,I (x.ring o.c).tail,I (x.ring o.c).eK,I (x.ring o.c).size])::R))))))) HQ H;refine eW (kg:=az.mF x o (z.step (x.ring o.c) y).1) (y':=(z.step (x.ring o.c) y).2) (by rw[t.len];exact Nat.le_of_ble_eq_true rfl) (λaT h1 h2 h3 B W S H=>EI h1 h2 h3 eo hy h H) ?_ ?_ H
 .rintro b' aT A hv ⟨rfl,ho,i4,hP,rfl⟩;generalize hw:(z.step (x.ring o.c) y).1=w at*
  cases w<;>first|(cases ho;done)|exact⟨rfl,rfl,_,.t1 hv hP tu t,HQ⟩
 .rintro kQ b' aT L' ca i' aQ aR cT aP A fz h0 hs ⟨rfl,ho,hE,rfl⟩;generalize hw:(z.step (x.ring o.c) y).1=w at*
  cases w<;>first|(cases ho;done)|skip
  have hb:=mj.bd hy h hw;rename_i h' v' e';rcases hE with⟨rfl,du,hE⟩|⟨rfl,Fc,hE⟩|⟨he,hE⟩
  .obtain⟨wk,zq⟩:=hb rfl;have e:mF x o (.d h' v' 0)=.t2 v' h' .a:=by show(if(0:Int)=0 then(if x.j.f.size<=v' then az.d 0 0 5 false else .t2 v' h' (.new x.j v')) else az.d 0 0 15 false)=_;rw[if_pos rfl,if_neg am,bC.df ⟨wk.1,du⟩]
   rw[e];obtain⟨rfl,rfl,rfl,rfl,rfl,rfl,rfl,rfl⟩:=hE;cases t with
   |@cons _ _ nH nZ g2 L2 h2 t2=>
   obtain⟨eM,rfl⟩:=hs.inv;exact⟨rfl,by first|rfl|exact nz,_,.t2 eM zq ⟨wk.1,du⟩ (.f ⟨wk.1,du⟩ h2) tu t2,by(try simp only[lC,lA,lB,List.append_nil]);generalize ad m bl _ rest=MM;exact HQ⟩
  .have e:mF x o (.d h' v' 0)=.d 0 0 5 false:=by show(if(0:Int)=0 then(if x.j.f.size<=v' then az.d 0 0 5 false else .t2 v' h' (.new x.j v')) else az.d 0 0 15 false)=_;rw[if_pos rfl,if_pos Fc]
   rw[e];obtain⟨rfl,rfl,rfl,rfl,rfl,rfl,rfl,rfl⟩:=hE;exact⟨rfl,by first|rfl|exact nz,_,.d hs ac,by(try simp only[lC,lA,lB,List.append_nil]);generalize ad m bl _ rest=MM;exact HQ⟩
  .have e:mF x o (.d h' v' e')=.d 0 0 15 false:=if_neg he;rw[e];obtain⟨rfl,rfl,rfl,rfl,rfl,rfl,rfl,rfl⟩:=hE;exact⟨rfl,by first|rfl|exact nz,_,.d hs ac,by(try simp only[lC,lA,lB,List.append_nil]);generalize ad m bl _ rest=MM;exact HQ⟩
theorem Sz {z}{i hd:Int}:PQ x o q b m bl rest y (.t2 i hd z):=by
 intro B0 S W R l ro hx hk hy h H;obtain⟨dK,cR,eD,eU,eQ,eV,bt,dk,eR,eL,eo,eS,-⟩:=aS hx hk;cases h with
 |@t2 z i hd cl lo L g sv uv UL gu vx vb key hv hh hi h tu t=>
 simp only[lA,lB,lC] at H;have H:=Hs.cx (tgt:=.obj q _::.sl sv 1 _::(lo++(ad m bl y rest++(.obj vx (.row [.ptr q 0])::(g++(gu++(.sl uv 1 UL::.obj vb (.row [I (x.ring o.c).head,I (x.ring o.c).tail,I (x.ring o.c).eK,I (x.ring o.c).size])::R))))))) HQ H;refine eW (kg:=az.oE x o i hd (z.stepOf x.j i y).1) (y':=(z.stepOf x.j i y).2) (by rw[t.len];exact Nat.le_of_ble_eq_true rfl) (λaT h1 h2 h3 B W S H=>HK h1 h2 h3 cR hy h H) ?_ ?_ H
 .rintro b' aT A hv ⟨rfl,ho,i4,hP,rfl⟩;generalize hw:(z.stepOf x.j i y).1=w at*
  cases w<;>first|(cases ho;done)|exact⟨rfl,rfl,_,.t2 hv hh hi hP tu t,HQ⟩
 .rintro kQ b' aT L' ca i' aQ aR cT aP A fz h0 hs ⟨rfl,ho,hE,rfl⟩;generalize hw:(z.stepOf x.j i y).1=w at*
  cases w<;>first|(cases ho;done)|skip
  have hb:=qR.bd hy h hw;rename_i w' e';rcases hE with⟨wk,hE⟩|⟨wk,hE⟩
  .have e:oE x o i hd (.d w' e')=.t3 i hd w' .l:=(if_neg wk).trans (by rw[bh.df hi am]);rw[e];obtain⟨rfl,rfl,rfl,rfl,rfl,rfl,rfl,rfl⟩:=hE;cases t with
   |@cons _ _ nH nZ g2 L2 h2 t2=>
   obtain⟨eM,rfl⟩:=hs.inv;exact⟨rfl,by first|rfl|exact nz,_,.t3 eM hh hi ⟨hb,wk⟩ (.f hi h2) tu t2,by(try simp only[lC,lA,lB,List.append_nil]);generalize ad m bl _ rest=MM;exact HQ⟩
  .have e:oE x o i hd (.d w' e')=.d 0 0 5 false:=if_pos wk;rw[e];obtain⟨rfl,rfl,rfl,rfl,rfl,rfl,rfl,rfl⟩:=hE;exact⟨rfl,by first|rfl|exact nz,_,.d hs ac,by(try simp only[lC,lA,lB,List.append_nil]);generalize ad m bl _ rest=MM;exact HQ⟩
theorem SA {z}{i hd w:Int}:PQ x o q b m bl rest y (.t3 i hd w z):=by
 intro B0 S W R l ro hx hk hy h H;obtain⟨dK,cR,eD,eU,eQ,eV,bt,dk,eR,eL,eo,eS,-⟩:=aS hx hk;cases h with
 |@t3 z i hd w cl lo L g sv uv UL gu vx vb hv hh hi c_ h tu t=>
 simp only[lA,lB,lC] at H;have H:=Hs.cx (tgt:=.obj q _::.sl sv 1 _::(lo++(ad m bl y rest++((g++(gu++(.sl uv 1 UL::.obj vx (.row [.ptr q 0])::.obj vb (.row [I (x.ring o.c).head,I (x.ring o.c).tail,I (x.ring o.c).eK,I (x.ring o.c).size])::R))))))) HQ H;refine eW (kg:=if(z.step x.j i 2 3 o.c y).1.over then .t4 i hd w (.p .a 0) else .t3 i hd w (z.step x.j i 2 3 o.c y).1) (y':=(z.step x.j i 2 3 o.c y).2) (by rw[t.len];exact Nat.le_of_ble_eq_true rfl) (λaT h1 h2 h3 B W S H=>lz h1 h2 h3 cR am am am hy h H) ?_ ?_ H
 .rintro b' aT A hv ⟨rfl,ho,i4,hP,rfl⟩;generalize hw:(z.step x.j i 2 3 o.c y).1=w at*
  rw[if_neg (by rw[ho];simp)];exact⟨rfl,rfl,_,.t3 hv hh hi c_ hP tu t,HQ⟩
 .rintro kQ b' aT L' ca i' aQ aR cT aP A fz h0 hs ⟨rfl,ho,hE,rfl⟩;generalize hw:(z.step x.j i 2 3 o.c y).1=w at*
  rw[if_pos ho];obtain⟨rfl,rfl,rfl,rfl,rfl,rfl,rfl,rfl⟩:=hE;cases t with
  |@cons _ _ nH nZ g2 L2 h2 t2=>
  obtain⟨eM,rfl⟩:=hs.inv;exact⟨rfl,by first|rfl|exact nz,_,.t4 eM hh hi c_ (.f h2) tu t2,by(try simp only[lC,lA,lB,List.append_nil]);generalize ad m bl _ rest=MM;exact HQ⟩
theorem SB {z}{i hd w:Int}:PQ x o q b m bl rest y (.t4 i hd w z):=by
 intro B0 S W R l ro hx hk hy h H;obtain⟨dK,cR,eD,eU,eQ,eV,bt,dk,eR,eL,eo,eS,-⟩:=aS hx hk;cases h with
 |@t4 z i hd w cl lo L g sv uv UL gu vx vb hv hh hi c_ h tu t=>
 simp only[lA,lB,lC] at H;have H:=Hs.cx (tgt:=.obj q _::.sl sv 1 _::(lo++(ad m bl y rest++(.sl uv 1 UL::.obj vx (.row [.ptr q 0])::(g++(gu++(.obj vb (.row [I (x.ring o.c).head,I (x.ring o.c).tail,I (x.ring o.c).eK,I (x.ring o.c).size])::R))))))) HQ H;refine eW (kg:=az.qH x o i hd w (z.step x.t o.c w i o.high y).1) (y':=(z.step x.t o.c w i o.high y).2) (by rw[t.len];exact Nat.le_of_ble_eq_true rfl) (λaT h1 h2 h3 B W S H=>HN h1 h2 h3 (by rw[tu.len];exact Nat.le_of_ble_eq_true rfl) dK am (by have:=c_.1;have:=c_.2;unfold Me.au bY at*;omega) ⟨am,am,am⟩ hy h H) ?_ ?_ H
 .rintro b' aT A hv ⟨rfl,ho,i4,hP,rfl⟩;generalize hw:(z.step x.t o.c w i o.high y).1=w at*
  cases w<;>first|(cases ho;done)|exact⟨rfl,rfl,_,.t4 hv hh hi c_ hP tu t,HQ⟩
 .rintro kQ b' aT L' ca i' aQ aR cT aP A fz h0 hs ⟨rfl,ho,hE,rfl⟩;generalize hw:(z.step x.t o.c w i o.high y).1=w at*
  cases w<;>first|(cases ho;done)|skip
  rcases hE with⟨rfl,hE⟩|⟨he,hE⟩
  .obtain⟨rfl,rfl,rfl,rfl,rfl,rfl,rfl,rfl⟩:=hE;cases t with
   |@cons _ _ nH nZ g2 L2 h2 t2=>
   obtain⟨eM,rfl⟩:=hs.inv;exact⟨rfl,by first|rfl|exact nz,_,.t6 eM (.f ⟨eo,hh⟩ h2) t2,by(try simp only[lC,lA,lB,List.append_nil]);generalize ad m bl _ rest=MM;exact HQ⟩
  .obtain⟨rfl,rfl,rfl,rfl,rfl,rfl,rfl⟩:=hE;have e:∀i hd w:Int,0<=i/\i<x.j.f.size->qH x o i hd w (.d _)=.t5 i w _ .l:=λi hd w hi=>(if_neg he).trans (by rw[bh.df hi am]);rw[e _ _ _ hi];cases tu with
   |@cons _ _ nH nZ g2 L2 h2 t2=>
   obtain⟨eM,rfl⟩:=hs.inv;exact⟨rfl,by first|rfl|exact nz,_,.t5 eM he (.f hi h2) t2,by(try simp only[lC,lA,lB,List.append_nil]);generalize ad m bl _ rest=MM;exact HQ⟩
theorem SD {z}{i w e:Int}:PQ x o q b m bl rest y (.t5 i w e z):=by
 intro B0 S W R l ro hx hk hy h H;obtain⟨dK,cR,eD,eU,eQ,eV,bt,dk,eR,eL,eo,eS,-⟩:=aS hx hk;cases h with
 |@t5 z i w e cl lo L g sv uv key aw hv he h t=>
 simp only[lA,lB,lC] at H;have H:=Hs.cx (tgt:=.obj q _::.sl sv 1 _::(lo++(ad m bl y rest++((g++(R)))))) HQ H;refine eW (kg:=if(z.step x.j i 3 2 o.c y).1.over then .d i w e false else .t5 i w e (z.step x.j i 3 2 o.c y).1) (y':=(z.step x.j i 3 2 o.c y).2) (by rw[t.len];exact Nat.le_of_ble_eq_true rfl) (λaT h1 h2 h3 B W S H=>lz h1 h2 h3 cR am am am hy h H) ?_ ?_ H
 .rintro b' aT A hv ⟨rfl,ho,i4,hP,rfl⟩;generalize hw:(z.step x.j i 3 2 o.c y).1=w at*
  rw[if_neg (by rw[ho];simp)];exact⟨rfl,rfl,_,.t5 hv he hP t,HQ⟩
 .rintro kQ b' aT L' ca i' aQ aR cT aP A fz h0 hs ⟨rfl,ho,hE,rfl⟩;generalize hw:(z.step x.j i 3 2 o.c y).1=w at*
  rw[if_pos ho];obtain⟨rfl,rfl,rfl,rfl,rfl,rfl,rfl,rfl⟩:=hE;cases t;exact⟨rfl,by first|rfl|exact nz,_,.d hs (λe _=>absurd e he),by(try simp only[lC,lA,lB,List.append_nil]);generalize ad m bl _ rest=MM;exact HQ⟩
theorem SE {z}{i hd w:Int}:PQ x o q b m bl rest y (.t6 i hd w z):=by
 intro B0 S W R l ro hx hk hy h H;obtain⟨dK,cR,eD,eU,eQ,eV,bt,dk,eR,eL,eo,eS,-⟩:=aS hx hk;cases h with
 |@t6 z i hd w cl lo L g sv uv vx vb hv h t=>
 simp only[lA,lB,lC] at H;have H:=Hs.cx (tgt:=.obj q _::.sl sv 1 _::(lo++(ad m bl y rest++(.obj vx (.row [.ptr q 0])::.obj vb (.row [I (x.ring o.c).head,I (x.ring o.c).tail,I (x.ring o.c).eK,I (x.ring o.c).size])::(g++(R)))))) HQ H;refine eW (kg:=if(z.step (x.ring o.c) hd y).1.over then az.balance x i w else .t6 i hd w (z.step (x.ring o.c) hd y).1) (y':=(z.step (x.ring o.c) hd y).2) (by rw[t.len];exact Nat.le_of_ble_eq_true rfl) (λaT h1 h2 h3 B W S H=>EN h1 h2 h3 eo hy h H) ?_ ?_ H
 .rintro b' aT A hv ⟨rfl,ho,i4,hP,rfl⟩;generalize hw:(z.step (x.ring o.c) hd y).1=w at*
  rw[if_neg (by rw[ho];simp)];exact⟨rfl,rfl,_,.t6 hv hP t,HQ⟩
 .rintro kQ b' aT L' ca i' aQ aR cT aP A fz h0 hs ⟨rfl,ho,hE,rfl⟩;generalize hw:(z.step (x.ring o.c) hd y).1=w at*
  rw[if_pos ho];obtain⟨rfl,rfl,rfl,rfl,rfl,rfl,rfl,rfl⟩:=hE;cases t with
  |@cons _ _ nH nZ g2 L2 h2 t2=>
  obtain⟨eM,rfl⟩:=hs.inv;exact⟨rfl,by first|rfl|exact nz,_,.pg eM (.f h2) t2,by(try simp only[lC,lA,lB,List.append_nil]);generalize ad m bl _ rest=MM;exact HQ⟩
theorem NR {z}{i w:Int}:PQ x o q b m bl rest y (.pg i w z):=by
 intro B0 S W R l ro hx hk hy h H;obtain⟨dK,cR,eD,eU,eQ,eV,bt,dk,eR,eL,eo,eS,-⟩:=aS hx hk;cases h with
 |@pg z i w cl lo L g sv uv aw hv h t=>
 simp only[lA,lB,lC] at H;have H:=Hs.cx (tgt:=.obj q _::.sl sv 1 _::(lo++(ad m bl y rest++((g++(R)))))) HQ H;refine eW (kg:=if(z.step x.t x.r o.c y).1.over then .d i w 0 false else .pg i w (z.step x.t x.r o.c y).1) (y':=(z.step x.t x.r o.c y).2) (by rw[t.len];exact Nat.le_of_ble_eq_true rfl) (λaT h1 h2 h3 B W S H=>J_ h1 h2 h3 dK eD am hy h H) ?_ ?_ H
 .rintro b' aT A hv ⟨rfl,ho,i4,hP,rfl⟩;generalize hw:(z.step x.t x.r o.c y).1=w at*
  rw[if_neg (by rw[ho];simp)];exact⟨rfl,rfl,_,.pg hv hP t,HQ⟩
 .rintro kQ b' aT L' ca i' aQ aR cT aP A fz h0 hs ⟨rfl,ho,hE,rfl⟩;generalize hw:(z.step x.t x.r o.c y).1=w at*
  rw[if_pos ho];obtain⟨rfl,rfl,rfl,rfl,rfl,rfl,rfl,rfl⟩:=hE;cases t;exact⟨rfl,by first|rfl|exact nz,_,.d hs (λ_ _=>⟨rfl,rfl⟩),by(try simp only[lC,lA,lB,List.append_nil]);generalize ad m bl _ rest=MM;exact HQ⟩
end
end
section
open az
section
variable{B0 S:AH}{W:List Nat}{R l:List Own}{ro:List aF}{m bl q:Nat}{y:Me}{rest:List AV}{x:Xc}{o:Od}{b:Int}
theorem SF (hx:x.ok) (hk:o.ok x) (hy:y.gd) (h:dR x o q b (.p1) l) (H:Cx B0 W S (l++(ad m bl y rest++R)) ro):
  aG EM (zF 20) [.ptr q 0,.ptr m 0] S λu S'=>∃ab,eH (dR x o q (az.cG x o (.p1))) az.over (az.step x o (.p1) y) (ad m bl · rest) R u ab/\Cx B0 W S' ab ro:=by
 obtain⟨dK,cR,eD,eU,eQ,eV,bt,dk,eR,eL,eo,eS,-⟩:=aS hx hk;cases h with
 |@p1 p1 a1 b1 L g sv uv vx i key aw hv t=>
 simp only[lA,lB,lC] at H;have H:=Hs.cx (tgt:=.obj q _::.sl sv 1 _::([.obj p1 (.row [.fn (.func 414) [] [.ptr a1 0,.ptr b1 0]]),.obj a1 (.row [.ptr q 0]),.obj b1 (.row [.fn (.func 294) [] [.ptr vx 0]])]++(ad m bl y rest++(.obj vx (.row [.ptr q 0])::(g++(R)))))) HQ H;refine eW (kg:=if 0<=x.rd (y.word (x.own+o.c)) then .d 0 0 11 false else az.pick) (y':=y.ld (x.own+o.c)) (by rw[t.len];exact Nat.le_of_ble_eq_true rfl) (λaT h1 h2 h3 B W S H=>yS h1 h2 h3 (by rw[t.len];exact Nat.le_of_ble_eq_true rfl) hy ⟨am,am,dk⟩ H) ?_ ?_ H;.rintro b' aT A hv ⟨⟩
 .rintro kQ b' aT L' ca i' aQ aR cT aP A fz h0 hs ⟨rfl,ho,ex,hE,rfl⟩;rcases hE with⟨hr,rfl,hE⟩|⟨hr,hE⟩
  .rw[if_pos hr];obtain⟨rfl,rfl,rfl,rfl,rfl,rfl,rfl,rfl⟩:=hE;exact⟨rfl,by first|rfl|exact nz,_,.d hs ac,by(try simp only[lC,lA,lB,List.append_nil]);generalize ad m bl _ rest=MM;exact HQ⟩
  .rw[if_neg am];obtain⟨P,hP,hE⟩:=hE;obtain⟨_,rfl,rfl,rfl,rfl,rfl,rfl,rfl⟩:=hE;cases hP with
   |@mk yO sK yP yQ sL yR pr po vp hb ht hp=>
   cases t;obtain⟨eM,rfl⟩:=hs.Sm;exact⟨rfl,rfl,_,.p2 (L:=_) eM (.f hp) (Cs hb ht),by(try simp only[lC,lA,lB,List.append_nil]);generalize ad m bl _ rest=MM;exact HQ⟩
theorem SG {z}:PQ x o q b m bl rest y (.p2 z):=by
 intro B0 S W R l ro hx hk hy h H;obtain⟨dK,cR,eD,eU,eQ,eV,bt,dk,eR,eL,eo,eS,-⟩:=aS hx hk;cases h with
 |@p2 z cl lo L g sv uv vp i key aw hv h t=>
 simp only[lA,lB,lC] at H;have H:=Hs.cx (tgt:=.obj q _::.sl sv 1 _::(lo++(ad m bl y rest++(.obj vp (.row [.ptr q 0])::(g++(R)))))) HQ H;refine eW (kg:=az.jy x o (z.step x.t o.c false y).1) (y':=(z.step x.t o.c false y).2) (by rw[t.len];exact Nat.le_of_ble_eq_true rfl) (λaT h1 h2 h3 B W S H=>HP h1 h2 h3 dK am hy h H) ?_ ?_ H
 .rintro b' aT A hv ⟨rfl,ho,i4,hP,rfl⟩;generalize hw:(z.step x.t o.c false y).1=w at*
  cases w<;>first|(cases ho;done)|exact⟨rfl,rfl,_,.p2 hv hP t,HQ⟩
 .rintro kQ b' aT L' ca i' aQ aR cT aP A fz h0 hs ⟨rfl,ho,hE,rfl⟩;generalize hw:(z.step x.t o.c false y).1=w at*
  cases w<;>first|(cases ho;done)|skip
  rename_i k' j' e';rcases hE with⟨rfl,P5,JO,hE⟩|⟨rfl,hj,hE⟩|⟨he,SH,hE⟩|⟨he,SH,hE⟩
  .have e:jy x o (.d k' j' 0)=.p3 j' k' .l:=by show(if(0:Int)=0 then(if j'<0\/x.j.f.size<=j' then az.d 0 0 5 false else .p3 j' k' (.new x.j j' o.c)) else if o.k=4 then az.d 0 0 0 true else .d 0 0 15 false)=_;rw[if_pos rfl,if_neg am,bh.df ⟨P5,JO⟩ am]
   rw[e];obtain⟨rfl,rfl,rfl,rfl,rfl,rfl,rfl,rfl⟩:=hE;cases t with
   |@cons _ _ nH nZ g2 L2 h2 t2=>
   obtain⟨eM,rfl⟩:=hs.inv;exact⟨rfl,by first|rfl|exact nz,_,.p3 eM ⟨P5,JO⟩ (.f ⟨P5,JO⟩ h2) t2,by(try simp only[lC,lA,lB,List.append_nil]);generalize ad m bl _ rest=MM;exact HQ⟩
  .have e:jy x o (.d k' j' 0)=.d 0 0 5 false:=by show(if(0:Int)=0 then(if j'<0\/x.j.f.size<=j' then az.d 0 0 5 false else .p3 j' k' (.new x.j j' o.c)) else if o.k=4 then az.d 0 0 0 true else .d 0 0 15 false)=_;rw[if_pos rfl,if_pos hj]
   rw[e];obtain⟨rfl,rfl,rfl,rfl,rfl,rfl,rfl,rfl⟩:=hE;exact⟨rfl,by first|rfl|exact nz,_,.d hs ac,by(try simp only[lC,lA,lB,List.append_nil]);generalize ad m bl _ rest=MM;exact HQ⟩
  .have e:jy x o (.d k' j' e')=.d 0 0 0 true:=(if_neg he).trans (if_pos SH);rw[e];obtain⟨rfl,rfl,rfl,rfl,rfl,rfl,rfl,rfl⟩:=hE;exact⟨rfl,by first|rfl|exact nz,_,.d hs ac,by(try simp only[lC,lA,lB,List.append_nil]);generalize ad m bl _ rest=MM;exact HQ⟩
  .have e:jy x o (.d k' j' e')=.d 0 0 15 false:=(if_neg he).trans (if_neg SH);rw[e];obtain⟨rfl,rfl,rfl,rfl,rfl,rfl,rfl,rfl⟩:=hE;exact⟨rfl,by first|rfl|exact nz,_,.d hs ac,by(try simp only[lC,lA,lB,List.append_nil]);generalize ad m bl _ rest=MM;exact HQ⟩
theorem SI {z}{i w:Int}:PQ x o q b m bl rest y (.p3 i w z):=by
 intro B0 S W R l ro hx hk hy h H;obtain⟨dK,cR,eD,eU,eQ,eV,bt,dk,eR,eL,eo,eS,-⟩:=aS hx hk;cases h with
 |@p3 z i w cl lo L g sv uv vp aw hv hi h t=>
 simp only[lA,lB,lC] at H;have H:=Hs.cx (tgt:=.obj q _::.sl sv 1 _::(lo++(ad m bl y rest++((g++(.obj vp (.row [.ptr q 0])::R)))))) HQ H;refine eW (kg:=if(z.step x.j i 3 4 o.c y).1.over then .p4 i w else .p3 i w (z.step x.j i 3 4 o.c y).1) (y':=(z.step x.j i 3 4 o.c y).2) (by rw[t.len];exact Nat.le_of_ble_eq_true rfl) (λaT h1 h2 h3 B W S H=>lz h1 h2 h3 cR am am am hy h H) ?_ ?_ H
 .rintro b' aT A hv ⟨rfl,ho,i4,hP,rfl⟩;generalize hw:(z.step x.j i 3 4 o.c y).1=w at*
  rw[if_neg (by rw[ho];simp)];exact⟨rfl,rfl,_,.p3 hv hi hP t,HQ⟩
 .rintro kQ b' aT L' ca i' aQ aR cT aP A fz h0 hs ⟨rfl,ho,hE,rfl⟩;generalize hw:(z.step x.j i 3 4 o.c y).1=w at*
  rw[if_pos ho];obtain⟨rfl,rfl,rfl,rfl,rfl,rfl,rfl,rfl⟩:=hE;cases t with
  |@cons _ _ nH nZ g2 L2 h2 t2=>
  obtain⟨eM,rfl⟩:=hs.inv;obtain⟨p2,rfl,rfl⟩:=h2;exact⟨rfl,by first|rfl|exact nz,_,.p4 eM hi t2,by(try simp only[lC,lA,lB,List.append_nil]);generalize ad m bl _ rest=MM;exact HQ⟩
theorem SJ {i w:Int}:PQ x o q b m bl rest y (.p4 i w):=by
 intro B0 S W R l ro hx hk hy h H;obtain⟨dK,cR,eD,eU,eQ,eV,bt,dk,eR,eL,eo,eS,-⟩:=aS hx hk;cases h with
 |@p4 i w p1 L g sv uv vp aw hv hi t=>
 simp only[lA,lB,lC] at H;have H:=Hs.cx (tgt:=.obj q _::.sl sv 1 _::([.obj p1 (.row [.fn (.func 420) [] [.ptr vp 0]])]++(ad m bl y rest++(.obj vp (.row [.ptr q 0])::(g++(R)))))) HQ H;refine eW (kg:=.p5 i w) (y':=y.st (x.own+o.c) (i+1)) (by rw[t.len];exact Nat.le_of_ble_eq_true rfl) (λaT h1 h2 h3 B W S H=>Kc h1 h2 h3 hy am H ⟨am,am⟩) ?_ ?_ H;.rintro b' aT A hv ⟨⟩
 .rintro kQ b' aT L' ca i' aQ aR cT aP A fz h0 hs ⟨rfl,ho,hE,rfl⟩;obtain⟨rfl,rfl,rfl,rfl,rfl,rfl,rfl,rfl⟩:=hE;cases t with
  |@cons _ _ nH nZ g2 L2 h2 t2=>
  obtain⟨eM,rfl⟩:=hs.inv;obtain⟨p2,rfl,rfl⟩:=h2;exact⟨rfl,by first|rfl|exact nz,_,.p5 eM t2,by(try simp only[lC,lA,lB,List.append_nil]);generalize ad m bl _ rest=MM;exact HQ⟩
theorem SK {i w:Int}:PQ x o q b m bl rest y (.p5 i w):=by
 intro B0 S W R l ro hx hk hy h H;obtain⟨dK,cR,eD,eU,eQ,eV,bt,dk,eR,eL,eo,eS,-⟩:=aS hx hk;cases h with
 |@p5 i w p1 L g sv uv vp aw hv t=>
 simp only[lA,lB,lC] at H;have H:=Hs.cx (tgt:=.obj q _::.sl sv 1 _::([.obj p1 (.row [.fn (.func 421) [] [.ptr vp 0]])]++(ad m bl y rest++(.obj vp (.row [.ptr q 0])::(g++(R)))))) HQ H;refine eW (kg:=az.balance x i w) (y':=y.st (x.r.runs+o.c) w) (by rw[t.len];exact Nat.le_of_ble_eq_true rfl) (λaT h1 h2 h3 B W S H=>Kd h1 h2 h3 hy ⟨am,am⟩ H) ?_ ?_ H;.rintro b' aT A hv ⟨⟩
 .rintro kQ b' aT L' ca i' aQ aR cT aP A fz h0 hs ⟨rfl,ho,hE,rfl⟩;obtain⟨rfl,rfl,rfl,rfl,rfl,rfl,rfl,rfl⟩:=hE;cases t with
  |@cons _ _ nH nZ g2 L2 h2 t2=>
  obtain⟨eM,rfl⟩:=hs.inv;exact⟨rfl,by first|rfl|exact nz,_,.pg eM (.f h2) t2,by(try simp only[lC,lA,lB,List.append_nil]);generalize ad m bl _ rest=MM;exact HQ⟩
theorem SL (hx:x.ok) (hk:o.ok x) (hy:y.gd) (h:dR x o q b (.s1) l) (H:Cx B0 W S (l++(ad m bl y rest++R)) ro):
  aG EM (zF 20) [.ptr q 0,.ptr m 0] S λu S'=>∃ab,eH (dR x o q (az.cG x o (.s1))) az.over (az.step x o (.s1) y) (ad m bl · rest) R u ab/\Cx B0 W S' ab ro:=by
 obtain⟨dK,cR,eD,eU,eQ,eV,bt,dk,eR,eL,eo,eS,-⟩:=aS hx hk;cases h with
 |@s1 p1 L g sv uv vx vh vf i key aw hv t=>
 simp only[lA,lB,lC] at H;have H:=Hs.cx (tgt:=.obj q _::.sl sv 1 _::([.obj p1 (.row [.fn (.func 297) [] [.ptr vf 0,.ptr vx 0]])]++(ad m bl y rest++(.obj vx (.row [.ptr q 0])::.obj vf (.row [I (x.r.flags+o.c)])::(g++(.obj vh (.row [I o.high])::R)))))) HQ H;refine eW (kg:=if y.word (x.r.flags+o.c)=0 then .d 0 0 15 false else .s2) (y':=y.ld (x.r.flags+o.c)) (by rw[t.len];exact Nat.le_of_ble_eq_true rfl) (λaT h1 h2 h3 B W S H=>HR h1 h2 h3 hy am H) ?_ ?_ H;.rintro b' aT A hv ⟨⟩
 .rintro kQ b' aT L' ca i' aQ aR cT aP A fz h0 hs ⟨rfl,ho,hE,rfl⟩;rcases hE with⟨hr,hE⟩|⟨hr,hE⟩
  .rw[if_neg hr];obtain⟨rfl,rfl,rfl,rfl,rfl,rfl,rfl,rfl⟩:=hE;cases t with
   |@cons _ _ nH nZ g2 L2 h2 t2=>
   obtain⟨eM,rfl⟩:=hs.inv;obtain⟨p2,a2,b2,rfl,rfl⟩:=h2;exact⟨rfl,by first|rfl|exact nz,_,.s2 eM t2,by(try simp only[lC,lA,lB,List.append_nil]);generalize ad m bl _ rest=MM;exact HQ⟩
  .rw[if_pos hr];obtain⟨rfl,rfl,rfl,rfl,rfl,rfl,rfl,rfl⟩:=hE;exact⟨rfl,by first|rfl|exact nz,_,.d hs ac,by(try simp only[lC,lA,lB,List.append_nil]);generalize ad m bl _ rest=MM;exact HQ⟩
theorem SM (hx:x.ok) (hk:o.ok x) (hy:y.gd) (h:dR x o q b (.s2) l) (H:Cx B0 W S (l++(ad m bl y rest++R)) ro):
  aG EM (zF 20) [.ptr q 0,.ptr m 0] S λu S'=>∃ab,eH (dR x o q (az.cG x o (.s2))) az.over (az.step x o (.s2) y) (ad m bl · rest) R u ab/\Cx B0 W S' ab ro:=by
 obtain⟨dK,cR,eD,eU,eQ,eV,bt,dk,eR,eL,eo,eS,-⟩:=aS hx hk;cases h with
 |@s2 p1 a1 b1 L g sv uv vx vh i key aw hv t=>
 simp only[lA,lB,lC] at H;have H:=Hs.cx (tgt:=.obj q _::.sl sv 1 _::([.obj p1 (.row [.fn (.func 423) [] [.ptr a1 0,.ptr b1 0]]),.obj a1 (.row [I (x.r.flags+o.c)]),.obj b1 (.row [U 0])]++(ad m bl y rest++((g++(.obj vx (.row [.ptr q 0])::.obj vh (.row [I o.high])::R)))))) HQ H;refine eW (kg:=.s3) (y':=y.st (x.r.flags+o.c) 0) (by rw[t.len];exact Nat.le_of_ble_eq_true rfl) (λaT h1 h2 h3 B W S H=>jc h1 h2 h3 hy am (by unfold Me.au;omega) H) ?_ ?_ H;.rintro b' aT A hv ⟨⟩
 .rintro kQ b' aT L' ca i' aQ aR cT aP A fz h0 hs ⟨rfl,ho,hE,rfl⟩;obtain⟨rfl,rfl,rfl,rfl,rfl,rfl,rfl,rfl⟩:=hE;cases t with
  |@cons _ _ nH nZ g2 L2 h2 t2=>
  obtain⟨eM,rfl⟩:=hs.inv;obtain⟨p2,a2,b2,rfl,rfl⟩:=h2;exact⟨rfl,by first|rfl|exact nz,_,.s3 eM t2,by(try simp only[lC,lA,lB,List.append_nil]);generalize ad m bl _ rest=MM;exact HQ⟩
theorem SN (hx:x.ok) (hk:o.ok x) (hy:y.gd) (h:dR x o q b (.s3) l) (H:Cx B0 W S (l++(ad m bl y rest++R)) ro):
  aG EM (zF 20) [.ptr q 0,.ptr m 0] S λu S'=>∃ab,eH (dR x o q (az.cG x o (.s3))) az.over (az.step x o (.s3) y) (ad m bl · rest) R u ab/\Cx B0 W S' ab ro:=by
 obtain⟨dK,cR,eD,eU,eQ,eV,bt,dk,eR,eL,eo,eS,-⟩:=aS hx hk;cases h with
 |@s3 p1 a1 b1 L g sv uv vx vh i key aw hv t=>
 simp only[lA,lB,lC] at H;have H:=Hs.cx (tgt:=.obj q _::.sl sv 1 _::([.obj p1 (.row [.fn (.func 414) [] [.ptr a1 0,.ptr b1 0]]),.obj a1 (.row [.ptr q 0]),.obj b1 (.row [.fn (.func 300) [] [.ptr vx 0,.ptr vh 0]])]++(ad m bl y rest++(.obj vx (.row [.ptr q 0])::.obj vh (.row [I o.high])::(g++(R)))))) HQ H;refine eW (kg:=if x.rd (y.word (x.own+o.c))<0 then az.pick else .s4 (x.rd (y.word (x.own+o.c))) (.new x.j (x.rd (y.word (x.own+o.c))))) (y':=y.ld (x.own+o.c)) (by rw[t.len];exact Nat.le_of_ble_eq_true rfl) (λaT h1 h2 h3 B W S H=>wW h1 h2 h3 (by rw[t.len];exact Nat.le_of_ble_eq_true rfl) hy ⟨am,am,dk⟩ ⟨am,am⟩ H) ?_ ?_ H;.rintro b' aT A hv ⟨⟩
 .rintro kQ b' aT L' ca i' aQ aR cT aP A fz h0 hs ⟨rfl,ho,ex,hE,rfl⟩;rcases hE with⟨hr,hE⟩|⟨hr,hu,P,Y,U',e1,e2,hP,hY,rfl,hE⟩
  .rw[if_pos hr];obtain⟨P,hP,hE⟩:=hE;obtain⟨_,rfl,rfl,rfl,rfl,rfl,rfl,rfl⟩:=hE;cases hP with
   |@mk yO sK yP yQ sL yR pr po vp hb ht hp=>
   cases t;obtain⟨eM,rfl⟩:=hs.Sm;exact⟨rfl,rfl,_,.p2 (L:=_) eM (.f hp) (Cs hb ht),by(try simp only[lC,lA,lB,List.append_nil]);generalize ad m bl _ rest=MM;exact HQ⟩
  .obtain⟨_,rfl,_,rfl,rfl,rfl,rfl,rfl⟩:=hE;rw[if_neg am,bC.df (x.xH hr)];cases hP with
   |@mk yO sK yP yQ sL yR pr po vp hb ht hp=>
   cases hY with
   |@mk abo NL abp NM abq abr abt NO abu NP abv abw s1 a1 w1 s2 a2 w2 u1 ua uw u2 vr vy ha' Lp BK RM hu' Lq=>
   cases t;obtain⟨eM,rfl⟩:=hs.Sn;exact⟨rfl,rfl,_,.s4 (L:=_) eM (x.xH hr) (.f (x.xH hr) ha') (NQ hu' Lq) (NK Lp BK RM hp hb ht),by(try simp only[lC,lA,lB,List.append_nil]);generalize ad m bl _ rest=MM;exact HQ⟩
end
end
end Go.cI
