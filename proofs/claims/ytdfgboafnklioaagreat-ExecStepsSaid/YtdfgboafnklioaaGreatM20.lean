/- Contracts. Conditions: in each theorem. -/
import Derived.Test.YtdfgboafnklioaaGreatM13
set_option linter.all false
set_option maxRecDepth 100000
set_option maxHeartbeats 4000000
namespace Go.cG
open Go.Proofs
instance z51:cK 482 where
section
variable{f n a e t j0 j1 j2 j3 j4 i fr to c k h r0 r1 r2 r3:Int}
instance VA:NC EM (zF 256) [.agg [I f,I n],I a,I e,I t] ((0<=f/\f<100000)/\(0<=a/\a<n/\n<100000)/\(0<=e/\e<=1099511627776)/\0<=t/\t<=1099511627776)
  (λq l=>oc (f+a) e t q .a l):=.of rfl rfl λh ro R=>by
 obtain⟨h0,h1,h2,h3⟩:=h;have e1:e%18446744073709551616=e:=am;have e2:t%18446744073709551616=t:=am;show Zx EM false (Tryz.a256 _) _ _ _ _;refine z1 ?_;intros;rw[e1,e2];exact⟨rfl,rfl,(_::R),⟨_,_,oc.a,rfl,rfl⟩,HQ⟩
instance VB:NC EM (zF 262) [.agg [I j0,I j1,I j2,I j3,I j4]] True
  (λq l=>kS ⟨j0,j1,⟨j2,j3,j4⟩⟩ q (.p .a) l):=.of rfl rfl λh ro R=>by
 show Zx EM false (Tryz.a262 _) _ _ _ _;refine z1 ?_;intros;exact⟨rfl,rfl,(_::_::R),⟨_,_,kS.p .a rfl,rfl,rfl⟩,HQ⟩
instance VD:NC EM (zF 376) [.agg [I j0,I j1,I j2,I j3,I j4],I i] (0<=i/\i<j4)
  (λq l=>pc ⟨j0,j1,⟨j2,j3,j4⟩⟩ i q .l l):=.of rfl rfl λh ro R=>by
 show Zx EM false (Tryz.a376 _) _ _ _ _;refine z1 ?_;intros;exact⟨rfl,rfl,(_::_::R),⟨_,_,pc.l h (.a h),rfl,rfl⟩,HQ⟩
instance Ys:NC EM (zF 384) [.agg [I j0,I j1,I j2,I j3,I j4],I i,U k] (0<=i/\i<j4)
  (λq l=>xa ⟨j0,j1,⟨j2,j3,j4⟩⟩ i k q .a l):=.of rfl rfl λh ro R=>by
 show Zx EM false (Tryz.a384 _) _ _ _ _;refine z1 ?_;intros;exact⟨rfl,rfl,(_::R),⟨_,_,xa.a h,rfl,rfl⟩,HQ⟩
instance St:NC EM (zF 399) [.agg [I j0,I j1,I j2,I j3,I j4],I i] (0<=i/\i<j4)
  (λq l=>ji ⟨j0,j1,⟨j2,j3,j4⟩⟩ i q .a l):=.of rfl rfl λh ro R=>by
 show Zx EM false (Tryz.a399 _) _ _ _ _;refine z1 ?_;intros;exact⟨rfl,rfl,(_::R),⟨_,_,ji.a h,rfl,rfl⟩,HQ⟩
instance VE [VC EM (zF 491) [I fr,I to] True (B true)]:NC EM (zF 390) [.agg [I j0,I j1,I j2,I j3,I j4],I i,I fr,I to,I c] ((0<=i/\i<j4)/\0<=c/\c<64)
  (λq l=>rv ⟨j0,j1,⟨j2,j3,j4⟩⟩ i fr to c q .l l):=.of rfl rfl λ⟨h,hc⟩ ro R=>by
 show Zx EM false (Tryz.a390 _) _ _ _ _;refine z1 ?_;intros;exact⟨rfl,rfl,(_::R),⟨_,_,rv.l h,rfl,rfl⟩,HQ⟩
instance Sv:NC EM (zF 393) [.agg [I r0,I r1,I r2,I r3]] (Rn.ok ⟨r0,r1,r2,r3⟩)
  (λq l=>j_ ⟨r0,r1,r2,r3⟩ q .a l):=.of rfl rfl λh ro R=>by
 unfold Rn.ok at h;show Zx EM false (Tryz.a393 _) _ _ _ _;refine z1 ?_;intros;exact⟨rfl,rfl,(_::R),⟨_,_,j_.a,rfl,rfl⟩,HQ⟩
instance VF:NC EM (zF 289) [.agg [I r0,I r1,I r2,I r3],U h] (Rn.ok ⟨r0,r1,r2,r3⟩/\Me.aC h)
  (λq l=>ru ⟨r0,r1,r2,r3⟩ h q .a l):=.of rfl rfl λ⟨h,hw⟩ ro R=>by
 unfold Rn.ok at h;show Zx EM false (Tryz.a289 _) _ _ _ _;refine z1 ?_;intros;exact⟨rfl,rfl,(_::R),⟨_,_,ru.a hw,rfl,rfl⟩,HQ⟩
end
def Xc.cs (x:Xc):List AV:=x.t.cs++[I x.ct,I x.many,I x.j.bE,I x.j.keys,I x.j.f.top,I x.j.f.links,I x.j.f.size,I x.iZ,I x.aq,I x.room,I x.r.runs,I x.r.flags,I x.r.ad,I x.own,I x.seq]
def Xc.row (x:Xc)(k c:Int)(sv uv:AV)(i key aw:Int)(none:Bool)(cR err:Int):List AV:=x.cs++[Ns,I k,I c,sv,uv,I i,U key,U aw,B none,U cR,I err]
inductive Cq:AV->List (List AV)->List Own->Prop
 |n:Cq Ns [] []
 |s {v L}(h1:odd v=false)(h2:v.cells=[v])(h3:AV.beq v v=true):Cq v L [.sl v 1 L]
instance VG {L v}{i:Int}:Mb (L++[[v]]) i (i=L.length) v where
 ok:=λh=>⟨L.length,am,ac⟩
instance z52:cK 91 where
inductive oP (x:Xc)(k c:Int)(q:Nat)(sv uv:AV)(L:List (List AV))(i key aw:Int)(none:Bool)(cE err:Int)(xb:Int->List Own->Prop)(AY:Int->AV->List (List AV)->AV->Int->Int->Int->Bool->Int->List Own->Prop):AV->List Own->Prop
 |f {b:Int}{A}(h:xb b A):oP x k c q sv uv L i key aw none cE err xb AY (.ed [B false,U b]) (.obj q (.row (x.row k c sv uv i key aw none cE err))::.sl sv 1 L::A)
 |t {b i' aQ aR aP:Int}{xN:Bool}{aT cq L' ga A}(hs:Cq aT L' ga)(h:AY b aT L' cq i' aQ aR xN aP A):oP x k c q sv uv L i key aw none cE err xb AY (.ed [B true,U b]) (.obj q (.row (x.row k c aT cq i' aQ aR xN cE aP))::(ga++A))
inductive Yt (x:Xc)(k c:Int)(q:Nat)(KB uv:AV)(L:List (List AV))(i key aw:Int)(none:Bool)(err:Int)(xb:Int->List Own->Prop)(AY:Int->AV->List (List AV)->AV->Int->Int->Int->Bool->Int->List Own->Prop):AV->List Own->Prop
 |f {b:Int}{sv A}(h1:odd sv=false)(h2:sv.cells=[sv])(h3:AV.beq sv sv=true)(h:xb b A):Yt x k c q KB uv L i key aw none err xb AY (B false) (.obj q (.row (x.row k c sv uv i key aw none b err))::.sl sv 1 (L++[[KB]])::A)
 |t {b i' aQ aR aP:Int}{xN:Bool}{aT cq L' ga A}(hs:Cq aT L' ga)(h:AY b aT L' cq i' aQ aR xN aP A):Yt x k c q KB uv L i key aw none err xb AY (B (decide (L'.length=0))) (.obj q (.row (x.row k c aT cq i' aQ aR xN b aP))::(ga++A))
section
variable{B0 S:AH}{W:List Nat}{A:List Own}{ro:List aI}{m q:Nat}{x:Xc}{k c i key aw cE err:Int}{none:Bool}{sv uv:AV}{nf:Nat}{fc:List AV}{L:List (List AV)}
 {xb:Int->List Own->Prop} {AY:Int->AV->List (List AV)->AV->Int->Int->Int->Bool->Int->List Own->Prop}
theorem KC (hL:L.length<=64)
  (hc:∀aT:AV,odd aT=false->aT.cells=[aT]->AV.beq aT aT=true->∀B W S,Cx B W S (.obj q (.row (x.row k c aT uv i key aw none cE err))::.sl aT 1 L::A) ro->
    aN EM (.fn (.func nf) [] fc) [.ptr m 0] S λu S'=>∃ab,oP x k c q aT uv L i key aw none cE err xb AY u ab/\Cx B W S' ab ro)
  (H:Cx B0 W S (.obj q (.row (x.row k c sv uv i key aw none cE err))::.sl sv 1 (L++[[AV.fn (.func nf) [] fc]])::A) ro):
  aN EM (zF 20) [.ptr q 0,.ptr m 0] S λu S'=>∃ab,Yt x k c q (.fn (.func nf) [] fc) uv L i key aw none err xb AY u ab/\Cx B0 W S' ab ro:=by
 simp only[Xc.row,Xc.cs,Tw.cs,Lb.cs,Ar.cs,Ep.cs,lA,lB] at H;refine Vx.fm H rfl ?_;have N3:(L++[[AV.fn (.func nf) [] fc]]).length=L.length+1:=ac;have WC:Int.ofNat (L++[[AV.fn (.func nf) [] fc]]).length=(L.length:Int)+1:=by rw[N3];rfl
 have na:Int.ofNat (L++[[AV.fn (.func nf) [] fc]]).length-1=Int.ofNat L.length:=by rw[WC];show _=(L.length:Int);omega
 refine z1 ?_;intros;rw[na];refine(Zx.R8 (a:=L.length) (L':=L) (.tl .hd) (by rw[N3];simp[Nat.ble_eq]) ac (λv'=>.tl .hd) λsv1 h1 h2 h3=>?_).ok;refine z1 ?_;refine Vx.spec (hc sv1 h1 h2 h3) λu ab h=>?_;haveI:dQ:=⟨⟩;cases h with
 |@f b A' hA=>
  simp only[Xc.row,Xc.cs,Tw.cs,Lb.cs,Ar.cs,Ep.cs,lA,lB];refine z3 ?_ ?_ ?_<;>intros
  .simp;omega
  .exfalso;have h0:=(by assumption:Int.ofNat (L++List.map (λa=>[a]) [AV.fn (Fn.func nf) [] fc]).length=0);simp at h0;omega
  .exact⟨rfl,rfl,_,.f be be be hA,HQ⟩
 |@t b i' aQ aR aP xN aT cq L' ga A' hs hA=>
  simp only[Xc.row,Xc.cs,Tw.cs,Lb.cs,Ar.cs,Ep.cs,lA,lB];cases hs with
  |n=>
   refine z1 ?_;exact⟨rfl,rfl,_,.t .n hA,HQ⟩
  |s g1 g2 g3=>
   refine z2 ?_ ?_<;>intros
   .next h0=>
    have e:cG.B true=cG.B (decide (L'.length=0)):=by rw[decide_eq_true (by have:(L'.length:Int)=0:=h0;omega)]
    rw[e];exact⟨rfl,rfl,_,.t (.s g1 g2 g3) hA,HQ⟩
   .next h0=>
    have e:cG.B false=cG.B (decide (L'.length=0)):=by rw[decide_eq_false (λh=>h0 (by show(L'.length:Int)=0;omega))]
    rw[e];exact⟨rfl,rfl,_,.t (.s g1 g2 g3) hA,HQ⟩
end
def dT (b1 b2 b3 b4:Nat)(mk now th:AV)(made:Bool):List Own:=[.obj b1 (.row [B made]),.obj b2 (.row [mk]),.obj b3 (.row [now]),.obj b4 (.row [th])]
def zx {α:Type}(P:α->List Own->Prop)(ov:α->Bool)(cR:Int)(st:α×Me)(mem:Me->List Own)(R:List Own):Int->List Own->Prop:=
 λb A=>b=cR/\ov st.1=false/\∃lo,P st.1 lo/\A=lo++(mem st.2++R)
def uh {α:Type}(ov:α->Bool)(cR:Int)(st:α×Me)(mem:Me->List Own)(R:List Own)(E:α->AV->List (List AV)->AV->Int->Int->Int->Bool->Int->Prop):Int->AV->List (List AV)->AV->Int->Int->Int->Bool->Int->List Own->Prop:=
 λb aT L' cq i' aQ aR da aP A=>b=cR/\ov st.1=true/\E st.1 aT L' cq i' aQ aR da aP/\A=mem st.2++R
def Qe {α:Type}(sv:AV)(L:List (List AV))(uv:AV)(i key aw:Int)(nn:Bool)(err:Int):α->AV->List (List AV)->AV->Int->Int->Int->Bool->Int->Prop:=
 λ_ aT L' cq i' aQ aR da aP=>aT=sv/\L'=L/\cq=uv/\i'=i/\aQ=key/\aR=aw/\da=nn/\aP=err
section
variable{α:Type}{x:Xc}{k c i key aw cE err b:Int}{q:Nat}{nn:Bool}{sv uv:AV}{L:List (List AV)}{P:α->List Own->Prop}{ov:α->Bool}{st:α×Me}{mem:Me->List Own}{R own:List Own}{ro:List aI}
theorem bV {AY a' y' jx}(e:st=(a',y'))(hP:P a' jx)(ho:ov a'=false)(hs:Hs own (.obj q (.row (x.row k c sv uv i key aw nn cE err))::.sl sv 1 L::(jx++(mem y'++R)))):
  kx ro (oP x k c q sv uv L i key aw nn cE err (zx P ov b st mem R) AY) .ret [B false,U b] own ro:=by
 subst e;exact⟨rfl,rfl,_,.f ⟨rfl,ho,jx,hP,rfl⟩,hs⟩
theorem aJ {xb E a' y' aT cq L'}{i' aQ aR aP:Int}{da:Bool}{ga}(e:st=(a',y'))(ho:ov a'=true)(hk:Cq aT L' ga)(hE:E a' aT L' cq i' aQ aR da aP)
  (hs:Hs own (.obj q (.row (x.row k c aT cq i' aQ aR da cE aP))::(ga++(mem y'++R)))):
  kx ro (oP x k c q sv uv L i key aw nn cE err xb (uh ov b st mem R E)) .ret [B true,U b] own ro:=by
 subst e;exact⟨rfl,rfl,_,.t hk ⟨rfl,ho,hE,rfl⟩,hs⟩
end
theorem Qe.rfl {α:Type}{a:α}{sv:AV}{L:List (List AV)}{uv:AV}{i key aw:Int}{nn:Bool}{err:Int}:Qe sv L uv i key aw nn err a sv L uv i key aw nn err:=⟨Eq.refl _,Eq.refl _,Eq.refl _,Eq.refl _,Eq.refl _,Eq.refl _,Eq.refl _,Eq.refl _⟩
instance Yu:nj EM 472 "Step" 702:=⟨λ_=>by kernel_rfl⟩
instance Yv:w5 EM 439 472:=⟨λ_=>by kernel_rfl⟩
instance z53:cK 389 where
inductive l_ (fr to:Int)(q:Nat):List AV->List Own->Prop
 |mk {b1 b2 b3 b4 v1 v2 v3:Nat}:l_ fr to q [.ptr b1 0,.ptr b2 0,.ptr b3 0,.ptr b4 0] (dT b1 b2 b3 b4 (.fn (.func 389) [] [.ptr v1 0,.ptr v2 0,.ptr v3 0]) Np Nf false++[.obj v1 (.row [.ptr q 0]),.obj v2 (.row [I fr]),.obj v3 (.row [I to])])
inductive om (x:Xc)(i fr to c:Int)(q:Nat)(cl:List AV):bg->List Own->Prop
 |f {lo}(hi:0<=i/\i<x.j.f.size)(h:l_ fr to q cl lo):om x i fr to c q cl .l lo
 |r {b1 b2 b3 b4 qm:Nat}{mk σ lm}(dY:cl=[.ptr b1 0,.ptr b2 0,.ptr b3 0,.ptr b4 0])(h:rv x.j i fr to c qm σ lm)(ho:σ.over=false):om x i fr to c q cl σ (dT b1 b2 b3 b4 mk (.ptr qm 0) Nf true++lm)
section
variable{B0 S:AH}{W:List Nat}{R lo:List Own}{ro:List aI}{m bl q:Nat}{y:Me}{rest cl:List AV}{x:Xc}{k c i key aw cE err fr to:Int}{nn:Bool}{sv uv:AV}{L:List (List AV)}
theorem oQ {o1 own:List Own}(e:o1=own:=by conv=>lhs;simp only[dT,Xc.row,Xc.cs,Tw.cs,Lb.cs,Ar.cs,Ep.cs,lA,lB,lC]):o1=own:=e
theorem ma [VC EM (zF 491) [I fr,I to] True (B true)]{σ:bg}(h1:odd sv=false)(h2:sv.cells=[sv])(h3:AV.beq sv sv=true)(hs:x.j.ok)(hf:0<=fr/\fr<6)(ht:0<=to/\to<6)(hc:0<=c/\c<64)(hy:y.gd)(h:om x i fr to c q cl σ lo)
  (H:Cx B0 W S (.obj q (.row (x.row k c sv uv i key aw nn cE err))::.sl sv 1 L::(lo++(ae m bl y rest++R))) ro):
  aN EM (.fn (.func 490) [] cl) [.ptr m 0] S λu S'=>∃ab,oP x k c q sv uv L i key aw nn cE err (zx (om x i fr to c q cl) bg.over 0 (σ.step x.j i fr to c y) (ae m bl · rest) R) (uh bg.over 0 (σ.step x.j i fr to c y) (ae m bl · rest) R (Qe sv L uv i key aw nn err)) u ab/\Cx B0 W S' ab ro:=by
 cases h with
 |f hi h=>
  cases h with
  |@mk b1 b2 b3 b4 v1 v2 v3=>
   refine y1 H oQ ?_;intros;next qm lm hm=>
   refine Vx.bQ (own:=.obj q _::.sl sv 1 _::.obj b1 _::.obj b2 _::.obj b3 _::.obj b4 _::(lm++(ae m bl y rest++R))) HQ ?_;refine Vx.cz (A:=[_,_,_,_,_,_]) (λB W S H=>AK hs hf ht hc hy hm H) λa' x' l' e hl=>?_;cases ho:a'.over
   .refine z1 ?_;exact bV e (.r rfl hl ho) ho HQ
   .refine z1 ?_;exact aJ e ho (.s h1 h2 h3) .rfl HQ
 |@r b1 b2 b3 b4 qm mk σ lm dY h ho=>
  subst dY;refine y1 H oQ ?_;refine Vx.cz (A:=[_,_,_,_,_,_]) (λB W S H=>AK hs hf ht hc hy h H) λa' x' l' e hl=>?_;cases ho:a'.over
  .refine z1 ?_;exact bV e (.r rfl hl ho) ho HQ
  .refine z1 ?_;exact aJ e ho (.s h1 h2 h3) .rfl HQ
end
instance Yw:nj EM 450 "Step" 700:=⟨λ_=>by kernel_rfl⟩
instance Yx:w5 EM 439 450:=⟨λ_=>by kernel_rfl⟩
instance z54:cK 375 where
inductive AZ (q:Nat):List AV->List Own->Prop
 |mk {b1 b2 b3 b4 v1:Nat}:AZ q [.ptr b1 0,.ptr b2 0,.ptr b3 0,.ptr b4 0] (dT b1 b2 b3 b4 (.fn (.func 375) [] [.ptr v1 0]) Np Nf false++[.obj v1 (.row [.ptr q 0])])
inductive vP (x:Xc)(i:Int)(q:Nat)(cl:List AV):cW->List Own->Prop
 |f {lo}(hi:0<=i/\i<x.j.f.size)(h:AZ q cl lo):vP x i q cl .l lo
 |r {b1 b2 b3 b4 qm:Nat}{mk σ lm}(dY:cl=[.ptr b1 0,.ptr b2 0,.ptr b3 0,.ptr b4 0])(h:pc x.j i qm σ lm)(ho:σ.over=false):vP x i q cl σ (dT b1 b2 b3 b4 mk (.ptr qm 0) Nf true++lm)
section
variable{B0 S:AH}{W:List Nat}{R lo:List Own}{ro:List aI}{m bl q vx:Nat}{y:Me}{rest cl:List AV}{x:Xc}{k c i key aw cE err:Int}{nn:Bool}{sv uv:AV}{L:List (List AV)}
theorem A0 {σ}(h1:odd sv=false)(h2:sv.cells=[sv])(h3:AV.beq sv sv=true)(hs:x.j.ok)(hy:y.gd)(h:vP x i q cl σ lo)
  (H:Cx B0 W S (.obj q (.row (x.row k c sv uv i key aw nn cE err))::.sl sv 1 L::(lo++(ae m bl y rest++R))) ro):
  aN EM (.fn (.func 481) [] cl) [.ptr m 0] S λu S'=>∃ab,oP x k c q sv uv L i key aw nn cE err (zx (vP x i q cl) cW.over 0 (σ.step x.j i y) (ae m bl · rest) R) (uh cW.over 0 (σ.step x.j i y) (ae m bl · rest) R (Qe sv L uv i key aw nn err)) u ab/\Cx B0 W S' ab ro:=by
 cases h with
 |f hi h=>
  cases h with
  |@mk b1 b2 b3 b4 v1=>
   refine y1 H oQ ?_;intros;next qm lm hm=>
   refine Vx.bQ (own:=.obj q _::.sl sv 1 _::.obj b1 _::.obj b2 _::.obj b3 _::.obj b4 _::(lm++(ae m bl y rest++R))) HQ ?_;refine Vx.cz (A:=[_,_,_,_,_,_]) (λB W S H=>AL hs hy hm H) λa' x' l' e hl=>?_
   skip
   cases ho:a'.over
   .refine z1 ?_;exact bV e (.r rfl hl ho) ho HQ
   .refine z1 ?_;exact aJ e ho (.s h1 h2 h3) .rfl HQ
 |@r b1 b2 b3 b4 qm mk σ lm dY h ho=>
  subst dY;refine y1 H oQ ?_;refine Vx.cz (A:=[_,_,_,_,_,_]) (λB W S H=>AL hs hy h H) λa' x' l' e hl=>?_
  skip
  cases ho:a'.over
  .refine z1 ?_;exact bV e (.r rfl hl ho) ho HQ
  .refine z1 ?_;exact aJ e ho (.s h1 h2 h3) .rfl HQ
end
instance Yy:nj EM 464 "Step" 701:=⟨λ_=>by kernel_rfl⟩
instance Yz:w5 EM 439 464:=⟨λ_=>by kernel_rfl⟩
instance z55:cK 272 where
instance z56:cK 383 where
inductive DN (vx:Nat)(q:Nat):List AV->List Own->Prop
 |mk {b1 b2 b3 b4 v1 v2:Nat}:DN vx q [.ptr b1 0,.ptr b2 0,.ptr b3 0,.ptr b4 0] (dT b1 b2 b3 b4 (.fn (.func 383) [] [.ptr v1 0,.ptr v2 0]) Np Nf false++[.obj v1 (.row [.ptr q 0]),.obj v2 (.row [.fn (.func 272) [] [.ptr vx 0]])])
inductive xO (x:Xc)(i key:Int)(vx:Nat)(q:Nat)(cl:List AV):bF->List Own->Prop
 |f {lo}(hi:0<=i/\i<x.j.f.size)(h:DN vx q cl lo):xO x i key vx q cl .a lo
 |r {b1 b2 b3 b4 qm:Nat}{mk σ lm}(dY:cl=[.ptr b1 0,.ptr b2 0,.ptr b3 0,.ptr b4 0])(h:xa x.j i key qm σ lm)(ho:σ.over=false):xO x i key vx q cl σ (dT b1 b2 b3 b4 mk (.ptr qm 0) Nf true++lm)
section
variable{B0 S:AH}{W:List Nat}{R lo:List Own}{ro:List aI}{m bl q vx:Nat}{y:Me}{rest cl:List AV}{x:Xc}{k c i key aw cE err:Int}{nn:Bool}{sv uv:AV}{L:List (List AV)}
theorem H8 {σ}(h1:odd sv=false)(h2:sv.cells=[sv])(h3:AV.beq sv sv=true)(hs:x.j.ok)(hy:y.gd)(h:xO x i key vx q cl σ lo)
  (H:Cx B0 W S (.obj q (.row (x.row k c sv uv i key aw nn cE err))::.sl sv 1 L::(lo++(ae m bl y rest++(.obj vx (.row [.ptr q 0])::R)))) ro):
  aN EM (.fn (.func 486) [] cl) [.ptr m 0] S λu S'=>∃ab,oP x k c q sv uv L i key aw nn cE err (zx (xO x i key vx q cl) bF.over 0 (σ.step x.j i key y) (ae m bl · rest) (.obj vx (.row [.ptr q 0])::R)) (uh bF.over 0 (σ.step x.j i key y) (ae m bl · rest) (.obj vx (.row [.ptr q 0])::R) (Qe sv L uv i key aw nn err)) u ab/\Cx B0 W S' ab ro:=by
 cases h with
 |f hi h=>
  cases h with
  |@mk b1 b2 b3 b4 v1 v2=>
   refine y1 H oQ ?_;intros;next qm lm hm=>
   refine Vx.bQ (own:=.obj q _::.sl sv 1 _::.obj b1 _::.obj b2 _::.obj b3 _::.obj b4 _::(lm++(ae m bl y rest++(.obj vx (.row [.ptr q 0])::R)))) HQ ?_;refine Vx.cz (A:=[_,_,_,_,_,_]) (λB W S H=>oO hs hy hm H) λa' x' l' e hl=>?_
   skip
   cases ho:a'.over
   .refine z1 ?_;exact bV e (.r rfl hl ho) ho HQ
   .refine z1 ?_;exact aJ e ho (.s h1 h2 h3) .rfl HQ
 |@r b1 b2 b3 b4 qm mk σ lm dY h ho=>
  subst dY;refine y1 H oQ ?_;refine Vx.cz (A:=[_,_,_,_,_,_]) (λB W S H=>oO hs hy h H) λa' x' l' e hl=>?_
  skip
  cases ho:a'.over
  .refine z1 ?_;exact bV e (.r rfl hl ho) ho HQ
  .refine z1 ?_;exact aJ e ho (.s h1 h2 h3) .rfl HQ
end
instance z57:cK 424 where
inductive A1 (vx:Nat)(q:Nat):List AV->List Own->Prop
 |mk {b1 b2 b3 b4 v1 v2:Nat}:A1 vx q [.ptr b1 0,.ptr b2 0,.ptr b3 0,.ptr b4 0] (dT b1 b2 b3 b4 (.fn (.func 383) [] [.ptr v1 0,.ptr v2 0]) Np Nf false++[.obj v1 (.row [.ptr q 0]),.obj v2 (.row [.fn (.func 424) [] [.ptr vx 0]])])
inductive xP (x:Xc)(i key:Int)(vx:Nat)(q:Nat)(cl:List AV):bF->List Own->Prop
 |f {lo}(hi:0<=i/\i<x.j.f.size)(h:A1 vx q cl lo):xP x i key vx q cl .a lo
 |r {b1 b2 b3 b4 qm:Nat}{mk σ lm}(dY:cl=[.ptr b1 0,.ptr b2 0,.ptr b3 0,.ptr b4 0])(h:xa x.j i key qm σ lm)(ho:σ.over=false):xP x i key vx q cl σ (dT b1 b2 b3 b4 mk (.ptr qm 0) Nf true++lm)
section
variable{B0 S:AH}{W:List Nat}{R lo:List Own}{ro:List aI}{m bl q vx:Nat}{y:Me}{rest cl:List AV}{x:Xc}{k c i key aw cE err:Int}{nn:Bool}{sv uv:AV}{L:List (List AV)}
theorem H9 {σ}(h1:odd sv=false)(h2:sv.cells=[sv])(h3:AV.beq sv sv=true)(hs:x.j.ok)(hy:y.gd)(h:xP x i key vx q cl σ lo)
  (H:Cx B0 W S (.obj q (.row (x.row k c sv uv i key aw nn cE err))::.sl sv 1 L::(lo++(ae m bl y rest++(.obj vx (.row [.ptr q 0])::R)))) ro):
  aN EM (.fn (.func 486) [] cl) [.ptr m 0] S λu S'=>∃ab,oP x k c q sv uv L i key aw nn cE err (zx (xP x i key vx q cl) bF.over 0 (σ.step x.j i key y) (ae m bl · rest) (.obj vx (.row [.ptr q 0])::R)) (uh bF.over 0 (σ.step x.j i key y) (ae m bl · rest) (.obj vx (.row [.ptr q 0])::R) (Qe sv L uv i key aw nn err)) u ab/\Cx B0 W S' ab ro:=by
 cases h with
 |f hi h=>
  cases h with
  |@mk b1 b2 b3 b4 v1 v2=>
   refine y1 H oQ ?_;intros;next qm lm hm=>
   refine Vx.bQ (own:=.obj q _::.sl sv 1 _::.obj b1 _::.obj b2 _::.obj b3 _::.obj b4 _::(lm++(ae m bl y rest++(.obj vx (.row [.ptr q 0])::R)))) HQ ?_;refine Vx.cz (A:=[_,_,_,_,_,_]) (λB W S H=>oO hs hy hm H) λa' x' l' e hl=>?_
   skip
   cases ho:a'.over
   .refine z1 ?_;exact bV e (.r rfl hl ho) ho HQ
   .refine z1 ?_;exact aJ e ho (.s h1 h2 h3) .rfl HQ
 |@r b1 b2 b3 b4 qm mk σ lm dY h ho=>
  subst dY;refine y1 H oQ ?_;refine Vx.cz (A:=[_,_,_,_,_,_]) (λB W S H=>oO hs hy h H) λa' x' l' e hl=>?_
  skip
  cases ho:a'.over
  .refine z1 ?_;exact bV e (.r rfl hl ho) ho HQ
  .refine z1 ?_;exact aJ e ho (.s h1 h2 h3) .rfl HQ
end
instance z58:cK 425 where
inductive A3 (vx:Nat)(q:Nat):List AV->List Own->Prop
 |mk {b1 b2 b3 b4 v1 v2:Nat}:A3 vx q [.ptr b1 0,.ptr b2 0,.ptr b3 0,.ptr b4 0] (dT b1 b2 b3 b4 (.fn (.func 383) [] [.ptr v1 0,.ptr v2 0]) Np Nf false++[.obj v1 (.row [.ptr q 0]),.obj v2 (.row [.fn (.func 425) [] [.ptr vx 0]])])
inductive xQ (x:Xc)(i key:Int)(vx:Nat)(q:Nat)(cl:List AV):bF->List Own->Prop
 |f {lo}(hi:0<=i/\i<x.j.f.size)(h:A3 vx q cl lo):xQ x i key vx q cl .a lo
 |r {b1 b2 b3 b4 qm:Nat}{mk σ lm}(dY:cl=[.ptr b1 0,.ptr b2 0,.ptr b3 0,.ptr b4 0])(h:xa x.j i ((key+1)%18446744073709551616) qm σ lm)(ho:σ.over=false):xQ x i key vx q cl σ (dT b1 b2 b3 b4 mk (.ptr qm 0) Nf true++lm)
section
variable{B0 S:AH}{W:List Nat}{R lo:List Own}{ro:List aI}{m bl q vx:Nat}{y:Me}{rest cl:List AV}{x:Xc}{k c i key aw cE err:Int}{nn:Bool}{sv uv:AV}{L:List (List AV)}
theorem H_ {σ}(h1:odd sv=false)(h2:sv.cells=[sv])(h3:AV.beq sv sv=true)(hs:x.j.ok)(hy:y.gd)(h:xQ x i key vx q cl σ lo)
  (H:Cx B0 W S (.obj q (.row (x.row k c sv uv i key aw nn cE err))::.sl sv 1 L::(lo++(ae m bl y rest++(.obj vx (.row [.ptr q 0])::R)))) ro):
  aN EM (.fn (.func 486) [] cl) [.ptr m 0] S λu S'=>∃ab,oP x k c q sv uv L i key aw nn cE err (zx (xQ x i key vx q cl) bF.over 0 (σ.step x.j i ((key+1)%18446744073709551616) y) (ae m bl · rest) (.obj vx (.row [.ptr q 0])::R)) (uh bF.over 0 (σ.step x.j i ((key+1)%18446744073709551616) y) (ae m bl · rest) (.obj vx (.row [.ptr q 0])::R) (Qe sv L uv i key aw nn err)) u ab/\Cx B0 W S' ab ro:=by
 cases h with
 |f hi h=>
  cases h with
  |@mk b1 b2 b3 b4 v1 v2=>
   refine y1 H oQ ?_;intros;next qm lm hm=>
   refine Vx.bQ (own:=.obj q _::.sl sv 1 _::.obj b1 _::.obj b2 _::.obj b3 _::.obj b4 _::(lm++(ae m bl y rest++(.obj vx (.row [.ptr q 0])::R)))) HQ ?_;refine Vx.cz (A:=[_,_,_,_,_,_]) (λB W S H=>oO hs hy hm H) λa' x' l' e hl=>?_
   skip
   cases ho:a'.over
   .refine z1 ?_;exact bV e (.r rfl hl ho) ho HQ
   .refine z1 ?_;exact aJ e ho (.s h1 h2 h3) .rfl HQ
 |@r b1 b2 b3 b4 qm mk σ lm dY h ho=>
  subst dY;refine y1 H oQ ?_;refine Vx.cz (A:=[_,_,_,_,_,_]) (λB W S H=>oO hs hy h H) λa' x' l' e hl=>?_
  skip
  cases ho:a'.over
  .refine z1 ?_;exact bV e (.r rfl hl ho) ho HQ
  .refine z1 ?_;exact aJ e ho (.s h1 h2 h3) .rfl HQ
end
instance YA:nj EM 375 "Step" 697:=⟨λ_=>by kernel_rfl⟩
instance YB:w5 EM 439 375:=⟨λ_=>by kernel_rfl⟩
instance z59:cK 288 where
section
variable{B0 S:AH}{W:List Nat}{R lo:List Own}{ro:List aI}{m bl q vx:Nat}{y:Me}{rest cl:List AV}{x:Xc}{k c i key aw cE err:Int}{nn:Bool}{sv uv:AV}{L:List (List AV)}
end
theorem rA.xc {t r}{c:Int}{q:Nat}{b:Int}{σ lo}(h:rA t r c q b σ lo):∃bh left look key words dy flag done er lf,lo=.obj q (.row (r.rz bh left look key words dy flag b done er))::lf:=by
 cases h<;>exact⟨_,_,_,_,_,_,_,_,_,_,rfl⟩
instance aa8:nj EM 497 "Step" 709:=⟨λ_=>by kernel_rfl⟩
instance aa9:Kt EM 439 497:=⟨λ_=>by kernel_rfl⟩
instance aba:nj EM 497 "By" 708:=⟨λ_=>by kernel_rfl⟩
instance z60:cK 708 where
instance z61:cK 412 where
inductive A4 (q:Nat):List AV->List Own->Prop
 |mk {b1 b2 b3 b4 v1:Nat}:A4 q [.ptr b1 0,.ptr b2 0,.ptr b3 0,.ptr b4 0] (dT b1 b2 b3 b4 (.fn (.func 412) [] [.ptr v1 0]) Np Nf false++[.obj v1 (.row [.ptr q 0])])
inductive E2 (x:Xc)(c:Int)(q:Nat)(cl:List AV):cS->List Own->Prop
 |f {lo}(h:A4 q cl lo):E2 x c q cl (.k (.p .a)) lo
 |r {b1 b2 b3 b4 qm:Nat}{b:Int}{mk σ lm}(dY:cl=[.ptr b1 0,.ptr b2 0,.ptr b3 0,.ptr b4 0])(h:rA x.t x.r c qm b σ lm)(ho:σ.over=false):E2 x c q cl σ (dT b1 b2 b3 b4 mk (.ptr qm 0) Nf true++lm)
section
variable{B0 S:AH}{W:List Nat}{R lo:List Own}{ro:List aI}{m bl q vx:Nat}{y:Me}{rest cl:List AV}{x:Xc}{k c i key aw cE err:Int}{nn:Bool}{sv uv:AV}{L:List (List AV)}
theorem KE {σ}(h1:odd sv=false)(h2:sv.cells=[sv])(h3:AV.beq sv sv=true)(hs:x.t.ok)(hr:x.r.ok)(hc:0<=c/\c<x.t.l.e.ad)(hy:y.gd)(h:E2 x c q cl σ lo)
  (H:Cx B0 W S (.obj q (.row (x.row k c sv uv i key aw nn cE err))::.sl sv 1 L::(lo++(ae m bl y rest++R))) ro):
  aN EM (.fn (.func 506) [] cl) [.ptr m 0] S λu S'=>∃ab,oP x k c q sv uv L i key aw nn cE err (zx (E2 x c q cl) cS.over σ.cR (σ.step x.t x.r c y) (ae m bl · rest) R) (uh cS.over σ.cR (σ.step x.t x.r c y) (ae m bl · rest) R (Qe sv L uv i key aw nn err)) u ab/\Cx B0 W S' ab ro:=by
 have N4:((0<=x.t.nd/\x.t.nd<4096)/\(0<=x.t.hd/\x.t.hd<4096)/\(1<=x.t.ht/\x.t.ht<=4)/\1<=x.t.l.a.f.size/\x.t.l.a.f.size<=128)/\(0<=c/\c<x.t.l.e.ad)/\1<=x.r.ad/\x.r.ad<=64:=by have bt:=hs;have pD:=hr;unfold Tw.ok Lb.ok Ar.ok Sk.ok at bt;unfold Rs.ok at pD;omega
 cases h with
 |f h=>
  cases h with
  |@mk b1 b2 b3 b4 v1=>
   refine y1 H oQ ?_;intros;next qm lm hm=>
   refine Vx.bQ (own:=.obj q _::.sl sv 1 _::.obj b1 _::.obj b2 _::.obj b3 _::.obj b4 _::(lm++(ae m bl y rest++R))) HQ ?_;refine Vx.cz (A:=[_,_,_,_,_,_]) (λB W S H=>DM hs hr hc hy (by first|assumption|rfl) hm H) λa' x' l' e hl=>?_;obtain⟨bh,left,look,YC,words,dy,flag,done,er,lf,rfl⟩:=hl.xc;cases ho:a'.over
   .refine z1 ?_;exact bV e (.r rfl hl ho) ho HQ
   .refine z1 ?_;exact aJ e ho (.s h1 h2 h3) .rfl HQ
 |@r b1 b2 b3 b4 qm b mk σ lm dY h ho=>
  subst dY;refine y1 H oQ ?_;refine Vx.cz (A:=[_,_,_,_,_,_]) (λB W S H=>DM hs hr hc hy (by first|assumption|rfl) h H) λa' x' l' e hl=>?_;obtain⟨bh,left,look,YC,words,dy,flag,done,er,lf,rfl⟩:=hl.xc;cases ho:a'.over
  .refine z1 ?_;exact bV e (.r rfl hl ho) ho HQ
  .refine z1 ?_;exact aJ e ho (.s h1 h2 h3) .rfl HQ
end
end Go.cG
