/- Contracts. Conditions: in each theorem. -/
import Derived.Test.YtdfgboafnklioaaGreatM13
set_option linter.all false
set_option maxRecDepth 100000
set_option maxHeartbeats 4000000
namespace Go.cI
open Go.Proofs
instance z51:cA 482 where
section
variable{f n a e t j0 j1 j2 j3 j4 i fr to c k h r0 r1 r2 r3:Int}
instance Vo:NC EM (zF 256) [.agg [I f,I n],I a,I e,I t] ((0<=f/\f<100000)/\(0<=a/\a<n/\n<100000)/\(0<=e/\e<=1099511627776)/\0<=t/\t<=1099511627776)
  (λq l=>nD (f+a) e t q .a l):=.of rfl rfl λh ro R=>by
 obtain⟨h0,h1,h2,h3⟩:=h;have e1:e%18446744073709551616=e:=am;have e2:t%18446744073709551616=t:=am;show Zx EM false (Tryz.a256 _) _ _ _ _;refine z1 ?_;intros;rw[e1,e2];exact⟨rfl,rfl,(_::R),⟨_,_,nD.a,rfl,rfl⟩,HQ⟩
instance Vp:NC EM (zF 262) [.agg [I j0,I j1,I j2,I j3,I j4]] True
  (λq l=>kf ⟨j0,j1,⟨j2,j3,j4⟩⟩ q (.p .a) l):=.of rfl rfl λh ro R=>by
 show Zx EM false (Tryz.a262 _) _ _ _ _;refine z1 ?_;intros;exact⟨rfl,rfl,(_::_::R),⟨_,_,kf.p .a rfl,rfl,rfl⟩,HQ⟩
instance Vq:NC EM (zF 376) [.agg [I j0,I j1,I j2,I j3,I j4],I i] (0<=i/\i<j4)
  (λq l=>oF ⟨j0,j1,⟨j2,j3,j4⟩⟩ i q .l l):=.of rfl rfl λh ro R=>by
 show Zx EM false (Tryz.a376 _) _ _ _ _;refine z1 ?_;intros;exact⟨rfl,rfl,(_::_::R),⟨_,_,oF.l h (.a h),rfl,rfl⟩,HQ⟩
instance Ye:NC EM (zF 384) [.agg [I j0,I j1,I j2,I j3,I j4],I i,U k] (0<=i/\i<j4)
  (λq l=>wT ⟨j0,j1,⟨j2,j3,j4⟩⟩ i k q .a l):=.of rfl rfl λh ro R=>by
 show Zx EM false (Tryz.a384 _) _ _ _ _;refine z1 ?_;intros;exact⟨rfl,rfl,(_::R),⟨_,_,wT.a h,rfl,rfl⟩,HQ⟩
instance R2:NC EM (zF 399) [.agg [I j0,I j1,I j2,I j3,I j4],I i] (0<=i/\i<j4)
  (λq l=>iL ⟨j0,j1,⟨j2,j3,j4⟩⟩ i q .a l):=.of rfl rfl λh ro R=>by
 show Zx EM false (Tryz.a399 _) _ _ _ _;refine z1 ?_;intros;exact⟨rfl,rfl,(_::R),⟨_,_,iL.a h,rfl,rfl⟩,HQ⟩
instance Vr [VC EM (zF 491) [I fr,I to] True (B true)]:NC EM (zF 390) [.agg [I j0,I j1,I j2,I j3,I j4],I i,I fr,I to,I c] ((0<=i/\i<j4)/\0<=c/\c<64)
  (λq l=>qO ⟨j0,j1,⟨j2,j3,j4⟩⟩ i fr to c q .l l):=.of rfl rfl λ⟨h,hc⟩ ro R=>by
 show Zx EM false (Tryz.a390 _) _ _ _ _;refine z1 ?_;intros;exact⟨rfl,rfl,(_::R),⟨_,_,qO.l h,rfl,rfl⟩,HQ⟩
instance R3:NC EM (zF 393) [.agg [I r0,I r1,I r2,I r3]] (Rn.ok ⟨r0,r1,r2,r3⟩)
  (λq l=>jB ⟨r0,r1,r2,r3⟩ q .a l):=.of rfl rfl λh ro R=>by
 unfold Rn.ok at h;show Zx EM false (Tryz.a393 _) _ _ _ _;refine z1 ?_;intros;exact⟨rfl,rfl,(_::R),⟨_,_,jB.a,rfl,rfl⟩,HQ⟩
instance Vs:NC EM (zF 289) [.agg [I r0,I r1,I r2,I r3],U h] (Rn.ok ⟨r0,r1,r2,r3⟩/\Me.au h)
  (λq l=>qN ⟨r0,r1,r2,r3⟩ h q .a l):=.of rfl rfl λ⟨h,hw⟩ ro R=>by
 unfold Rn.ok at h;show Zx EM false (Tryz.a289 _) _ _ _ _;refine z1 ?_;intros;exact⟨rfl,rfl,(_::R),⟨_,_,qN.a hw,rfl,rfl⟩,HQ⟩
end
def Xc.cs (x:Xc):List AV:=x.t.cs++[I x.b5,I x.many,I x.j.bs,I x.j.keys,I x.j.f.top,I x.j.f.eI,I x.j.f.size,I x.fZ,I x.aI,I x.room,I x.r.runs,I x.r.flags,I x.r.ae,I x.own,I x.seq]
def Xc.row (x:Xc)(k c:Int)(sv uv:AV)(i key aw:Int)(none:Bool)(cG err:Int):List AV:=x.cs++[Ns,I k,I c,sv,uv,I i,U key,U aw,B none,U cG,I err]
inductive Cn:AV->List (List AV)->List Own->Prop
 |n:Cn Ns [] []
 |s {v L}(h1:odd v=false)(h2:v.cells=[v])(h3:AV.beq v v=true):Cn v L [.sl v 1 L]
instance Vt {L v}{i:Int}:LL (L++[[v]]) i (i=L.length) v where
 ok:=λh=>⟨L.length,am,ac⟩
instance z52:cA 91 where
inductive nX (x:Xc)(k c:Int)(q:Nat)(sv uv:AV)(L:List (List AV))(i key aw:Int)(none:Bool)(cu err:Int)(wU:Int->List Own->Prop)(AZ:Int->AV->List (List AV)->AV->Int->Int->Int->Bool->Int->List Own->Prop):AV->List Own->Prop
 |f {b:Int}{A}(h:wU b A):nX x k c q sv uv L i key aw none cu err wU AZ (.dh [B false,U b]) (.obj q (.row (x.row k c sv uv i key aw none cu err))::.sl sv 1 L::A)
 |t {b i' aQ aR aP:Int}{xy:Bool}{aT ca L' fz A}(hs:Cn aT L' fz)(h:AZ b aT L' ca i' aQ aR xy aP A):nX x k c q sv uv L i key aw none cu err wU AZ (.dh [B true,U b]) (.obj q (.row (x.row k c aT ca i' aQ aR xy cu aP))::(fz++A))
inductive Yf (x:Xc)(k c:Int)(q:Nat)(J8 uv:AV)(L:List (List AV))(i key aw:Int)(none:Bool)(err:Int)(wU:Int->List Own->Prop)(AZ:Int->AV->List (List AV)->AV->Int->Int->Int->Bool->Int->List Own->Prop):AV->List Own->Prop
 |f {b:Int}{sv A}(h1:odd sv=false)(h2:sv.cells=[sv])(h3:AV.beq sv sv=true)(h:wU b A):Yf x k c q J8 uv L i key aw none err wU AZ (B false) (.obj q (.row (x.row k c sv uv i key aw none b err))::.sl sv 1 (L++[[J8]])::A)
 |t {b i' aQ aR aP:Int}{xy:Bool}{aT ca L' fz A}(hs:Cn aT L' fz)(h:AZ b aT L' ca i' aQ aR xy aP A):Yf x k c q J8 uv L i key aw none err wU AZ (B (decide (L'.length=0))) (.obj q (.row (x.row k c aT ca i' aQ aR xy b aP))::(fz++A))
section
variable{B0 S:AH}{W:List Nat}{A:List Own}{ro:List aF}{m q:Nat}{x:Xc}{k c i key aw cu err:Int}{none:Bool}{sv uv:AV}{nf:Nat}{fc:List AV}{L:List (List AV)}
 {wU:Int->List Own->Prop} {AZ:Int->AV->List (List AV)->AV->Int->Int->Int->Bool->Int->List Own->Prop}
theorem J9 (hL:L.length<=64)
  (hc:∀aT:AV,odd aT=false->aT.cells=[aT]->AV.beq aT aT=true->∀B W S,Cx B W S (.obj q (.row (x.row k c aT uv i key aw none cu err))::.sl aT 1 L::A) ro->
    aG EM (.fn (.func nf) [] fc) [.ptr m 0] S λu S'=>∃ab,nX x k c q aT uv L i key aw none cu err wU AZ u ab/\Cx B W S' ab ro)
  (H:Cx B0 W S (.obj q (.row (x.row k c sv uv i key aw none cu err))::.sl sv 1 (L++[[AV.fn (.func nf) [] fc]])::A) ro):
  aG EM (zF 20) [.ptr q 0,.ptr m 0] S λu S'=>∃ab,Yf x k c q (.fn (.func nf) [] fc) uv L i key aw none err wU AZ u ab/\Cx B0 W S' ab ro:=by
 simp only[Xc.row,Xc.cs,Tw.cs,Lb.cs,Ar.cs,Ep.cs,lA,lB] at H;refine Vx.fm H rfl ?_;have LS:(L++[[AV.fn (.func nf) [] fc]]).length=L.length+1:=ac;have Wt:Int.ofNat (L++[[AV.fn (.func nf) [] fc]]).length=(L.length:Int)+1:=by rw[LS];rfl
 have ng:Int.ofNat (L++[[AV.fn (.func nf) [] fc]]).length-1=Int.ofNat L.length:=by rw[Wt];show _=(L.length:Int);omega
 refine z1 ?_;intros;rw[ng];refine(Zx.RF (a:=L.length) (L':=L) (.tl .hd) (by rw[LS];simp[Nat.ble_eq]) ac (λv'=>.tl .hd) λsv1 h1 h2 h3=>?_).ok;refine z1 ?_;refine Vx.spec (hc sv1 h1 h2 h3) λu ab h=>?_;haveI:dx:=⟨⟩;cases h with
 |@f b A' hA=>
  simp only[Xc.row,Xc.cs,Tw.cs,Lb.cs,Ar.cs,Ep.cs,lA,lB];refine z3 ?_ ?_ ?_<;>intros
  .simp;omega
  .exfalso;have h0:=(by assumption:Int.ofNat (L++List.map (λa=>[a]) [AV.fn (Fn.func nf) [] fc]).length=0);simp at h0;omega
  .exact⟨rfl,rfl,_,.f ci ci ci hA,HQ⟩
 |@t b i' aQ aR aP xy aT ca L' fz A' hs hA=>
  simp only[Xc.row,Xc.cs,Tw.cs,Lb.cs,Ar.cs,Ep.cs,lA,lB];cases hs with
  |n=>
   refine z1 ?_;exact⟨rfl,rfl,_,.t .n hA,HQ⟩
  |s g1 g2 g3=>
   refine z2 ?_ ?_<;>intros
   .next h0=>
    have e:cI.B true=cI.B (decide (L'.length=0)):=by rw[decide_eq_true (by have:(L'.length:Int)=0:=h0;omega)]
    rw[e];exact⟨rfl,rfl,_,.t (.s g1 g2 g3) hA,HQ⟩
   .next h0=>
    have e:cI.B false=cI.B (decide (L'.length=0)):=by rw[decide_eq_false (λh=>h0 (by show(L'.length:Int)=0;omega))]
    rw[e];exact⟨rfl,rfl,_,.t (.s g1 g2 g3) hA,HQ⟩
end
def dA (b1 b2 b3 b4:Nat)(mk now th:AV)(made:Bool):List Own:=[.obj b1 (.row [B made]),.obj b2 (.row [mk]),.obj b3 (.row [now]),.obj b4 (.row [th])]
def zw {α:Type}(P:α->List Own->Prop)(ov:α->Bool)(cG:Int)(st:α×Me)(mem:Me->List Own)(R:List Own):Int->List Own->Prop:=
 λb A=>b=cG/\ov st.1=false/\∃lo,P st.1 lo/\A=lo++(mem st.2++R)
def tX {α:Type}(ov:α->Bool)(cG:Int)(st:α×Me)(mem:Me->List Own)(R:List Own)(E:α->AV->List (List AV)->AV->Int->Int->Int->Bool->Int->Prop):Int->AV->List (List AV)->AV->Int->Int->Int->Bool->Int->List Own->Prop:=
 λb aT L' ca i' aQ aR cT aP A=>b=cG/\ov st.1=true/\E st.1 aT L' ca i' aQ aR cT aP/\A=mem st.2++R
def Qe {α:Type}(sv:AV)(L:List (List AV))(uv:AV)(i key aw:Int)(nn:Bool)(err:Int):α->AV->List (List AV)->AV->Int->Int->Int->Bool->Int->Prop:=
 λ_ aT L' ca i' aQ aR cT aP=>aT=sv/\L'=L/\ca=uv/\i'=i/\aQ=key/\aR=aw/\cT=nn/\aP=err
section
variable{α:Type}{x:Xc}{k c i key aw cu err b:Int}{q:Nat}{nn:Bool}{sv uv:AV}{L:List (List AV)}{P:α->List Own->Prop}{ov:α->Bool}{st:α×Me}{mem:Me->List Own}{R own:List Own}{ro:List aF}
theorem bU {AZ a' y' i4}(e:st=(a',y'))(hP:P a' i4)(ho:ov a'=false)(hs:Hs own (.obj q (.row (x.row k c sv uv i key aw nn cu err))::.sl sv 1 L::(i4++(mem y'++R)))):
  gQ ro (nX x k c q sv uv L i key aw nn cu err (zw P ov b st mem R) AZ) .ret [B false,U b] own ro:=by
 subst e;exact⟨rfl,rfl,_,.f ⟨rfl,ho,i4,hP,rfl⟩,hs⟩
theorem aD {wU E a' y' aT ca L'}{i' aQ aR aP:Int}{cT:Bool}{fz}(e:st=(a',y'))(ho:ov a'=true)(hk:Cn aT L' fz)(hE:E a' aT L' ca i' aQ aR cT aP)
  (hs:Hs own (.obj q (.row (x.row k c aT ca i' aQ aR cT cu aP))::(fz++(mem y'++R)))):
  gQ ro (nX x k c q sv uv L i key aw nn cu err wU (tX ov b st mem R E)) .ret [B true,U b] own ro:=by
 subst e;exact⟨rfl,rfl,_,.t hk ⟨rfl,ho,hE,rfl⟩,hs⟩
end
theorem Qe.rfl {α:Type}{a:α}{sv:AV}{L:List (List AV)}{uv:AV}{i key aw:Int}{nn:Bool}{err:Int}:Qe sv L uv i key aw nn err a sv L uv i key aw nn err:=⟨Eq.refl _,Eq.refl _,Eq.refl _,Eq.refl _,Eq.refl _,Eq.refl _,Eq.refl _,Eq.refl _⟩
instance Yg:mP EM 472 "Step" 702:=⟨λ_=>by kernel_rfl⟩
instance Yh:wN EM 439 472:=⟨λ_=>by kernel_rfl⟩
instance z53:cA 389 where
inductive lu (fr to:Int)(q:Nat):List AV->List Own->Prop
 |mk {b1 b2 b3 b4 v1 v2 v3:Nat}:lu fr to q [.ptr b1 0,.ptr b2 0,.ptr b3 0,.ptr b4 0] (dA b1 b2 b3 b4 (.fn (.func 389) [] [.ptr v1 0,.ptr v2 0,.ptr v3 0]) Np Nf false++[.obj v1 (.row [.ptr q 0]),.obj v2 (.row [I fr]),.obj v3 (.row [I to])])
inductive nG (x:Xc)(i fr to c:Int)(q:Nat)(cl:List AV):bh->List Own->Prop
 |f {lo}(hi:0<=i/\i<x.j.f.size)(h:lu fr to q cl lo):nG x i fr to c q cl .l lo
 |r {b1 b2 b3 b4 qm:Nat}{mk σ lm}(dH:cl=[.ptr b1 0,.ptr b2 0,.ptr b3 0,.ptr b4 0])(h:qO x.j i fr to c qm σ lm)(ho:σ.over=false):nG x i fr to c q cl σ (dA b1 b2 b3 b4 mk (.ptr qm 0) Nf true++lm)
section
variable{B0 S:AH}{W:List Nat}{R lo:List Own}{ro:List aF}{m bl q:Nat}{y:Me}{rest cl:List AV}{x:Xc}{k c i key aw cu err fr to:Int}{nn:Bool}{sv uv:AV}{L:List (List AV)}
theorem nY {o1 own:List Own}(e:o1=own:=by conv=>lhs;simp only[dA,Xc.row,Xc.cs,Tw.cs,Lb.cs,Ar.cs,Ep.cs,lA,lB,lC]):o1=own:=e
theorem lz [VC EM (zF 491) [I fr,I to] True (B true)]{σ:bh}(h1:odd sv=false)(h2:sv.cells=[sv])(h3:AV.beq sv sv=true)(hs:x.j.ok)(hf:0<=fr/\fr<6)(ht:0<=to/\to<6)(hc:0<=c/\c<64)(hy:y.gd)(h:nG x i fr to c q cl σ lo)
  (H:Cx B0 W S (.obj q (.row (x.row k c sv uv i key aw nn cu err))::.sl sv 1 L::(lo++(ad m bl y rest++R))) ro):
  aG EM (.fn (.func 490) [] cl) [.ptr m 0] S λu S'=>∃ab,nX x k c q sv uv L i key aw nn cu err (zw (nG x i fr to c q cl) bh.over 0 (σ.step x.j i fr to c y) (ad m bl · rest) R) (tX bh.over 0 (σ.step x.j i fr to c y) (ad m bl · rest) R (Qe sv L uv i key aw nn err)) u ab/\Cx B0 W S' ab ro:=by
 cases h with
 |f hi h=>
  cases h with
  |@mk b1 b2 b3 b4 v1 v2 v3=>
   refine y1 H nY ?_;intros;next qm lm hm=>
   refine Vx.aO (own:=.obj q _::.sl sv 1 _::.obj b1 _::.obj b2 _::.obj b3 _::.obj b4 _::(lm++(ad m bl y rest++R))) HQ ?_;refine Vx.ck (A:=[_,_,_,_,_,_]) (λB W S H=>AM hs hf ht hc hy hm H) λa' x' l' e hl=>?_;cases ho:a'.over
   .refine z1 ?_;exact bU e (.r rfl hl ho) ho HQ
   .refine z1 ?_;exact aD e ho (.s h1 h2 h3) .rfl HQ
 |@r b1 b2 b3 b4 qm mk σ lm dH h ho=>
  subst dH;refine y1 H nY ?_;refine Vx.ck (A:=[_,_,_,_,_,_]) (λB W S H=>AM hs hf ht hc hy h H) λa' x' l' e hl=>?_;cases ho:a'.over
  .refine z1 ?_;exact bU e (.r rfl hl ho) ho HQ
  .refine z1 ?_;exact aD e ho (.s h1 h2 h3) .rfl HQ
end
instance Yi:mP EM 450 "Step" 700:=⟨λ_=>by kernel_rfl⟩
instance Yj:wN EM 439 450:=⟨λ_=>by kernel_rfl⟩
instance z54:cA 375 where
inductive A0 (q:Nat):List AV->List Own->Prop
 |mk {b1 b2 b3 b4 v1:Nat}:A0 q [.ptr b1 0,.ptr b2 0,.ptr b3 0,.ptr b4 0] (dA b1 b2 b3 b4 (.fn (.func 375) [] [.ptr v1 0]) Np Nf false++[.obj v1 (.row [.ptr q 0])])
inductive vE (x:Xc)(i:Int)(q:Nat)(cl:List AV):cQ->List Own->Prop
 |f {lo}(hi:0<=i/\i<x.j.f.size)(h:A0 q cl lo):vE x i q cl .l lo
 |r {b1 b2 b3 b4 qm:Nat}{mk σ lm}(dH:cl=[.ptr b1 0,.ptr b2 0,.ptr b3 0,.ptr b4 0])(h:oF x.j i qm σ lm)(ho:σ.over=false):vE x i q cl σ (dA b1 b2 b3 b4 mk (.ptr qm 0) Nf true++lm)
section
variable{B0 S:AH}{W:List Nat}{R lo:List Own}{ro:List aF}{m bl q vx:Nat}{y:Me}{rest cl:List AV}{x:Xc}{k c i key aw cu err:Int}{nn:Bool}{sv uv:AV}{L:List (List AV)}
theorem A1 {σ}(h1:odd sv=false)(h2:sv.cells=[sv])(h3:AV.beq sv sv=true)(hs:x.j.ok)(hy:y.gd)(h:vE x i q cl σ lo)
  (H:Cx B0 W S (.obj q (.row (x.row k c sv uv i key aw nn cu err))::.sl sv 1 L::(lo++(ad m bl y rest++R))) ro):
  aG EM (.fn (.func 481) [] cl) [.ptr m 0] S λu S'=>∃ab,nX x k c q sv uv L i key aw nn cu err (zw (vE x i q cl) cQ.over 0 (σ.step x.j i y) (ad m bl · rest) R) (tX cQ.over 0 (σ.step x.j i y) (ad m bl · rest) R (Qe sv L uv i key aw nn err)) u ab/\Cx B0 W S' ab ro:=by
 cases h with
 |f hi h=>
  cases h with
  |@mk b1 b2 b3 b4 v1=>
   refine y1 H nY ?_;intros;next qm lm hm=>
   refine Vx.aO (own:=.obj q _::.sl sv 1 _::.obj b1 _::.obj b2 _::.obj b3 _::.obj b4 _::(lm++(ad m bl y rest++R))) HQ ?_;refine Vx.ck (A:=[_,_,_,_,_,_]) (λB W S H=>AN hs hy hm H) λa' x' l' e hl=>?_
   skip
   cases ho:a'.over
   .refine z1 ?_;exact bU e (.r rfl hl ho) ho HQ
   .refine z1 ?_;exact aD e ho (.s h1 h2 h3) .rfl HQ
 |@r b1 b2 b3 b4 qm mk σ lm dH h ho=>
  subst dH;refine y1 H nY ?_;refine Vx.ck (A:=[_,_,_,_,_,_]) (λB W S H=>AN hs hy h H) λa' x' l' e hl=>?_
  skip
  cases ho:a'.over
  .refine z1 ?_;exact bU e (.r rfl hl ho) ho HQ
  .refine z1 ?_;exact aD e ho (.s h1 h2 h3) .rfl HQ
end
instance Yk:mP EM 464 "Step" 701:=⟨λ_=>by kernel_rfl⟩
instance Yl:wN EM 439 464:=⟨λ_=>by kernel_rfl⟩
instance z55:cA 272 where
instance z56:cA 383 where
inductive Dz (vx:Nat)(q:Nat):List AV->List Own->Prop
 |mk {b1 b2 b3 b4 v1 v2:Nat}:Dz vx q [.ptr b1 0,.ptr b2 0,.ptr b3 0,.ptr b4 0] (dA b1 b2 b3 b4 (.fn (.func 383) [] [.ptr v1 0,.ptr v2 0]) Np Nf false++[.obj v1 (.row [.ptr q 0]),.obj v2 (.row [.fn (.func 272) [] [.ptr vx 0]])])
inductive xz (x:Xc)(i key:Int)(vx:Nat)(q:Nat)(cl:List AV):bC->List Own->Prop
 |f {lo}(hi:0<=i/\i<x.j.f.size)(h:Dz vx q cl lo):xz x i key vx q cl .a lo
 |r {b1 b2 b3 b4 qm:Nat}{mk σ lm}(dH:cl=[.ptr b1 0,.ptr b2 0,.ptr b3 0,.ptr b4 0])(h:wT x.j i key qm σ lm)(ho:σ.over=false):xz x i key vx q cl σ (dA b1 b2 b3 b4 mk (.ptr qm 0) Nf true++lm)
section
variable{B0 S:AH}{W:List Nat}{R lo:List Own}{ro:List aF}{m bl q vx:Nat}{y:Me}{rest cl:List AV}{x:Xc}{k c i key aw cu err:Int}{nn:Bool}{sv uv:AV}{L:List (List AV)}
theorem HE {σ}(h1:odd sv=false)(h2:sv.cells=[sv])(h3:AV.beq sv sv=true)(hs:x.j.ok)(hy:y.gd)(h:xz x i key vx q cl σ lo)
  (H:Cx B0 W S (.obj q (.row (x.row k c sv uv i key aw nn cu err))::.sl sv 1 L::(lo++(ad m bl y rest++(.obj vx (.row [.ptr q 0])::R)))) ro):
  aG EM (.fn (.func 486) [] cl) [.ptr m 0] S λu S'=>∃ab,nX x k c q sv uv L i key aw nn cu err (zw (xz x i key vx q cl) bC.over 0 (σ.step x.j i key y) (ad m bl · rest) (.obj vx (.row [.ptr q 0])::R)) (tX bC.over 0 (σ.step x.j i key y) (ad m bl · rest) (.obj vx (.row [.ptr q 0])::R) (Qe sv L uv i key aw nn err)) u ab/\Cx B0 W S' ab ro:=by
 cases h with
 |f hi h=>
  cases h with
  |@mk b1 b2 b3 b4 v1 v2=>
   refine y1 H nY ?_;intros;next qm lm hm=>
   refine Vx.aO (own:=.obj q _::.sl sv 1 _::.obj b1 _::.obj b2 _::.obj b3 _::.obj b4 _::(lm++(ad m bl y rest++(.obj vx (.row [.ptr q 0])::R)))) HQ ?_;refine Vx.ck (A:=[_,_,_,_,_,_]) (λB W S H=>nW hs hy hm H) λa' x' l' e hl=>?_
   skip
   cases ho:a'.over
   .refine z1 ?_;exact bU e (.r rfl hl ho) ho HQ
   .refine z1 ?_;exact aD e ho (.s h1 h2 h3) .rfl HQ
 |@r b1 b2 b3 b4 qm mk σ lm dH h ho=>
  subst dH;refine y1 H nY ?_;refine Vx.ck (A:=[_,_,_,_,_,_]) (λB W S H=>nW hs hy h H) λa' x' l' e hl=>?_
  skip
  cases ho:a'.over
  .refine z1 ?_;exact bU e (.r rfl hl ho) ho HQ
  .refine z1 ?_;exact aD e ho (.s h1 h2 h3) .rfl HQ
end
instance z57:cA 424 where
inductive A3 (vx:Nat)(q:Nat):List AV->List Own->Prop
 |mk {b1 b2 b3 b4 v1 v2:Nat}:A3 vx q [.ptr b1 0,.ptr b2 0,.ptr b3 0,.ptr b4 0] (dA b1 b2 b3 b4 (.fn (.func 383) [] [.ptr v1 0,.ptr v2 0]) Np Nf false++[.obj v1 (.row [.ptr q 0]),.obj v2 (.row [.fn (.func 424) [] [.ptr vx 0]])])
inductive xA (x:Xc)(i key:Int)(vx:Nat)(q:Nat)(cl:List AV):bC->List Own->Prop
 |f {lo}(hi:0<=i/\i<x.j.f.size)(h:A3 vx q cl lo):xA x i key vx q cl .a lo
 |r {b1 b2 b3 b4 qm:Nat}{mk σ lm}(dH:cl=[.ptr b1 0,.ptr b2 0,.ptr b3 0,.ptr b4 0])(h:wT x.j i key qm σ lm)(ho:σ.over=false):xA x i key vx q cl σ (dA b1 b2 b3 b4 mk (.ptr qm 0) Nf true++lm)
section
variable{B0 S:AH}{W:List Nat}{R lo:List Own}{ro:List aF}{m bl q vx:Nat}{y:Me}{rest cl:List AV}{x:Xc}{k c i key aw cu err:Int}{nn:Bool}{sv uv:AV}{L:List (List AV)}
theorem HF {σ}(h1:odd sv=false)(h2:sv.cells=[sv])(h3:AV.beq sv sv=true)(hs:x.j.ok)(hy:y.gd)(h:xA x i key vx q cl σ lo)
  (H:Cx B0 W S (.obj q (.row (x.row k c sv uv i key aw nn cu err))::.sl sv 1 L::(lo++(ad m bl y rest++(.obj vx (.row [.ptr q 0])::R)))) ro):
  aG EM (.fn (.func 486) [] cl) [.ptr m 0] S λu S'=>∃ab,nX x k c q sv uv L i key aw nn cu err (zw (xA x i key vx q cl) bC.over 0 (σ.step x.j i key y) (ad m bl · rest) (.obj vx (.row [.ptr q 0])::R)) (tX bC.over 0 (σ.step x.j i key y) (ad m bl · rest) (.obj vx (.row [.ptr q 0])::R) (Qe sv L uv i key aw nn err)) u ab/\Cx B0 W S' ab ro:=by
 cases h with
 |f hi h=>
  cases h with
  |@mk b1 b2 b3 b4 v1 v2=>
   refine y1 H nY ?_;intros;next qm lm hm=>
   refine Vx.aO (own:=.obj q _::.sl sv 1 _::.obj b1 _::.obj b2 _::.obj b3 _::.obj b4 _::(lm++(ad m bl y rest++(.obj vx (.row [.ptr q 0])::R)))) HQ ?_;refine Vx.ck (A:=[_,_,_,_,_,_]) (λB W S H=>nW hs hy hm H) λa' x' l' e hl=>?_
   skip
   cases ho:a'.over
   .refine z1 ?_;exact bU e (.r rfl hl ho) ho HQ
   .refine z1 ?_;exact aD e ho (.s h1 h2 h3) .rfl HQ
 |@r b1 b2 b3 b4 qm mk σ lm dH h ho=>
  subst dH;refine y1 H nY ?_;refine Vx.ck (A:=[_,_,_,_,_,_]) (λB W S H=>nW hs hy h H) λa' x' l' e hl=>?_
  skip
  cases ho:a'.over
  .refine z1 ?_;exact bU e (.r rfl hl ho) ho HQ
  .refine z1 ?_;exact aD e ho (.s h1 h2 h3) .rfl HQ
end
instance z58:cA 425 where
inductive A4 (vx:Nat)(q:Nat):List AV->List Own->Prop
 |mk {b1 b2 b3 b4 v1 v2:Nat}:A4 vx q [.ptr b1 0,.ptr b2 0,.ptr b3 0,.ptr b4 0] (dA b1 b2 b3 b4 (.fn (.func 383) [] [.ptr v1 0,.ptr v2 0]) Np Nf false++[.obj v1 (.row [.ptr q 0]),.obj v2 (.row [.fn (.func 425) [] [.ptr vx 0]])])
inductive xB (x:Xc)(i key:Int)(vx:Nat)(q:Nat)(cl:List AV):bC->List Own->Prop
 |f {lo}(hi:0<=i/\i<x.j.f.size)(h:A4 vx q cl lo):xB x i key vx q cl .a lo
 |r {b1 b2 b3 b4 qm:Nat}{mk σ lm}(dH:cl=[.ptr b1 0,.ptr b2 0,.ptr b3 0,.ptr b4 0])(h:wT x.j i ((key+1)%18446744073709551616) qm σ lm)(ho:σ.over=false):xB x i key vx q cl σ (dA b1 b2 b3 b4 mk (.ptr qm 0) Nf true++lm)
section
variable{B0 S:AH}{W:List Nat}{R lo:List Own}{ro:List aF}{m bl q vx:Nat}{y:Me}{rest cl:List AV}{x:Xc}{k c i key aw cu err:Int}{nn:Bool}{sv uv:AV}{L:List (List AV)}
theorem HG {σ}(h1:odd sv=false)(h2:sv.cells=[sv])(h3:AV.beq sv sv=true)(hs:x.j.ok)(hy:y.gd)(h:xB x i key vx q cl σ lo)
  (H:Cx B0 W S (.obj q (.row (x.row k c sv uv i key aw nn cu err))::.sl sv 1 L::(lo++(ad m bl y rest++(.obj vx (.row [.ptr q 0])::R)))) ro):
  aG EM (.fn (.func 486) [] cl) [.ptr m 0] S λu S'=>∃ab,nX x k c q sv uv L i key aw nn cu err (zw (xB x i key vx q cl) bC.over 0 (σ.step x.j i ((key+1)%18446744073709551616) y) (ad m bl · rest) (.obj vx (.row [.ptr q 0])::R)) (tX bC.over 0 (σ.step x.j i ((key+1)%18446744073709551616) y) (ad m bl · rest) (.obj vx (.row [.ptr q 0])::R) (Qe sv L uv i key aw nn err)) u ab/\Cx B0 W S' ab ro:=by
 cases h with
 |f hi h=>
  cases h with
  |@mk b1 b2 b3 b4 v1 v2=>
   refine y1 H nY ?_;intros;next qm lm hm=>
   refine Vx.aO (own:=.obj q _::.sl sv 1 _::.obj b1 _::.obj b2 _::.obj b3 _::.obj b4 _::(lm++(ad m bl y rest++(.obj vx (.row [.ptr q 0])::R)))) HQ ?_;refine Vx.ck (A:=[_,_,_,_,_,_]) (λB W S H=>nW hs hy hm H) λa' x' l' e hl=>?_
   skip
   cases ho:a'.over
   .refine z1 ?_;exact bU e (.r rfl hl ho) ho HQ
   .refine z1 ?_;exact aD e ho (.s h1 h2 h3) .rfl HQ
 |@r b1 b2 b3 b4 qm mk σ lm dH h ho=>
  subst dH;refine y1 H nY ?_;refine Vx.ck (A:=[_,_,_,_,_,_]) (λB W S H=>nW hs hy h H) λa' x' l' e hl=>?_
  skip
  cases ho:a'.over
  .refine z1 ?_;exact bU e (.r rfl hl ho) ho HQ
  .refine z1 ?_;exact aD e ho (.s h1 h2 h3) .rfl HQ
end
instance Ym:mP EM 375 "Step" 697:=⟨λ_=>by kernel_rfl⟩
instance Yn:wN EM 439 375:=⟨λ_=>by kernel_rfl⟩
instance z59:cA 288 where
section
variable{B0 S:AH}{W:List Nat}{R lo:List Own}{ro:List aF}{m bl q vx:Nat}{y:Me}{rest cl:List AV}{x:Xc}{k c i key aw cu err:Int}{nn:Bool}{sv uv:AV}{L:List (List AV)}
end
theorem qQ.wV {t r}{c:Int}{q:Nat}{b:Int}{σ lo}(h:qQ t r c q b σ lo):∃cg left look key words da flag done er lf,lo=.obj q (.row (r.kN cg left look key words da flag b done er))::lf:=by
 cases h<;>exact⟨_,_,_,_,_,_,_,_,_,_,rfl⟩
instance aa8:mP EM 497 "Step" 709:=⟨λ_=>by kernel_rfl⟩
instance aa9:J0 EM 439 497:=⟨λ_=>by kernel_rfl⟩
instance aba:mP EM 497 "By" 708:=⟨λ_=>by kernel_rfl⟩
instance z60:cA 708 where
instance z61:cA 412 where
inductive A5 (q:Nat):List AV->List Own->Prop
 |mk {b1 b2 b3 b4 v1:Nat}:A5 q [.ptr b1 0,.ptr b2 0,.ptr b3 0,.ptr b4 0] (dA b1 b2 b3 b4 (.fn (.func 412) [] [.ptr v1 0]) Np Nf false++[.obj v1 (.row [.ptr q 0])])
inductive EH (x:Xc)(c:Int)(q:Nat)(cl:List AV):cH->List Own->Prop
 |f {lo}(h:A5 q cl lo):EH x c q cl (.k (.p .a)) lo
 |r {b1 b2 b3 b4 qm:Nat}{b:Int}{mk σ lm}(dH:cl=[.ptr b1 0,.ptr b2 0,.ptr b3 0,.ptr b4 0])(h:qQ x.t x.r c qm b σ lm)(ho:σ.over=false):EH x c q cl σ (dA b1 b2 b3 b4 mk (.ptr qm 0) Nf true++lm)
section
variable{B0 S:AH}{W:List Nat}{R lo:List Own}{ro:List aF}{m bl q vx:Nat}{y:Me}{rest cl:List AV}{x:Xc}{k c i key aw cu err:Int}{nn:Bool}{sv uv:AV}{L:List (List AV)}
theorem J_ {σ}(h1:odd sv=false)(h2:sv.cells=[sv])(h3:AV.beq sv sv=true)(hs:x.t.ok)(hr:x.r.ok)(hc:0<=c/\c<x.t.l.e.ae)(hy:y.gd)(h:EH x c q cl σ lo)
  (H:Cx B0 W S (.obj q (.row (x.row k c sv uv i key aw nn cu err))::.sl sv 1 L::(lo++(ad m bl y rest++R))) ro):
  aG EM (.fn (.func 506) [] cl) [.ptr m 0] S λu S'=>∃ab,nX x k c q sv uv L i key aw nn cu err (zw (EH x c q cl) cH.over σ.cG (σ.step x.t x.r c y) (ad m bl · rest) R) (tX cH.over σ.cG (σ.step x.t x.r c y) (ad m bl · rest) R (Qe sv L uv i key aw nn err)) u ab/\Cx B0 W S' ab ro:=by
 have ND:((0<=x.t.nd/\x.t.nd<4096)/\(0<=x.t.hd/\x.t.hd<4096)/\(1<=x.t.ht/\x.t.ht<=4)/\1<=x.t.l.a.f.size/\x.t.l.a.f.size<=128)/\(0<=c/\c<x.t.l.e.ae)/\1<=x.r.ae/\x.r.ae<=64:=by have aZ:=hs;have ta:=hr;unfold Tw.ok Lb.ok Ar.ok Sk.ok at aZ;unfold Rs.ok at ta;omega
 cases h with
 |f h=>
  cases h with
  |@mk b1 b2 b3 b4 v1=>
   refine y1 H nY ?_;intros;next qm lm hm=>
   refine Vx.aO (own:=.obj q _::.sl sv 1 _::.obj b1 _::.obj b2 _::.obj b3 _::.obj b4 _::(lm++(ad m bl y rest++R))) HQ ?_;refine Vx.ck (A:=[_,_,_,_,_,_]) (λB W S H=>Dy hs hr hc hy (by first|assumption|rfl) hm H) λa' x' l' e hl=>?_;obtain⟨cg,left,look,Yo,words,da,flag,done,er,lf,rfl⟩:=hl.wV;cases ho:a'.over
   .refine z1 ?_;exact bU e (.r rfl hl ho) ho HQ
   .refine z1 ?_;exact aD e ho (.s h1 h2 h3) .rfl HQ
 |@r b1 b2 b3 b4 qm b mk σ lm dH h ho=>
  subst dH;refine y1 H nY ?_;refine Vx.ck (A:=[_,_,_,_,_,_]) (λB W S H=>Dy hs hr hc hy (by first|assumption|rfl) h H) λa' x' l' e hl=>?_;obtain⟨cg,left,look,Yo,words,da,flag,done,er,lf,rfl⟩:=hl.wV;cases ho:a'.over
  .refine z1 ?_;exact bU e (.r rfl hl ho) ho HQ
  .refine z1 ?_;exact aD e ho (.s h1 h2 h3) .rfl HQ
end
end Go.cI
