/- Contracts. Conditions: in each theorem. -/
import Derived.Test.YtdfgboafnklioaaGreatM13
set_option linter.all false
set_option maxRecDepth 100000
set_option maxHeartbeats 4000000
namespace Go.cO
open Go.Proofs
instance z51:cH 482 where
section
variable{f n a e t j0 j1 j2 j3 j4 i fr to c k h r0 r1 r2 r3:Int}
instance Vo:NC EM (zF 256) [.agg [I f,I n],I a,I e,I t] ((0<=f/\f<100000)/\(0<=a/\a<n/\n<100000)/\(0<=e/\e<=1099511627776)/\0<=t/\t<=1099511627776)
  (λq l=>nT (f+a) e t q .a l):=.of rfl rfl λh ro R=>by
 obtain⟨h0,h1,h2,h3⟩:=h;have e1:e%18446744073709551616=e:=am;have e2:t%18446744073709551616=t:=am;show Zx EM false (Tryz.a256 _) _ _ _ _;refine z1 ?_;intros;rw[e1,e2];exact⟨rfl,rfl,(_::R),⟨_,_,nT.a,rfl,rfl⟩,HQ⟩
instance Vp:NC EM (zF 262) [.agg [I j0,I j1,I j2,I j3,I j4]] True
  (λq l=>kM ⟨j0,j1,⟨j2,j3,j4⟩⟩ q (.p .a) l):=.of rfl rfl λh ro R=>by
 show Zx EM false (Tryz.a262 _) _ _ _ _;refine z1 ?_;intros;exact⟨rfl,rfl,(_::_::R),⟨_,_,kM.p .a rfl,rfl,rfl⟩,HQ⟩
instance Vq:NC EM (zF 376) [.agg [I j0,I j1,I j2,I j3,I j4],I i] (0<=i/\i<j4)
  (λq l=>o6 ⟨j0,j1,⟨j2,j3,j4⟩⟩ i q .l l):=.of rfl rfl λh ro R=>by
 show Zx EM false (Tryz.a376 _) _ _ _ _;refine z1 ?_;intros;exact⟨rfl,rfl,(_::_::R),⟨_,_,o6.l h (.a h),rfl,rfl⟩,HQ⟩
instance X2:NC EM (zF 384) [.agg [I j0,I j1,I j2,I j3,I j4],I i,U k] (0<=i/\i<j4)
  (λq l=>wE ⟨j0,j1,⟨j2,j3,j4⟩⟩ i k q .a l):=.of rfl rfl λh ro R=>by
 show Zx EM false (Tryz.a384 _) _ _ _ _;refine z1 ?_;intros;exact⟨rfl,rfl,(_::R),⟨_,_,wE.a h,rfl,rfl⟩,HQ⟩
instance R_:NC EM (zF 399) [.agg [I j0,I j1,I j2,I j3,I j4],I i] (0<=i/\i<j4)
  (λq l=>je ⟨j0,j1,⟨j2,j3,j4⟩⟩ i q .a l):=.of rfl rfl λh ro R=>by
 show Zx EM false (Tryz.a399 _) _ _ _ _;refine z1 ?_;intros;exact⟨rfl,rfl,(_::R),⟨_,_,je.a h,rfl,rfl⟩,HQ⟩
instance Vr [VC EM (zF 491) [I fr,I to] True (B true)]:NC EM (zF 390) [.agg [I j0,I j1,I j2,I j3,I j4],I i,I fr,I to,I c] ((0<=i/\i<j4)/\0<=c/\c<64)
  (λq l=>qW ⟨j0,j1,⟨j2,j3,j4⟩⟩ i fr to c q .l l):=.of rfl rfl λ⟨h,hc⟩ ro R=>by
 show Zx EM false (Tryz.a390 _) _ _ _ _;refine z1 ?_;intros;exact⟨rfl,rfl,(_::R),⟨_,_,qW.l h,rfl,rfl⟩,HQ⟩
instance Sa:NC EM (zF 393) [.agg [I r0,I r1,I r2,I r3]] (Rn.ok ⟨r0,r1,r2,r3⟩)
  (λq l=>j_ ⟨r0,r1,r2,r3⟩ q .a l):=.of rfl rfl λh ro R=>by
 unfold Rn.ok at h;show Zx EM false (Tryz.a393 _) _ _ _ _;refine z1 ?_;intros;exact⟨rfl,rfl,(_::R),⟨_,_,j_.a,rfl,rfl⟩,HQ⟩
instance Vs:NC EM (zF 289) [.agg [I r0,I r1,I r2,I r3],U h] (Rn.ok ⟨r0,r1,r2,r3⟩/\Me.ar h)
  (λq l=>qV ⟨r0,r1,r2,r3⟩ h q .a l):=.of rfl rfl λ⟨h,hw⟩ ro R=>by
 unfold Rn.ok at h;show Zx EM false (Tryz.a289 _) _ _ _ _;refine z1 ?_;intros;exact⟨rfl,rfl,(_::R),⟨_,_,qV.a hw,rfl,rfl⟩,HQ⟩
end
def Xc.cs (x:Xc):List AV:=x.t.cs++[I x.cn,I x.many,I x.j.bE,I x.j.keys,I x.j.f.top,I x.j.f.gp,I x.j.f.size,I x.iW,I x.aJ,I x.room,I x.r.runs,I x.r.flags,I x.r.ah,I x.own,I x.seq]
def Xc.row (x:Xc)(k c:Int)(sv uv:AV)(i key au:Int)(none:Bool)(cM err:Int):List AV:=x.cs++[Ns,I k,I c,sv,uv,I i,U key,U au,B none,U cM,I err]
inductive Ca:AV->List (List AV)->List Own->Prop
 |n:Ca Ns [] []
 |s {v L}(h1:odd v=false)(h2:v.cells=[v])(h3:AV.beq v v=true):Ca v L [.sl v 1 L]
instance Vt {L v}{i:Int}:LD (L++[[v]]) i (i=L.length) v where
 ok:=λh=>⟨L.length,am,ac⟩
instance z52:cH 91 where
inductive oA (x:Xc)(k c:Int)(q:Nat)(sv uv:AV)(L:List (List AV))(i key au:Int)(none:Bool)(cE err:Int)(wF:Int->List Own->Prop)(AD:Int->AV->List (List AV)->AV->Int->Int->Int->Bool->Int->List Own->Prop):AV->List Own->Prop
 |f {b:Int}{A}(h:wF b A):oA x k c q sv uv L i key au none cE err wF AD (.dD [B false,U b]) (.obj q (.row (x.row k c sv uv i key au none cE err))::.sl sv 1 L::A)
 |t {b i' aM aN aL:Int}{xg:Bool}{aP cq L' fW A}(hs:Ca aP L' fW)(h:AD b aP L' cq i' aM aN xg aL A):oA x k c q sv uv L i key au none cE err wF AD (.dD [B true,U b]) (.obj q (.row (x.row k c aP cq i' aM aN xg cE aL))::(fW++A))
inductive X3 (x:Xc)(k c:Int)(q:Nat)(J0 uv:AV)(L:List (List AV))(i key au:Int)(none:Bool)(err:Int)(wF:Int->List Own->Prop)(AD:Int->AV->List (List AV)->AV->Int->Int->Int->Bool->Int->List Own->Prop):AV->List Own->Prop
 |f {b:Int}{sv A}(h1:odd sv=false)(h2:sv.cells=[sv])(h3:AV.beq sv sv=true)(h:wF b A):X3 x k c q J0 uv L i key au none err wF AD (B false) (.obj q (.row (x.row k c sv uv i key au none b err))::.sl sv 1 (L++[[J0]])::A)
 |t {b i' aM aN aL:Int}{xg:Bool}{aP cq L' fW A}(hs:Ca aP L' fW)(h:AD b aP L' cq i' aM aN xg aL A):X3 x k c q J0 uv L i key au none err wF AD (B (decide (L'.length=0))) (.obj q (.row (x.row k c aP cq i' aM aN xg b aL))::(fW++A))
section
variable{B0 S:AH}{W:List Nat}{A:List Own}{ro:List aB}{m q:Nat}{x:Xc}{k c i key au cE err:Int}{none:Bool}{sv uv:AV}{nf:Nat}{fc:List AV}{L:List (List AV)}
 {wF:Int->List Own->Prop} {AD:Int->AV->List (List AV)->AV->Int->Int->Int->Bool->Int->List Own->Prop}
theorem J1 (hL:L.length<=64)
  (hc:∀aP:AV,odd aP=false->aP.cells=[aP]->AV.beq aP aP=true->∀B W S,Cx B W S (.obj q (.row (x.row k c aP uv i key au none cE err))::.sl aP 1 L::A) ro->
    aG EM (.fn (.func nf) [] fc) [.ptr m 0] S λu S'=>∃ab,oA x k c q aP uv L i key au none cE err wF AD u ab/\Cx B W S' ab ro)
  (H:Cx B0 W S (.obj q (.row (x.row k c sv uv i key au none cE err))::.sl sv 1 (L++[[AV.fn (.func nf) [] fc]])::A) ro):
  aG EM (zF 20) [.ptr q 0,.ptr m 0] S λu S'=>∃ab,X3 x k c q (.fn (.func nf) [] fc) uv L i key au none err wF AD u ab/\Cx B0 W S' ab ro:=by
 simp only[Xc.row,Xc.cs,Tw.cs,Lb.cs,Ar.cs,Ep.cs,lA,lB] at H;refine Vx.fm H rfl ?_;have LL:(L++[[AV.fn (.func nf) [] fc]]).length=L.length+1:=ac;have Wl:Int.ofNat (L++[[AV.fn (.func nf) [] fc]]).length=(L.length:Int)+1:=by rw[LL];rfl
 have oK:Int.ofNat (L++[[AV.fn (.func nf) [] fc]]).length-1=Int.ofNat L.length:=by rw[Wl];show _=(L.length:Int);omega
 refine z1 ?_;intros;rw[oK];refine(Zx.RO (a:=L.length) (L':=L) (.tl .hd) (by rw[LL];simp[Nat.ble_eq]) ac (λv'=>.tl .hd) λsv1 h1 h2 h3=>?_).ok;refine z1 ?_;refine Vx.spec (hc sv1 h1 h2 h3) λu ab h=>?_;haveI:dH:=⟨⟩;cases h with
 |@f b A' hA=>
  simp only[Xc.row,Xc.cs,Tw.cs,Lb.cs,Ar.cs,Ep.cs,lA,lB];refine z3 ?_ ?_ ?_<;>intros
  .simp;omega
  .exfalso;have h0:=(by assumption:Int.ofNat (L++List.map (λa=>[a]) [AV.fn (Fn.func nf) [] fc]).length=0);simp at h0;omega
  .exact⟨rfl,rfl,_,.f ci ci ci hA,HQ⟩
 |@t b i' aM aN aL xg aP cq L' fW A' hs hA=>
  simp only[Xc.row,Xc.cs,Tw.cs,Lb.cs,Ar.cs,Ep.cs,lA,lB];cases hs with
  |n=>
   refine z1 ?_;exact⟨rfl,rfl,_,.t .n hA,HQ⟩
  |s g1 g2 g3=>
   refine z2 ?_ ?_<;>intros
   .next h0=>
    have e:cO.B true=cO.B (decide (L'.length=0)):=by rw[decide_eq_true (by have:(L'.length:Int)=0:=h0;omega)]
    rw[e];exact⟨rfl,rfl,_,.t (.s g1 g2 g3) hA,HQ⟩
   .next h0=>
    have e:cO.B false=cO.B (decide (L'.length=0)):=by rw[decide_eq_false (λh=>h0 (by show(L'.length:Int)=0;omega))]
    rw[e];exact⟨rfl,rfl,_,.t (.s g1 g2 g3) hA,HQ⟩
end
def dI (b1 b2 b3 b4:Nat)(mk now th:AV)(made:Bool):List Own:=[.obj b1 (.row [B made]),.obj b2 (.row [mk]),.obj b3 (.row [now]),.obj b4 (.row [th])]
def zd {α:Type}(P:α->List Own->Prop)(ov:α->Bool)(cM:Int)(st:α×Me)(mem:Me->List Own)(R:List Own):Int->List Own->Prop:=
 λb A=>b=cM/\ov st.1=false/\∃lo,P st.1 lo/\A=lo++(mem st.2++R)
def tR {α:Type}(ov:α->Bool)(cM:Int)(st:α×Me)(mem:Me->List Own)(R:List Own)(E:α->AV->List (List AV)->AV->Int->Int->Int->Bool->Int->Prop):Int->AV->List (List AV)->AV->Int->Int->Int->Bool->Int->List Own->Prop:=
 λb aP L' cq i' aM aN c_ aL A=>b=cM/\ov st.1=true/\E st.1 aP L' cq i' aM aN c_ aL/\A=mem st.2++R
def Qe {α:Type}(sv:AV)(L:List (List AV))(uv:AV)(i key au:Int)(nn:Bool)(err:Int):α->AV->List (List AV)->AV->Int->Int->Int->Bool->Int->Prop:=
 λ_ aP L' cq i' aM aN c_ aL=>aP=sv/\L'=L/\cq=uv/\i'=i/\aM=key/\aN=au/\c_=nn/\aL=err
section
variable{α:Type}{x:Xc}{k c i key au cE err b:Int}{q:Nat}{nn:Bool}{sv uv:AV}{L:List (List AV)}{P:α->List Own->Prop}{ov:α->Bool}{st:α×Me}{mem:Me->List Own}{R own:List Own}{ro:List aB}
theorem bX {AD a' y' ki}(e:st=(a',y'))(hP:P a' ki)(ho:ov a'=false)(hs:Hs own (.obj q (.row (x.row k c sv uv i key au nn cE err))::.sl sv 1 L::(ki++(mem y'++R)))):
  jy ro (oA x k c q sv uv L i key au nn cE err (zd P ov b st mem R) AD) .ret [B false,U b] own ro:=by
 subst e;exact⟨rfl,rfl,_,.f ⟨rfl,ho,ki,hP,rfl⟩,hs⟩
theorem aC {wF E a' y' aP cq L'}{i' aM aN aL:Int}{c_:Bool}{fW}(e:st=(a',y'))(ho:ov a'=true)(hk:Ca aP L' fW)(hE:E a' aP L' cq i' aM aN c_ aL)
  (hs:Hs own (.obj q (.row (x.row k c aP cq i' aM aN c_ cE aL))::(fW++(mem y'++R)))):
  jy ro (oA x k c q sv uv L i key au nn cE err wF (tR ov b st mem R E)) .ret [B true,U b] own ro:=by
 subst e;exact⟨rfl,rfl,_,.t hk ⟨rfl,ho,hE,rfl⟩,hs⟩
end
theorem Qe.rfl {α:Type}{a:α}{sv:AV}{L:List (List AV)}{uv:AV}{i key au:Int}{nn:Bool}{err:Int}:Qe sv L uv i key au nn err a sv L uv i key au nn err:=⟨Eq.refl _,Eq.refl _,Eq.refl _,Eq.refl _,Eq.refl _,Eq.refl _,Eq.refl _,Eq.refl _⟩
instance X4:m9 EM 472 "Step" 702:=⟨λ_=>by kernel_rfl⟩
instance X5:wy EM 439 472:=⟨λ_=>by kernel_rfl⟩
instance z53:cH 389 where
inductive lZ (fr to:Int)(q:Nat):List AV->List Own->Prop
 |mk {b1 b2 b3 b4 v1 v2 v3:Nat}:lZ fr to q [.ptr b1 0,.ptr b2 0,.ptr b3 0,.ptr b4 0] (dI b1 b2 b3 b4 (.fn (.func 389) [] [.ptr v1 0,.ptr v2 0,.ptr v3 0]) Np Nf false++[.obj v1 (.row [.ptr q 0]),.obj v2 (.row [I fr]),.obj v3 (.row [I to])])
inductive nW (x:Xc)(i fr to c:Int)(q:Nat)(cl:List AV):aZ->List Own->Prop
 |f {lo}(hi:0<=i/\i<x.j.f.size)(h:lZ fr to q cl lo):nW x i fr to c q cl .l lo
 |r {b1 b2 b3 b4 qm:Nat}{mk σ lm}(dc:cl=[.ptr b1 0,.ptr b2 0,.ptr b3 0,.ptr b4 0])(h:qW x.j i fr to c qm σ lm)(ho:σ.over=false):nW x i fr to c q cl σ (dI b1 b2 b3 b4 mk (.ptr qm 0) Nf true++lm)
section
variable{B0 S:AH}{W:List Nat}{R lo:List Own}{ro:List aB}{m bl q:Nat}{y:Me}{rest cl:List AV}{x:Xc}{k c i key au cE err fr to:Int}{nn:Bool}{sv uv:AV}{L:List (List AV)}
theorem oB {o1 own:List Own}(e:o1=own:=by conv=>lhs;simp only[dI,Xc.row,Xc.cs,Tw.cs,Lb.cs,Ar.cs,Ep.cs,lA,lB,lC]):o1=own:=e
theorem l7 [VC EM (zF 491) [I fr,I to] True (B true)]{σ:aZ}(h1:odd sv=false)(h2:sv.cells=[sv])(h3:AV.beq sv sv=true)(hs:x.j.ok)(hf:0<=fr/\fr<6)(ht:0<=to/\to<6)(hc:0<=c/\c<64)(hy:y.gd)(h:nW x i fr to c q cl σ lo)
  (H:Cx B0 W S (.obj q (.row (x.row k c sv uv i key au nn cE err))::.sl sv 1 L::(lo++(ad m bl y rest++R))) ro):
  aG EM (.fn (.func 490) [] cl) [.ptr m 0] S λu S'=>∃ab,oA x k c q sv uv L i key au nn cE err (zd (nW x i fr to c q cl) aZ.over 0 (σ.step x.j i fr to c y) (ad m bl · rest) R) (tR aZ.over 0 (σ.step x.j i fr to c y) (ad m bl · rest) R (Qe sv L uv i key au nn err)) u ab/\Cx B0 W S' ab ro:=by
 cases h with
 |f hi h=>
  cases h with
  |@mk b1 b2 b3 b4 v1 v2 v3=>
   refine y1 H oB ?_;intros;next qm lm hm=>
   refine Vx.bB (own:=.obj q _::.sl sv 1 _::.obj b1 _::.obj b2 _::.obj b3 _::.obj b4 _::(lm++(ad m bl y rest++R))) HQ ?_;refine Vx.cC (A:=[_,_,_,_,_,_]) (λB W S H=>As hs hf ht hc hy hm H) λa' x' l' e hl=>?_;cases ho:a'.over
   .refine z1 ?_;exact bX e (.r rfl hl ho) ho HQ
   .refine z1 ?_;exact aC e ho (.s h1 h2 h3) .rfl HQ
 |@r b1 b2 b3 b4 qm mk σ lm dc h ho=>
  subst dc;refine y1 H oB ?_;refine Vx.cC (A:=[_,_,_,_,_,_]) (λB W S H=>As hs hf ht hc hy h H) λa' x' l' e hl=>?_;cases ho:a'.over
  .refine z1 ?_;exact bX e (.r rfl hl ho) ho HQ
  .refine z1 ?_;exact aC e ho (.s h1 h2 h3) .rfl HQ
end
instance X6:m9 EM 450 "Step" 700:=⟨λ_=>by kernel_rfl⟩
instance X7:wy EM 439 450:=⟨λ_=>by kernel_rfl⟩
instance z54:cH 375 where
inductive AE (q:Nat):List AV->List Own->Prop
 |mk {b1 b2 b3 b4 v1:Nat}:AE q [.ptr b1 0,.ptr b2 0,.ptr b3 0,.ptr b4 0] (dI b1 b2 b3 b4 (.fn (.func 375) [] [.ptr v1 0]) Np Nf false++[.obj v1 (.row [.ptr q 0])])
inductive vz (x:Xc)(i:Int)(q:Nat)(cl:List AV):cX->List Own->Prop
 |f {lo}(hi:0<=i/\i<x.j.f.size)(h:AE q cl lo):vz x i q cl .l lo
 |r {b1 b2 b3 b4 qm:Nat}{mk σ lm}(dc:cl=[.ptr b1 0,.ptr b2 0,.ptr b3 0,.ptr b4 0])(h:o6 x.j i qm σ lm)(ho:σ.over=false):vz x i q cl σ (dI b1 b2 b3 b4 mk (.ptr qm 0) Nf true++lm)
section
variable{B0 S:AH}{W:List Nat}{R lo:List Own}{ro:List aB}{m bl q vx:Nat}{y:Me}{rest cl:List AV}{x:Xc}{k c i key au cE err:Int}{nn:Bool}{sv uv:AV}{L:List (List AV)}
theorem AF {σ}(h1:odd sv=false)(h2:sv.cells=[sv])(h3:AV.beq sv sv=true)(hs:x.j.ok)(hy:y.gd)(h:vz x i q cl σ lo)
  (H:Cx B0 W S (.obj q (.row (x.row k c sv uv i key au nn cE err))::.sl sv 1 L::(lo++(ad m bl y rest++R))) ro):
  aG EM (.fn (.func 481) [] cl) [.ptr m 0] S λu S'=>∃ab,oA x k c q sv uv L i key au nn cE err (zd (vz x i q cl) cX.over 0 (σ.step x.j i y) (ad m bl · rest) R) (tR cX.over 0 (σ.step x.j i y) (ad m bl · rest) R (Qe sv L uv i key au nn err)) u ab/\Cx B0 W S' ab ro:=by
 cases h with
 |f hi h=>
  cases h with
  |@mk b1 b2 b3 b4 v1=>
   refine y1 H oB ?_;intros;next qm lm hm=>
   refine Vx.bB (own:=.obj q _::.sl sv 1 _::.obj b1 _::.obj b2 _::.obj b3 _::.obj b4 _::(lm++(ad m bl y rest++R))) HQ ?_;refine Vx.cC (A:=[_,_,_,_,_,_]) (λB W S H=>At hs hy hm H) λa' x' l' e hl=>?_
   skip
   cases ho:a'.over
   .refine z1 ?_;exact bX e (.r rfl hl ho) ho HQ
   .refine z1 ?_;exact aC e ho (.s h1 h2 h3) .rfl HQ
 |@r b1 b2 b3 b4 qm mk σ lm dc h ho=>
  subst dc;refine y1 H oB ?_;refine Vx.cC (A:=[_,_,_,_,_,_]) (λB W S H=>At hs hy h H) λa' x' l' e hl=>?_
  skip
  cases ho:a'.over
  .refine z1 ?_;exact bX e (.r rfl hl ho) ho HQ
  .refine z1 ?_;exact aC e ho (.s h1 h2 h3) .rfl HQ
end
instance X8:m9 EM 464 "Step" 701:=⟨λ_=>by kernel_rfl⟩
instance X9:wy EM 439 464:=⟨λ_=>by kernel_rfl⟩
instance z55:cH 272 where
instance z56:cH 383 where
inductive Dt (vx:Nat)(q:Nat):List AV->List Own->Prop
 |mk {b1 b2 b3 b4 v1 v2:Nat}:Dt vx q [.ptr b1 0,.ptr b2 0,.ptr b3 0,.ptr b4 0] (dI b1 b2 b3 b4 (.fn (.func 383) [] [.ptr v1 0,.ptr v2 0]) Np Nf false++[.obj v1 (.row [.ptr q 0]),.obj v2 (.row [.fn (.func 272) [] [.ptr vx 0]])])
inductive xh (x:Xc)(i key:Int)(vx:Nat)(q:Nat)(cl:List AV):bF->List Own->Prop
 |f {lo}(hi:0<=i/\i<x.j.f.size)(h:Dt vx q cl lo):xh x i key vx q cl .a lo
 |r {b1 b2 b3 b4 qm:Nat}{mk σ lm}(dc:cl=[.ptr b1 0,.ptr b2 0,.ptr b3 0,.ptr b4 0])(h:wE x.j i key qm σ lm)(ho:σ.over=false):xh x i key vx q cl σ (dI b1 b2 b3 b4 mk (.ptr qm 0) Nf true++lm)
section
variable{B0 S:AH}{W:List Nat}{R lo:List Own}{ro:List aB}{m bl q vx:Nat}{y:Me}{rest cl:List AV}{x:Xc}{k c i key au cE err:Int}{nn:Bool}{sv uv:AV}{L:List (List AV)}
theorem HB {σ}(h1:odd sv=false)(h2:sv.cells=[sv])(h3:AV.beq sv sv=true)(hs:x.j.ok)(hy:y.gd)(h:xh x i key vx q cl σ lo)
  (H:Cx B0 W S (.obj q (.row (x.row k c sv uv i key au nn cE err))::.sl sv 1 L::(lo++(ad m bl y rest++(.obj vx (.row [.ptr q 0])::R)))) ro):
  aG EM (.fn (.func 486) [] cl) [.ptr m 0] S λu S'=>∃ab,oA x k c q sv uv L i key au nn cE err (zd (xh x i key vx q cl) bF.over 0 (σ.step x.j i key y) (ad m bl · rest) (.obj vx (.row [.ptr q 0])::R)) (tR bF.over 0 (σ.step x.j i key y) (ad m bl · rest) (.obj vx (.row [.ptr q 0])::R) (Qe sv L uv i key au nn err)) u ab/\Cx B0 W S' ab ro:=by
 cases h with
 |f hi h=>
  cases h with
  |@mk b1 b2 b3 b4 v1 v2=>
   refine y1 H oB ?_;intros;next qm lm hm=>
   refine Vx.bB (own:=.obj q _::.sl sv 1 _::.obj b1 _::.obj b2 _::.obj b3 _::.obj b4 _::(lm++(ad m bl y rest++(.obj vx (.row [.ptr q 0])::R)))) HQ ?_;refine Vx.cC (A:=[_,_,_,_,_,_]) (λB W S H=>oz hs hy hm H) λa' x' l' e hl=>?_
   skip
   cases ho:a'.over
   .refine z1 ?_;exact bX e (.r rfl hl ho) ho HQ
   .refine z1 ?_;exact aC e ho (.s h1 h2 h3) .rfl HQ
 |@r b1 b2 b3 b4 qm mk σ lm dc h ho=>
  subst dc;refine y1 H oB ?_;refine Vx.cC (A:=[_,_,_,_,_,_]) (λB W S H=>oz hs hy h H) λa' x' l' e hl=>?_
  skip
  cases ho:a'.over
  .refine z1 ?_;exact bX e (.r rfl hl ho) ho HQ
  .refine z1 ?_;exact aC e ho (.s h1 h2 h3) .rfl HQ
end
instance z57:cH 424 where
inductive AG (vx:Nat)(q:Nat):List AV->List Own->Prop
 |mk {b1 b2 b3 b4 v1 v2:Nat}:AG vx q [.ptr b1 0,.ptr b2 0,.ptr b3 0,.ptr b4 0] (dI b1 b2 b3 b4 (.fn (.func 383) [] [.ptr v1 0,.ptr v2 0]) Np Nf false++[.obj v1 (.row [.ptr q 0]),.obj v2 (.row [.fn (.func 424) [] [.ptr vx 0]])])
inductive xi (x:Xc)(i key:Int)(vx:Nat)(q:Nat)(cl:List AV):bF->List Own->Prop
 |f {lo}(hi:0<=i/\i<x.j.f.size)(h:AG vx q cl lo):xi x i key vx q cl .a lo
 |r {b1 b2 b3 b4 qm:Nat}{mk σ lm}(dc:cl=[.ptr b1 0,.ptr b2 0,.ptr b3 0,.ptr b4 0])(h:wE x.j i key qm σ lm)(ho:σ.over=false):xi x i key vx q cl σ (dI b1 b2 b3 b4 mk (.ptr qm 0) Nf true++lm)
section
variable{B0 S:AH}{W:List Nat}{R lo:List Own}{ro:List aB}{m bl q vx:Nat}{y:Me}{rest cl:List AV}{x:Xc}{k c i key au cE err:Int}{nn:Bool}{sv uv:AV}{L:List (List AV)}
theorem HC {σ}(h1:odd sv=false)(h2:sv.cells=[sv])(h3:AV.beq sv sv=true)(hs:x.j.ok)(hy:y.gd)(h:xi x i key vx q cl σ lo)
  (H:Cx B0 W S (.obj q (.row (x.row k c sv uv i key au nn cE err))::.sl sv 1 L::(lo++(ad m bl y rest++(.obj vx (.row [.ptr q 0])::R)))) ro):
  aG EM (.fn (.func 486) [] cl) [.ptr m 0] S λu S'=>∃ab,oA x k c q sv uv L i key au nn cE err (zd (xi x i key vx q cl) bF.over 0 (σ.step x.j i key y) (ad m bl · rest) (.obj vx (.row [.ptr q 0])::R)) (tR bF.over 0 (σ.step x.j i key y) (ad m bl · rest) (.obj vx (.row [.ptr q 0])::R) (Qe sv L uv i key au nn err)) u ab/\Cx B0 W S' ab ro:=by
 cases h with
 |f hi h=>
  cases h with
  |@mk b1 b2 b3 b4 v1 v2=>
   refine y1 H oB ?_;intros;next qm lm hm=>
   refine Vx.bB (own:=.obj q _::.sl sv 1 _::.obj b1 _::.obj b2 _::.obj b3 _::.obj b4 _::(lm++(ad m bl y rest++(.obj vx (.row [.ptr q 0])::R)))) HQ ?_;refine Vx.cC (A:=[_,_,_,_,_,_]) (λB W S H=>oz hs hy hm H) λa' x' l' e hl=>?_
   skip
   cases ho:a'.over
   .refine z1 ?_;exact bX e (.r rfl hl ho) ho HQ
   .refine z1 ?_;exact aC e ho (.s h1 h2 h3) .rfl HQ
 |@r b1 b2 b3 b4 qm mk σ lm dc h ho=>
  subst dc;refine y1 H oB ?_;refine Vx.cC (A:=[_,_,_,_,_,_]) (λB W S H=>oz hs hy h H) λa' x' l' e hl=>?_
  skip
  cases ho:a'.over
  .refine z1 ?_;exact bX e (.r rfl hl ho) ho HQ
  .refine z1 ?_;exact aC e ho (.s h1 h2 h3) .rfl HQ
end
instance z58:cH 425 where
inductive AJ (vx:Nat)(q:Nat):List AV->List Own->Prop
 |mk {b1 b2 b3 b4 v1 v2:Nat}:AJ vx q [.ptr b1 0,.ptr b2 0,.ptr b3 0,.ptr b4 0] (dI b1 b2 b3 b4 (.fn (.func 383) [] [.ptr v1 0,.ptr v2 0]) Np Nf false++[.obj v1 (.row [.ptr q 0]),.obj v2 (.row [.fn (.func 425) [] [.ptr vx 0]])])
inductive xj (x:Xc)(i key:Int)(vx:Nat)(q:Nat)(cl:List AV):bF->List Own->Prop
 |f {lo}(hi:0<=i/\i<x.j.f.size)(h:AJ vx q cl lo):xj x i key vx q cl .a lo
 |r {b1 b2 b3 b4 qm:Nat}{mk σ lm}(dc:cl=[.ptr b1 0,.ptr b2 0,.ptr b3 0,.ptr b4 0])(h:wE x.j i ((key+1)%18446744073709551616) qm σ lm)(ho:σ.over=false):xj x i key vx q cl σ (dI b1 b2 b3 b4 mk (.ptr qm 0) Nf true++lm)
section
variable{B0 S:AH}{W:List Nat}{R lo:List Own}{ro:List aB}{m bl q vx:Nat}{y:Me}{rest cl:List AV}{x:Xc}{k c i key au cE err:Int}{nn:Bool}{sv uv:AV}{L:List (List AV)}
theorem HD {σ}(h1:odd sv=false)(h2:sv.cells=[sv])(h3:AV.beq sv sv=true)(hs:x.j.ok)(hy:y.gd)(h:xj x i key vx q cl σ lo)
  (H:Cx B0 W S (.obj q (.row (x.row k c sv uv i key au nn cE err))::.sl sv 1 L::(lo++(ad m bl y rest++(.obj vx (.row [.ptr q 0])::R)))) ro):
  aG EM (.fn (.func 486) [] cl) [.ptr m 0] S λu S'=>∃ab,oA x k c q sv uv L i key au nn cE err (zd (xj x i key vx q cl) bF.over 0 (σ.step x.j i ((key+1)%18446744073709551616) y) (ad m bl · rest) (.obj vx (.row [.ptr q 0])::R)) (tR bF.over 0 (σ.step x.j i ((key+1)%18446744073709551616) y) (ad m bl · rest) (.obj vx (.row [.ptr q 0])::R) (Qe sv L uv i key au nn err)) u ab/\Cx B0 W S' ab ro:=by
 cases h with
 |f hi h=>
  cases h with
  |@mk b1 b2 b3 b4 v1 v2=>
   refine y1 H oB ?_;intros;next qm lm hm=>
   refine Vx.bB (own:=.obj q _::.sl sv 1 _::.obj b1 _::.obj b2 _::.obj b3 _::.obj b4 _::(lm++(ad m bl y rest++(.obj vx (.row [.ptr q 0])::R)))) HQ ?_;refine Vx.cC (A:=[_,_,_,_,_,_]) (λB W S H=>oz hs hy hm H) λa' x' l' e hl=>?_
   skip
   cases ho:a'.over
   .refine z1 ?_;exact bX e (.r rfl hl ho) ho HQ
   .refine z1 ?_;exact aC e ho (.s h1 h2 h3) .rfl HQ
 |@r b1 b2 b3 b4 qm mk σ lm dc h ho=>
  subst dc;refine y1 H oB ?_;refine Vx.cC (A:=[_,_,_,_,_,_]) (λB W S H=>oz hs hy h H) λa' x' l' e hl=>?_
  skip
  cases ho:a'.over
  .refine z1 ?_;exact bX e (.r rfl hl ho) ho HQ
  .refine z1 ?_;exact aC e ho (.s h1 h2 h3) .rfl HQ
end
instance X_:m9 EM 375 "Step" 697:=⟨λ_=>by kernel_rfl⟩
instance Ya:wy EM 439 375:=⟨λ_=>by kernel_rfl⟩
instance z59:cH 288 where
section
variable{B0 S:AH}{W:List Nat}{R lo:List Own}{ro:List aB}{m bl q vx:Nat}{y:Me}{rest cl:List AV}{x:Xc}{k c i key au cE err:Int}{nn:Bool}{sv uv:AV}{L:List (List AV)}
end
theorem qZ.wG {t r}{c:Int}{q:Nat}{b:Int}{σ lo}(h:qZ t r c q b σ lo):∃cb left look key words du flag done er lf,lo=.obj q (.row (r.qY cb left look key words du flag b done er))::lf:=by
 cases h<;>exact⟨_,_,_,_,_,_,_,_,_,_,rfl⟩
instance aa6:m9 EM 497 "Step" 709:=⟨λ_=>by kernel_rfl⟩
instance aa7:JS EM 439 497:=⟨λ_=>by kernel_rfl⟩
instance aa8:m9 EM 497 "By" 708:=⟨λ_=>by kernel_rfl⟩
instance z60:cH 708 where
instance z61:cH 412 where
inductive AK (q:Nat):List AV->List Own->Prop
 |mk {b1 b2 b3 b4 v1:Nat}:AK q [.ptr b1 0,.ptr b2 0,.ptr b3 0,.ptr b4 0] (dI b1 b2 b3 b4 (.fn (.func 412) [] [.ptr v1 0]) Np Nf false++[.obj v1 (.row [.ptr q 0])])
inductive Ev (x:Xc)(c:Int)(q:Nat)(cl:List AV):cN->List Own->Prop
 |f {lo}(h:AK q cl lo):Ev x c q cl (.k (.p .a)) lo
 |r {b1 b2 b3 b4 qm:Nat}{b:Int}{mk σ lm}(dc:cl=[.ptr b1 0,.ptr b2 0,.ptr b3 0,.ptr b4 0])(h:qZ x.t x.r c qm b σ lm)(ho:σ.over=false):Ev x c q cl σ (dI b1 b2 b3 b4 mk (.ptr qm 0) Nf true++lm)
section
variable{B0 S:AH}{W:List Nat}{R lo:List Own}{ro:List aB}{m bl q vx:Nat}{y:Me}{rest cl:List AV}{x:Xc}{k c i key au cE err:Int}{nn:Bool}{sv uv:AV}{L:List (List AV)}
theorem J2 {σ}(h1:odd sv=false)(h2:sv.cells=[sv])(h3:AV.beq sv sv=true)(hs:x.t.ok)(hr:x.r.ok)(hc:0<=c/\c<x.t.l.e.ah)(hy:y.gd)(h:Ev x c q cl σ lo)
  (H:Cx B0 W S (.obj q (.row (x.row k c sv uv i key au nn cE err))::.sl sv 1 L::(lo++(ad m bl y rest++R))) ro):
  aG EM (.fn (.func 506) [] cl) [.ptr m 0] S λu S'=>∃ab,oA x k c q sv uv L i key au nn cE err (zd (Ev x c q cl) cN.over σ.cM (σ.step x.t x.r c y) (ad m bl · rest) R) (tR cN.over σ.cM (σ.step x.t x.r c y) (ad m bl · rest) R (Qe sv L uv i key au nn err)) u ab/\Cx B0 W S' ab ro:=by
 have Nv:((0<=x.t.nd/\x.t.nd<4096)/\(0<=x.t.hd/\x.t.hd<4096)/\(1<=x.t.ht/\x.t.ht<=4)/\1<=x.t.l.a.f.size/\x.t.l.a.f.size<=128)/\(0<=c/\c<x.t.l.e.ah)/\1<=x.r.ah/\x.r.ah<=64:=by have bt:=hs;have py:=hr;unfold Tw.ok Lb.ok Ar.ok Sk.ok at bt;unfold Rs.ok at py;omega
 cases h with
 |f h=>
  cases h with
  |@mk b1 b2 b3 b4 v1=>
   refine y1 H oB ?_;intros;next qm lm hm=>
   refine Vx.bB (own:=.obj q _::.sl sv 1 _::.obj b1 _::.obj b2 _::.obj b3 _::.obj b4 _::(lm++(ad m bl y rest++R))) HQ ?_;refine Vx.cC (A:=[_,_,_,_,_,_]) (λB W S H=>Ds hs hr hc hy (by first|assumption|rfl) hm H) λa' x' l' e hl=>?_;obtain⟨cb,left,look,Yb,words,du,flag,done,er,lf,rfl⟩:=hl.wG;cases ho:a'.over
   .refine z1 ?_;exact bX e (.r rfl hl ho) ho HQ
   .refine z1 ?_;exact aC e ho (.s h1 h2 h3) .rfl HQ
 |@r b1 b2 b3 b4 qm b mk σ lm dc h ho=>
  subst dc;refine y1 H oB ?_;refine Vx.cC (A:=[_,_,_,_,_,_]) (λB W S H=>Ds hs hr hc hy (by first|assumption|rfl) h H) λa' x' l' e hl=>?_;obtain⟨cb,left,look,Yb,words,du,flag,done,er,lf,rfl⟩:=hl.wG;cases ho:a'.over
  .refine z1 ?_;exact bX e (.r rfl hl ho) ho HQ
  .refine z1 ?_;exact aC e ho (.s h1 h2 h3) .rfl HQ
end
end Go.cO
