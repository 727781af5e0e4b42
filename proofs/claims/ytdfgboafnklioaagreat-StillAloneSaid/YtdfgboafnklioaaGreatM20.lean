/- Contracts of functions, over the abstract machine. Conditions: stated in each theorem. -/
import Derived.Test.YtdfgboafnklioaaGreatM13
set_option linter.all false
set_option maxRecDepth 100000
set_option maxHeartbeats 4000000
namespace Go.cY
open Go.Proofs
section
instance z42:cF 482 where
section
variable{f n a e t j0 j1 j2 j3 j4 i fr to c k h r0 r1 r2 r3:Int}
instance R8:NC EM (zF 256) [.agg [I f,I n],I a,I e,I t] ((0≤f∧f<100000)∧(0≤a∧a<n∧n<100000)∧(0≤e∧e≤1099511627776)∧0≤t∧t≤1099511627776)
  (fun q l=>mZ (f+a) e t q .a l):=.of rfl rfl fun h ro R=>by
 obtain⟨h0,h1,h2,h3⟩:=h
 have e1:e%18446744073709551616=e:=by omega
 have e2:t%18446744073709551616=t:=by omega
 show Zx EM false (Tryz.a256 _) _ _ _ _
 (repeat' first|constructor|exact ZQ|intro _)
 all_goals apply zL
 rw[e1,e2]
 exact⟨rfl,rfl,(_::R),⟨_,_,mZ.a,rfl,rfl⟩,HQ⟩
instance R9:NC EM (zF 262) [.agg [I j0,I j1,I j2,I j3,I j4]] True
  (fun q l=>jP ⟨j0,j1,⟨j2,j3,j4⟩⟩ q (.p .a) l):=.of rfl rfl fun h ro R=>by
 show Zx EM false (Tryz.a262 _) _ _ _ _
 (repeat' first|constructor|exact ZQ|intro _)
 all_goals apply zL
 exact⟨rfl,rfl,(_::_::R),⟨_,_,jP.p .a rfl,rfl,rfl⟩,HQ⟩
instance R_:NC EM (zF 376) [.agg [I j0,I j1,I j2,I j3,I j4],I i] (0≤i∧i<j4)
  (fun q l=>nX ⟨j0,j1,⟨j2,j3,j4⟩⟩ i q .l l):=.of rfl rfl fun h ro R=>by
 show Zx EM false (Tryz.a376 _) _ _ _ _
 (repeat' first|constructor|exact ZQ|intro _)
 all_goals apply zL
 exact⟨rfl,rfl,(_::_::R),⟨_,_,nX.l h (.a h),rfl,rfl⟩,HQ⟩
instance U5:NC EM (zF 384) [.agg [I j0,I j1,I j2,I j3,I j4],I i,U k] (0≤i∧i<j4)
  (fun q l=>vk ⟨j0,j1,⟨j2,j3,j4⟩⟩ i k q .a l):=.of rfl rfl fun h ro R=>by
 show Zx EM false (Tryz.a384 _) _ _ _ _
 (repeat' first|constructor|exact ZQ|intro _)
 all_goals apply zL
 exact⟨rfl,rfl,(_::R),⟨_,_,vk.a h,rfl,rfl⟩,HQ⟩
instance Pq:NC EM (zF 399) [.agg [I j0,I j1,I j2,I j3,I j4],I i] (0≤i∧i<j4)
  (fun q l=>iC ⟨j0,j1,⟨j2,j3,j4⟩⟩ i q .a l):=.of rfl rfl fun h ro R=>by
 show Zx EM false (Tryz.a399 _) _ _ _ _
 (repeat' first|constructor|exact ZQ|intro _)
 all_goals apply zL
 exact⟨rfl,rfl,(_::R),⟨_,_,iC.a h,rfl,rfl⟩,HQ⟩
instance Sa [VC EM (zF 491) [I fr,I to] True (B true)]:NC EM (zF 390) [.agg [I j0,I j1,I j2,I j3,I j4],I i,I fr,I to,I c] ((0≤i∧i<j4)∧0≤c∧c<64)
  (fun q l=>pU ⟨j0,j1,⟨j2,j3,j4⟩⟩ i fr to c q .l l):=.of rfl rfl fun⟨h,hc⟩ ro R=>by
 show Zx EM false (Tryz.a390 _) _ _ _ _
 (repeat' first|constructor|exact ZQ|intro _)
 all_goals apply zL
 exact⟨rfl,rfl,(_::R),⟨_,_,pU.l h,rfl,rfl⟩,HQ⟩
instance Pr:NC EM (zF 393) [.agg [I r0,I r1,I r2,I r3]] (Rn.ok ⟨r0,r1,r2,r3⟩)
  (fun q l=>ji ⟨r0,r1,r2,r3⟩ q .a l):=.of rfl rfl fun h ro R=>by
 unfold Rn.ok at h
 show Zx EM false (Tryz.a393 _) _ _ _ _
 (repeat' first|constructor|exact ZQ|intro _)
 all_goals apply zL
 exact⟨rfl,rfl,(_::R),⟨_,_,ji.a,rfl,rfl⟩,HQ⟩
instance Sb:NC EM (zF 289) [.agg [I r0,I r1,I r2,I r3],U h] (Rn.ok ⟨r0,r1,r2,r3⟩∧Me.ar h)
  (fun q l=>pT ⟨r0,r1,r2,r3⟩ h q .a l):=.of rfl rfl fun⟨h,hw⟩ ro R=>by
 unfold Rn.ok at h
 show Zx EM false (Tryz.a289 _) _ _ _ _
 (repeat' first|constructor|exact ZQ|intro _)
 all_goals apply zL
 exact⟨rfl,rfl,(_::R),⟨_,_,pT.a hw,rfl,rfl⟩,HQ⟩
end
end
section
def Xc.cs (x:Xc):List AV:=x.t.cs++[I x.b9,I x.many,I x.j.bx,I x.j.keys,I x.j.f.top,I x.j.f.fJ,I x.j.f.size,I x.iB,I x.aH,I x.room,I x.r.runs,I x.r.flags,I x.r.ah,I x.own,I x.seq]
def Xc.row (x:Xc)(k c:Int)(sv uv:AV)(i key au:Int)(none:Bool)(cz err:Int):List AV:=x.cs++[Ns,I k,I c,sv,uv,I i,U key,U au,B none,U cz,I err]
inductive AR:AV→List (List AV)→List Own→Prop
 |n:AR Ns [] []
 |s {v L}(h1:ep v=false)(h2:v.cells=[v])(h3:AV.beq v v=true):AR v L [.sl v 1 L]
instance Sc {L v}{i:Int}:KR (L++[[v]]) i (i=L.length) v where
 ok:=fun h=>⟨L.length,by omega,by simp⟩
instance z43:cF 91 where
inductive nF (x:Xc)(k c:Int)(q:Nat)(sv uv:AV)(L:List (List AV))(i key au:Int)(none:Bool)(cn err:Int)(vo:Int→List Own→Prop)(zf:Int→AV→List (List AV)→AV→Int→Int→Int→Bool→Int→List Own→Prop):AV→List Own→Prop
 |f {b:Int}{A}(h:vo b A):nF x k c q sv uv L i key au none cn err vo zf (.cP [B false,U b]) (.obj q (.row (x.row k c sv uv i key au none cn err))::.sl sv 1 L::A)
 |t {b i' aI aJ aF:Int}{wg:Bool}{aM b7 L' fA A}(hs:AR aM L' fA)(h:zf b aM L' b7 i' aI aJ wg aF A):nF x k c q sv uv L i key au none cn err vo zf (.cP [B true,U b]) (.obj q (.row (x.row k c aM b7 i' aI aJ wg cn aF))::(fA++A))
inductive U6 (x:Xc)(k c:Int)(q:Nat)(H6 uv:AV)(L:List (List AV))(i key au:Int)(none:Bool)(err:Int)(vo:Int→List Own→Prop)(zf:Int→AV→List (List AV)→AV→Int→Int→Int→Bool→Int→List Own→Prop):AV→List Own→Prop
 |f {b:Int}{sv A}(h1:ep sv=false)(h2:sv.cells=[sv])(h3:AV.beq sv sv=true)(h:vo b A):U6 x k c q H6 uv L i key au none err vo zf (B false) (.obj q (.row (x.row k c sv uv i key au none b err))::.sl sv 1 (L++[[H6]])::A)
 |t {b i' aI aJ aF:Int}{wg:Bool}{aM b7 L' fA A}(hs:AR aM L' fA)(h:zf b aM L' b7 i' aI aJ wg aF A):U6 x k c q H6 uv L i key au none err vo zf (B (decide (L'.length=0))) (.obj q (.row (x.row k c aM b7 i' aI aJ wg b aF))::(fA++A))
section
variable{B0 S:AH}{W:List Nat}{A:List Own}{ro:List aQ}{m q:Nat}{x:Xc}{k c i key au cn err:Int}{none:Bool}{sv uv:AV}{nf:Nat}{fc:List AV}{L:List (List AV)}
 {vo:Int→List Own→Prop} {zf:Int→AV→List (List AV)→AV→Int→Int→Int→Bool→Int→List Own→Prop}
theorem H7 (hL:L.length≤64)
  (hc:∀aM:AV,ep aM=false→aM.cells=[aM]→AV.beq aM aM=true→∀B W S,Cx B W S (.obj q (.row (x.row k c aM uv i key au none cn err))::.sl aM 1 L::A) ro→
    aO EM (.fn (.func nf) [] fc) [.ptr m 0] S fun u S'=>∃ab,nF x k c q aM uv L i key au none cn err vo zf u ab∧Cx B W S' ab ro)
  (H:Cx B0 W S (.obj q (.row (x.row k c sv uv i key au none cn err))::.sl sv 1 (L++[[AV.fn (.func nf) [] fc]])::A) ro):
  aO EM (zF 20) [.ptr q 0,.ptr m 0] S fun u S'=>∃ab,U6 x k c q (.fn (.func nf) [] fc) uv L i key au none err vo zf u ab∧Cx B0 W S' ab ro:=by
 simp only[Xc.row,Xc.cs,Tw.cs,Lb.cs,Ar.cs,Ep.cs,lA,lB] at H
 refine Vx.fm H rfl (b:=Tryz.a20) ?_
 have JB:(L++[[AV.fn (.func nf) [] fc]]).length=L.length+1:=by simp
 have Tc:Int.ofNat (L++[[AV.fn (.func nf) [] fc]]).length=(L.length:Int)+1:=by rw[JB];rfl
 have nL:Int.ofNat (L++[[AV.fn (.func nf) [] fc]]).length-1=Int.ofNat L.length:=by rw[Tc];show _=(L.length:Int);omega
 (repeat' first|constructor|exact ZQ|intro _)
 all_goals apply zL
 rw[nL]
 refine(Zx.O7 (a:=L.length) (L':=L) (.tl .hd) (by rw[JB];simp[Nat.ble_eq]) (by simp) (fun v'=>.tl .hd) fun ZJ h1 h2 h3=>?_).ok
 (repeat' first|constructor|exact ZQ|intro _)
 all_goals apply zL
 refine Vx.spec (hc ZJ h1 h2 h3) fun u ab h=>?_
 haveI:di:=⟨⟩
 cases h with
 |@f b A' hA=>
  simp only[Xc.row,Xc.cs,Tw.cs,Lb.cs,Ar.cs,Ep.cs,lA,lB]
  (repeat' first|constructor|exact ZQ|intro _)
  all_goals apply zL
  ·simp;omega
  ·exfalso
   have h0:=(by assumption:Int.ofNat (L++List.map (fun a=>[a]) [AV.fn (Fn.func nf) [] fc]).length=0)
   simp at h0;omega
  ·exact⟨rfl,rfl,_,.f (by assumption) (by assumption) (by assumption) hA,HQ⟩
 |@t b i' aI aJ aF wg aM b7 L' fA A' hs hA=>
  simp only[Xc.row,Xc.cs,Tw.cs,Lb.cs,Ar.cs,Ep.cs,lA,lB]
  cases hs with
  |n=>
   (repeat' first|constructor|exact ZQ|intro _)
   all_goals apply zL
   exact⟨rfl,rfl,_,.t .n hA,HQ⟩
  |s g1 g2 g3=>
   (repeat' first|constructor|exact ZQ|intro _)
   all_goals apply zL
   ·next h0=>
    have e:cY.B true=cY.B (decide (L'.length=0)):=by rw[decide_eq_true (by have:(L'.length:Int)=0:=h0;omega)]
    rw[e]
    exact⟨rfl,rfl,_,.t (.s g1 g2 g3) hA,HQ⟩
   ·next h0=>
    have e:cY.B false=cY.B (decide (L'.length=0)):=by rw[decide_eq_false (fun h=>h0 (by show(L'.length:Int)=0;omega))]
    rw[e]
    exact⟨rfl,rfl,_,.t (.s g1 g2 g3) hA,HQ⟩
end
end
section
def dp (b1 b2 b3 b4:Nat)(mk now th:AV)(made:Bool):List Own:=[.obj b1 (.row [B made]),.obj b2 (.row [mk]),.obj b3 (.row [now]),.obj b4 (.row [th])]
def xY {α:Type}(P:α→List Own→Prop)(ov:α→Bool)(cz:Int)(st:α×Me)(mem:Me→List Own)(R:List Own):Int→List Own→Prop:=
 fun b A=>b=cz∧ov st.1=false∧∃lo,P st.1 lo∧A=lo++(mem st.2++R)
def sC {α:Type}(ov:α→Bool)(cz:Int)(st:α×Me)(mem:Me→List Own)(R:List Own)(E:α→AV→List (List AV)→AV→Int→Int→Int→Bool→Int→Prop):Int→AV→List (List AV)→AV→Int→Int→Int→Bool→Int→List Own→Prop:=
 fun b aM L' b7 i' aI aJ cJ aF A=>b=cz∧ov st.1=true∧E st.1 aM L' b7 i' aI aJ cJ aF∧A=mem st.2++R
def Qe {α:Type}(sv:AV)(L:List (List AV))(uv:AV)(i key au:Int)(nn:Bool)(err:Int):α→AV→List (List AV)→AV→Int→Int→Int→Bool→Int→Prop:=
 fun _ aM L' b7 i' aI aJ cJ aF=>aM=sv∧L'=L∧b7=uv∧i'=i∧aI=key∧aJ=au∧cJ=nn∧aF=err
section
variable{α:Type}{x:Xc}{k c i key au cn err b:Int}{q:Nat}{nn:Bool}{sv uv:AV}{L:List (List AV)}{P:α→List Own→Prop}{ov:α→Bool}{st:α×Me}{mem:Me→List Own}{R own:List Own}{ro:List aQ}
theorem bP {zf a' y' lO}(e:st=(a',y'))(hP:P a' lO)(ho:ov a'=false)(hs:Hs own (.obj q (.row (x.row k c sv uv i key au nn cn err))::.sl sv 1 L::(lO++(mem y'++R)))):
  mX ro (nF x k c q sv uv L i key au nn cn err (xY P ov b st mem R) zf) .ret [B false,U b] own ro:=by
 subst e
 exact⟨rfl,rfl,_,.f ⟨rfl,ho,lO,hP,rfl⟩,hs⟩
theorem aB {vo E a' y' aM b7 L'}{i' aI aJ aF:Int}{cJ:Bool}{fA}(e:st=(a',y'))(ho:ov a'=true)(hk:AR aM L' fA)(hE:E a' aM L' b7 i' aI aJ cJ aF)
  (hs:Hs own (.obj q (.row (x.row k c aM b7 i' aI aJ cJ cn aF))::(fA++(mem y'++R)))):
  mX ro (nF x k c q sv uv L i key au nn cn err vo (sC ov b st mem R E)) .ret [B true,U b] own ro:=by
 subst e
 exact⟨rfl,rfl,_,.t hk ⟨rfl,ho,hE,rfl⟩,hs⟩
end
theorem Qe.rfl {α:Type}{a:α}{sv:AV}{L:List (List AV)}{uv:AV}{i key au:Int}{nn:Bool}{err:Int}:Qe sv L uv i key au nn err a sv L uv i key au nn err:=⟨Eq.refl _,Eq.refl _,Eq.refl _,Eq.refl _,Eq.refl _,Eq.refl _,Eq.refl _,Eq.refl _⟩
instance U7:mi EM 472 "Step" 702:=⟨fun _=>by kernel_rfl⟩
instance U8:va EM 439 472:=⟨fun _=>by kernel_rfl⟩
instance z44:cF 389 where
inductive kO (fr to:Int)(q:Nat):List AV→List Own→Prop
 |mk {b1 b2 b3 b4 v1 v2 v3:Nat}:kO fr to q [.ptr b1 0,.ptr b2 0,.ptr b3 0,.ptr b4 0] (dp b1 b2 b3 b4 (.fn (.func 389) [] [.ptr v1 0,.ptr v2 0,.ptr v3 0]) Np Nf false++[.obj v1 (.row [.ptr q 0]),.obj v2 (.row [I fr]),.obj v3 (.row [I to])])
inductive m_ (x:Xc)(i fr to c:Int)(q:Nat)(cl:List AV):bE→List Own→Prop
 |f {lo}(hi:0≤i∧i<x.j.f.size)(h:kO fr to q cl lo):m_ x i fr to c q cl .l lo
 |r {b1 b2 b3 b4 qm:Nat}{mk σ lm}(dw:cl=[.ptr b1 0,.ptr b2 0,.ptr b3 0,.ptr b4 0])(h:pU x.j i fr to c qm σ lm)(ho:σ.over=false):m_ x i fr to c q cl σ (dp b1 b2 b3 b4 mk (.ptr qm 0) Nf true++lm)
section
variable{B0 S:AH}{W:List Nat}{R lo:List Own}{ro:List aQ}{m bl q:Nat}{y:Me}{rest cl:List AV}{x:Xc}{k c i key au cn err fr to:Int}{nn:Bool}{sv uv:AV}{L:List (List AV)}
theorem nG {o1 own:List Own}(e:o1=own:=by conv=>lhs;simp only[dp,Xc.row,Xc.cs,Tw.cs,Lb.cs,Ar.cs,Ep.cs,lA,lB,lC]):o1=own:=e
theorem kP [VC EM (zF 491) [I fr,I to] True (B true)]{σ:bE}(h1:ep sv=false)(h2:sv.cells=[sv])(h3:AV.beq sv sv=true)(hs:x.j.ok)(hf:0≤fr∧fr<6)(ht:0≤to∧to<6)(hc:0≤c∧c<64)(hy:y.gd)(h:m_ x i fr to c q cl σ lo)
  (H:Cx B0 W S (.obj q (.row (x.row k c sv uv i key au nn cn err))::.sl sv 1 L::(lo++(ad m bl y rest++R))) ro):
  aO EM (.fn (.func 490) [] cl) [.ptr m 0] S fun u S'=>∃ab,nF x k c q sv uv L i key au nn cn err (xY (m_ x i fr to c q cl) bE.over 0 (σ.step x.j i fr to c y) (ad m bl · rest) R) (sC bE.over 0 (σ.step x.j i fr to c y) (ad m bl · rest) R (Qe sv L uv i key au nn err)) u ab∧Cx B0 W S' ab ro:=by
 cases h with
 |f hi h=>
  cases h with
  |@mk b1 b2 b3 b4 v1 v2 v3=>
   refine Vx.fm H nG (b:=Tryz.a490) ?_;(repeat' first|constructor|exact ZQ|intro _);all_goals apply zL
   next qm lm hm=>
   refine Vx.cb (own:=.obj q _::.sl sv 1 _::.obj b1 _::.obj b2 _::.obj b3 _::.obj b4 _::(lm++(ad m bl y rest++R))) HQ ?_
   refine Vx.cf (A:=[_,_,_,_,_,_]) (fun B W S H=>y5 hs hf ht hc hy hm H) fun a' x' l' e hl=>?_
   cases ho:a'.over
   ·(repeat' first|constructor|exact ZQ|intro _)
    all_goals apply zL
    exact bP e (.r rfl hl ho) ho HQ
   ·(repeat' first|constructor|exact ZQ|intro _)
    all_goals apply zL
    exact aB e ho (.s h1 h2 h3) .rfl HQ
 |@r b1 b2 b3 b4 qm mk σ lm dw h ho=>
  subst dw
  refine Vx.fm H nG (b:=Tryz.a490) ?_;(repeat' first|constructor|exact ZQ|intro _);all_goals apply zL
  refine Vx.cf (A:=[_,_,_,_,_,_]) (fun B W S H=>y5 hs hf ht hc hy h H) fun a' x' l' e hl=>?_
  cases ho:a'.over
  ·(repeat' first|constructor|exact ZQ|intro _)
   all_goals apply zL
   exact bP e (.r rfl hl ho) ho HQ
  ·(repeat' first|constructor|exact ZQ|intro _)
   all_goals apply zL
   exact aB e ho (.s h1 h2 h3) .rfl HQ
end
end
section
instance U9:mi EM 450 "Step" 700:=⟨fun _=>by kernel_rfl⟩
instance U_:va EM 439 450:=⟨fun _=>by kernel_rfl⟩
instance z45:cF 375 where
inductive zg (q:Nat):List AV→List Own→Prop
 |mk {b1 b2 b3 b4 v1:Nat}:zg q [.ptr b1 0,.ptr b2 0,.ptr b3 0,.ptr b4 0] (dp b1 b2 b3 b4 (.fn (.func 375) [] [.ptr v1 0]) Np Nf false++[.obj v1 (.row [.ptr q 0])])
inductive tX (x:Xc)(i:Int)(q:Nat)(cl:List AV):dm→List Own→Prop
 |f {lo}(hi:0≤i∧i<x.j.f.size)(h:zg q cl lo):tX x i q cl .l lo
 |r {b1 b2 b3 b4 qm:Nat}{mk σ lm}(dw:cl=[.ptr b1 0,.ptr b2 0,.ptr b3 0,.ptr b4 0])(h:nX x.j i qm σ lm)(ho:σ.over=false):tX x i q cl σ (dp b1 b2 b3 b4 mk (.ptr qm 0) Nf true++lm)
section
variable{B0 S:AH}{W:List Nat}{R lo:List Own}{ro:List aQ}{m bl q vx:Nat}{y:Me}{rest cl:List AV}{x:Xc}{k c i key au cn err:Int}{nn:Bool}{sv uv:AV}{L:List (List AV)}
theorem zh {σ}(h1:ep sv=false)(h2:sv.cells=[sv])(h3:AV.beq sv sv=true)(hs:x.j.ok)(hy:y.gd)(h:tX x i q cl σ lo)
  (H:Cx B0 W S (.obj q (.row (x.row k c sv uv i key au nn cn err))::.sl sv 1 L::(lo++(ad m bl y rest++R))) ro):
  aO EM (.fn (.func 481) [] cl) [.ptr m 0] S fun u S'=>∃ab,nF x k c q sv uv L i key au nn cn err (xY (tX x i q cl) dm.over 0 (σ.step x.j i y) (ad m bl · rest) R) (sC dm.over 0 (σ.step x.j i y) (ad m bl · rest) R (Qe sv L uv i key au nn err)) u ab∧Cx B0 W S' ab ro:=by
 cases h with
 |f hi h=>
  cases h with
  |@mk b1 b2 b3 b4 v1=>
   refine Vx.fm H nG (b:=Tryz.a481) ?_;(repeat' first|constructor|exact ZQ|intro _);all_goals apply zL
   next qm lm hm=>
   refine Vx.cb (own:=.obj q _::.sl sv 1 _::.obj b1 _::.obj b2 _::.obj b3 _::.obj b4 _::(lm++(ad m bl y rest++R))) HQ ?_
   refine Vx.cf (A:=[_,_,_,_,_,_]) (fun B W S H=>y6 hs hy hm H) fun a' x' l' e hl=>?_
   skip
   cases ho:a'.over
   ·(repeat' first|constructor|exact ZQ|intro _)
    all_goals apply zL
    exact bP e (.r rfl hl ho) ho HQ
   ·(repeat' first|constructor|exact ZQ|intro _)
    all_goals apply zL
    exact aB e ho (.s h1 h2 h3) .rfl HQ
 |@r b1 b2 b3 b4 qm mk σ lm dw h ho=>
  subst dw
  refine Vx.fm H nG (b:=Tryz.a481) ?_;(repeat' first|constructor|exact ZQ|intro _);all_goals apply zL
  refine Vx.cf (A:=[_,_,_,_,_,_]) (fun B W S H=>y6 hs hy h H) fun a' x' l' e hl=>?_
  skip
  cases ho:a'.over
  ·(repeat' first|constructor|exact ZQ|intro _)
   all_goals apply zL
   exact bP e (.r rfl hl ho) ho HQ
  ·(repeat' first|constructor|exact ZQ|intro _)
   all_goals apply zL
   exact aB e ho (.s h1 h2 h3) .rfl HQ
end
instance Va:mi EM 464 "Step" 701:=⟨fun _=>by kernel_rfl⟩
instance Vb:va EM 439 464:=⟨fun _=>by kernel_rfl⟩
instance z46:cF 272 where
instance z47:cF 383 where
inductive Cb (vx:Nat)(q:Nat):List AV→List Own→Prop
 |mk {b1 b2 b3 b4 v1 v2:Nat}:Cb vx q [.ptr b1 0,.ptr b2 0,.ptr b3 0,.ptr b4 0] (dp b1 b2 b3 b4 (.fn (.func 383) [] [.ptr v1 0,.ptr v2 0]) Np Nf false++[.obj v1 (.row [.ptr q 0]),.obj v2 (.row [.fn (.func 272) [] [.ptr vx 0]])])
inductive wh (x:Xc)(i key:Int)(vx:Nat)(q:Nat)(cl:List AV):bO→List Own→Prop
 |f {lo}(hi:0≤i∧i<x.j.f.size)(h:Cb vx q cl lo):wh x i key vx q cl .a lo
 |r {b1 b2 b3 b4 qm:Nat}{mk σ lm}(dw:cl=[.ptr b1 0,.ptr b2 0,.ptr b3 0,.ptr b4 0])(h:vk x.j i key qm σ lm)(ho:σ.over=false):wh x i key vx q cl σ (dp b1 b2 b3 b4 mk (.ptr qm 0) Nf true++lm)
section
variable{B0 S:AH}{W:List Nat}{R lo:List Own}{ro:List aQ}{m bl q vx:Nat}{y:Me}{rest cl:List AV}{x:Xc}{k c i key au cn err:Int}{nn:Bool}{sv uv:AV}{L:List (List AV)}
theorem F9 {σ}(h1:ep sv=false)(h2:sv.cells=[sv])(h3:AV.beq sv sv=true)(hs:x.j.ok)(hy:y.gd)(h:wh x i key vx q cl σ lo)
  (H:Cx B0 W S (.obj q (.row (x.row k c sv uv i key au nn cn err))::.sl sv 1 L::(lo++(ad m bl y rest++(.obj vx (.row [.ptr q 0])::R)))) ro):
  aO EM (.fn (.func 486) [] cl) [.ptr m 0] S fun u S'=>∃ab,nF x k c q sv uv L i key au nn cn err (xY (wh x i key vx q cl) bO.over 0 (σ.step x.j i key y) (ad m bl · rest) (.obj vx (.row [.ptr q 0])::R)) (sC bO.over 0 (σ.step x.j i key y) (ad m bl · rest) (.obj vx (.row [.ptr q 0])::R) (Qe sv L uv i key au nn err)) u ab∧Cx B0 W S' ab ro:=by
 cases h with
 |f hi h=>
  cases h with
  |@mk b1 b2 b3 b4 v1 v2=>
   refine Vx.fm H nG (b:=Tryz.a486) ?_;(repeat' first|constructor|exact ZQ|intro _);all_goals apply zL
   next qm lm hm=>
   refine Vx.cb (own:=.obj q _::.sl sv 1 _::.obj b1 _::.obj b2 _::.obj b3 _::.obj b4 _::(lm++(ad m bl y rest++(.obj vx (.row [.ptr q 0])::R)))) HQ ?_
   refine Vx.cf (A:=[_,_,_,_,_,_]) (fun B W S H=>nE hs hy hm H) fun a' x' l' e hl=>?_
   skip
   cases ho:a'.over
   ·(repeat' first|constructor|exact ZQ|intro _)
    all_goals apply zL
    exact bP e (.r rfl hl ho) ho HQ
   ·(repeat' first|constructor|exact ZQ|intro _)
    all_goals apply zL
    exact aB e ho (.s h1 h2 h3) .rfl HQ
 |@r b1 b2 b3 b4 qm mk σ lm dw h ho=>
  subst dw
  refine Vx.fm H nG (b:=Tryz.a486) ?_;(repeat' first|constructor|exact ZQ|intro _);all_goals apply zL
  refine Vx.cf (A:=[_,_,_,_,_,_]) (fun B W S H=>nE hs hy h H) fun a' x' l' e hl=>?_
  skip
  cases ho:a'.over
  ·(repeat' first|constructor|exact ZQ|intro _)
   all_goals apply zL
   exact bP e (.r rfl hl ho) ho HQ
  ·(repeat' first|constructor|exact ZQ|intro _)
   all_goals apply zL
   exact aB e ho (.s h1 h2 h3) .rfl HQ
end
instance z48:cF 424 where
inductive zi (vx:Nat)(q:Nat):List AV→List Own→Prop
 |mk {b1 b2 b3 b4 v1 v2:Nat}:zi vx q [.ptr b1 0,.ptr b2 0,.ptr b3 0,.ptr b4 0] (dp b1 b2 b3 b4 (.fn (.func 383) [] [.ptr v1 0,.ptr v2 0]) Np Nf false++[.obj v1 (.row [.ptr q 0]),.obj v2 (.row [.fn (.func 424) [] [.ptr vx 0]])])
inductive wi (x:Xc)(i key:Int)(vx:Nat)(q:Nat)(cl:List AV):bO→List Own→Prop
 |f {lo}(hi:0≤i∧i<x.j.f.size)(h:zi vx q cl lo):wi x i key vx q cl .a lo
 |r {b1 b2 b3 b4 qm:Nat}{mk σ lm}(dw:cl=[.ptr b1 0,.ptr b2 0,.ptr b3 0,.ptr b4 0])(h:vk x.j i key qm σ lm)(ho:σ.over=false):wi x i key vx q cl σ (dp b1 b2 b3 b4 mk (.ptr qm 0) Nf true++lm)
section
variable{B0 S:AH}{W:List Nat}{R lo:List Own}{ro:List aQ}{m bl q vx:Nat}{y:Me}{rest cl:List AV}{x:Xc}{k c i key au cn err:Int}{nn:Bool}{sv uv:AV}{L:List (List AV)}
theorem F_ {σ}(h1:ep sv=false)(h2:sv.cells=[sv])(h3:AV.beq sv sv=true)(hs:x.j.ok)(hy:y.gd)(h:wi x i key vx q cl σ lo)
  (H:Cx B0 W S (.obj q (.row (x.row k c sv uv i key au nn cn err))::.sl sv 1 L::(lo++(ad m bl y rest++(.obj vx (.row [.ptr q 0])::R)))) ro):
  aO EM (.fn (.func 486) [] cl) [.ptr m 0] S fun u S'=>∃ab,nF x k c q sv uv L i key au nn cn err (xY (wi x i key vx q cl) bO.over 0 (σ.step x.j i key y) (ad m bl · rest) (.obj vx (.row [.ptr q 0])::R)) (sC bO.over 0 (σ.step x.j i key y) (ad m bl · rest) (.obj vx (.row [.ptr q 0])::R) (Qe sv L uv i key au nn err)) u ab∧Cx B0 W S' ab ro:=by
 cases h with
 |f hi h=>
  cases h with
  |@mk b1 b2 b3 b4 v1 v2=>
   refine Vx.fm H nG (b:=Tryz.a486) ?_;(repeat' first|constructor|exact ZQ|intro _);all_goals apply zL
   next qm lm hm=>
   refine Vx.cb (own:=.obj q _::.sl sv 1 _::.obj b1 _::.obj b2 _::.obj b3 _::.obj b4 _::(lm++(ad m bl y rest++(.obj vx (.row [.ptr q 0])::R)))) HQ ?_
   refine Vx.cf (A:=[_,_,_,_,_,_]) (fun B W S H=>nE hs hy hm H) fun a' x' l' e hl=>?_
   skip
   cases ho:a'.over
   ·(repeat' first|constructor|exact ZQ|intro _)
    all_goals apply zL
    exact bP e (.r rfl hl ho) ho HQ
   ·(repeat' first|constructor|exact ZQ|intro _)
    all_goals apply zL
    exact aB e ho (.s h1 h2 h3) .rfl HQ
 |@r b1 b2 b3 b4 qm mk σ lm dw h ho=>
  subst dw
  refine Vx.fm H nG (b:=Tryz.a486) ?_;(repeat' first|constructor|exact ZQ|intro _);all_goals apply zL
  refine Vx.cf (A:=[_,_,_,_,_,_]) (fun B W S H=>nE hs hy h H) fun a' x' l' e hl=>?_
  skip
  cases ho:a'.over
  ·(repeat' first|constructor|exact ZQ|intro _)
   all_goals apply zL
   exact bP e (.r rfl hl ho) ho HQ
  ·(repeat' first|constructor|exact ZQ|intro _)
   all_goals apply zL
   exact aB e ho (.s h1 h2 h3) .rfl HQ
end
instance z49:cF 425 where
inductive zj (vx:Nat)(q:Nat):List AV→List Own→Prop
 |mk {b1 b2 b3 b4 v1 v2:Nat}:zj vx q [.ptr b1 0,.ptr b2 0,.ptr b3 0,.ptr b4 0] (dp b1 b2 b3 b4 (.fn (.func 383) [] [.ptr v1 0,.ptr v2 0]) Np Nf false++[.obj v1 (.row [.ptr q 0]),.obj v2 (.row [.fn (.func 425) [] [.ptr vx 0]])])
inductive wj (x:Xc)(i key:Int)(vx:Nat)(q:Nat)(cl:List AV):bO→List Own→Prop
 |f {lo}(hi:0≤i∧i<x.j.f.size)(h:zj vx q cl lo):wj x i key vx q cl .a lo
 |r {b1 b2 b3 b4 qm:Nat}{mk σ lm}(dw:cl=[.ptr b1 0,.ptr b2 0,.ptr b3 0,.ptr b4 0])(h:vk x.j i ((key+1)%18446744073709551616) qm σ lm)(ho:σ.over=false):wj x i key vx q cl σ (dp b1 b2 b3 b4 mk (.ptr qm 0) Nf true++lm)
section
variable{B0 S:AH}{W:List Nat}{R lo:List Own}{ro:List aQ}{m bl q vx:Nat}{y:Me}{rest cl:List AV}{x:Xc}{k c i key au cn err:Int}{nn:Bool}{sv uv:AV}{L:List (List AV)}
theorem Ga {σ}(h1:ep sv=false)(h2:sv.cells=[sv])(h3:AV.beq sv sv=true)(hs:x.j.ok)(hy:y.gd)(h:wj x i key vx q cl σ lo)
  (H:Cx B0 W S (.obj q (.row (x.row k c sv uv i key au nn cn err))::.sl sv 1 L::(lo++(ad m bl y rest++(.obj vx (.row [.ptr q 0])::R)))) ro):
  aO EM (.fn (.func 486) [] cl) [.ptr m 0] S fun u S'=>∃ab,nF x k c q sv uv L i key au nn cn err (xY (wj x i key vx q cl) bO.over 0 (σ.step x.j i ((key+1)%18446744073709551616) y) (ad m bl · rest) (.obj vx (.row [.ptr q 0])::R)) (sC bO.over 0 (σ.step x.j i ((key+1)%18446744073709551616) y) (ad m bl · rest) (.obj vx (.row [.ptr q 0])::R) (Qe sv L uv i key au nn err)) u ab∧Cx B0 W S' ab ro:=by
 cases h with
 |f hi h=>
  cases h with
  |@mk b1 b2 b3 b4 v1 v2=>
   refine Vx.fm H nG (b:=Tryz.a486) ?_;(repeat' first|constructor|exact ZQ|intro _);all_goals apply zL
   next qm lm hm=>
   refine Vx.cb (own:=.obj q _::.sl sv 1 _::.obj b1 _::.obj b2 _::.obj b3 _::.obj b4 _::(lm++(ad m bl y rest++(.obj vx (.row [.ptr q 0])::R)))) HQ ?_
   refine Vx.cf (A:=[_,_,_,_,_,_]) (fun B W S H=>nE hs hy hm H) fun a' x' l' e hl=>?_
   skip
   cases ho:a'.over
   ·(repeat' first|constructor|exact ZQ|intro _)
    all_goals apply zL
    exact bP e (.r rfl hl ho) ho HQ
   ·(repeat' first|constructor|exact ZQ|intro _)
    all_goals apply zL
    exact aB e ho (.s h1 h2 h3) .rfl HQ
 |@r b1 b2 b3 b4 qm mk σ lm dw h ho=>
  subst dw
  refine Vx.fm H nG (b:=Tryz.a486) ?_;(repeat' first|constructor|exact ZQ|intro _);all_goals apply zL
  refine Vx.cf (A:=[_,_,_,_,_,_]) (fun B W S H=>nE hs hy h H) fun a' x' l' e hl=>?_
  skip
  cases ho:a'.over
  ·(repeat' first|constructor|exact ZQ|intro _)
   all_goals apply zL
   exact bP e (.r rfl hl ho) ho HQ
  ·(repeat' first|constructor|exact ZQ|intro _)
   all_goals apply zL
   exact aB e ho (.s h1 h2 h3) .rfl HQ
end
instance Vc:mi EM 375 "Step" 697:=⟨fun _=>by kernel_rfl⟩
instance Vd:va EM 439 375:=⟨fun _=>by kernel_rfl⟩
instance z50:cF 288 where
section
variable{B0 S:AH}{W:List Nat}{R lo:List Own}{ro:List aQ}{m bl q vx:Nat}{y:Me}{rest cl:List AV}{x:Xc}{k c i key au cn err:Int}{nn:Bool}{sv uv:AV}{L:List (List AV)}
end
theorem pW.vq {t r}{c:Int}{q:Nat}{b:Int}{σ lo}(h:pW t r c q b σ lo):∃cd left look key words cW flag done er lf,lo=.obj q (.row (r.AQ cd left look key words cW flag b done er))::lf:=by
 cases h<;>exact⟨_,_,_,_,_,_,_,_,_,_,rfl⟩
instance Xy:mi EM 497 "Step" 709:=⟨fun _=>by kernel_rfl⟩
instance Xz:HW EM 439 497:=⟨fun _=>by kernel_rfl⟩
instance XA:mi EM 497 "By" 708:=⟨fun _=>by kernel_rfl⟩
instance z51:cF 708 where
instance z52:cF 412 where
inductive zk (q:Nat):List AV→List Own→Prop
 |mk {b1 b2 b3 b4 v1:Nat}:zk q [.ptr b1 0,.ptr b2 0,.ptr b3 0,.ptr b4 0] (dp b1 b2 b3 b4 (.fn (.func 412) [] [.ptr v1 0]) Np Nf false++[.obj v1 (.row [.ptr q 0])])
inductive C_ (x:Xc)(c:Int)(q:Nat)(cl:List AV):cI→List Own→Prop
 |f {lo}(h:zk q cl lo):C_ x c q cl (.k (.p .a)) lo
 |r {b1 b2 b3 b4 qm:Nat}{b:Int}{mk σ lm}(dw:cl=[.ptr b1 0,.ptr b2 0,.ptr b3 0,.ptr b4 0])(h:pW x.t x.r c qm b σ lm)(ho:σ.over=false):C_ x c q cl σ (dp b1 b2 b3 b4 mk (.ptr qm 0) Nf true++lm)
section
variable{B0 S:AH}{W:List Nat}{R lo:List Own}{ro:List aQ}{m bl q vx:Nat}{y:Me}{rest cl:List AV}{x:Xc}{k c i key au cn err:Int}{nn:Bool}{sv uv:AV}{L:List (List AV)}
theorem H8 {σ}(h1:ep sv=false)(h2:sv.cells=[sv])(h3:AV.beq sv sv=true)(hs:x.t.ok)(hr:x.r.ok)(hc:0≤c∧c<x.t.l.e.ah)(hy:y.gd)(h:C_ x c q cl σ lo)
  (H:Cx B0 W S (.obj q (.row (x.row k c sv uv i key au nn cn err))::.sl sv 1 L::(lo++(ad m bl y rest++R))) ro):
  aO EM (.fn (.func 506) [] cl) [.ptr m 0] S fun u S'=>∃ab,nF x k c q sv uv L i key au nn cn err (xY (C_ x c q cl) cI.over σ.cz (σ.step x.t x.r c y) (ad m bl · rest) R) (sC cI.over σ.cz (σ.step x.t x.r c y) (ad m bl · rest) R (Qe sv L uv i key au nn err)) u ab∧Cx B0 W S' ab ro:=by
 have La:((0≤x.t.nd∧x.t.nd<4096)∧(0≤x.t.hd∧x.t.hd<4096)∧(1≤x.t.ht∧x.t.ht≤4)∧1≤x.t.l.a.f.size∧x.t.l.a.f.size≤128)∧(0≤c∧c<x.t.l.e.ah)∧1≤x.r.ah∧x.r.ah≤64:=by
  have bn:=hs
  have ox:=hr
  unfold Tw.ok Lb.ok Ar.ok Sk.ok at bn
  unfold Rs.ok at ox
  omega
 cases h with
 |f h=>
  cases h with
  |@mk b1 b2 b3 b4 v1=>
   refine Vx.fm H nG (b:=Tryz.a506) ?_;(repeat' first|constructor|exact ZQ|intro _);all_goals apply zL
   next qm lm hm=>
   refine Vx.cb (own:=.obj q _::.sl sv 1 _::.obj b1 _::.obj b2 _::.obj b3 _::.obj b4 _::(lm++(ad m bl y rest++R))) HQ ?_
   refine Vx.cf (A:=[_,_,_,_,_,_]) (fun B W S H=>Ca hs hr hc hy (by first|assumption|rfl) hm H) fun a' x' l' e hl=>?_
   obtain⟨cd,left,look,Ve,words,cW,flag,done,er,lf,rfl⟩:=hl.vq
   cases ho:a'.over
   ·(repeat' first|constructor|exact ZQ|intro _)
    all_goals apply zL
    exact bP e (.r rfl hl ho) ho HQ
   ·(repeat' first|constructor|exact ZQ|intro _)
    all_goals apply zL
    exact aB e ho (.s h1 h2 h3) .rfl HQ
 |@r b1 b2 b3 b4 qm b mk σ lm dw h ho=>
  subst dw
  refine Vx.fm H nG (b:=Tryz.a506) ?_;(repeat' first|constructor|exact ZQ|intro _);all_goals apply zL
  refine Vx.cf (A:=[_,_,_,_,_,_]) (fun B W S H=>Ca hs hr hc hy (by first|assumption|rfl) h H) fun a' x' l' e hl=>?_
  obtain⟨cd,left,look,Ve,words,cW,flag,done,er,lf,rfl⟩:=hl.vq
  cases ho:a'.over
  ·(repeat' first|constructor|exact ZQ|intro _)
   all_goals apply zL
   exact bP e (.r rfl hl ho) ho HQ
  ·(repeat' first|constructor|exact ZQ|intro _)
   all_goals apply zL
   exact aB e ho (.s h1 h2 h3) .rfl HQ
end
end
end Go.cY
