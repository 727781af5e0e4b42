/- Contracts. Conditions: in each theorem. -/
import Derived.Test.YtdfgboafnklioaaGreatM21
set_option linter.all false
set_option maxRecDepth 100000
set_option maxHeartbeats 4000000
namespace Go.cG
open Go.Proofs
instance z76 {n:Nat}[Mn n [423,420,421,426,414,303,294,297,300,267]]:cK n where
section
variable{B0 S:AH}{W:List Nat}{R lo:List Own}{ro:List aI}{m bl q vx p1 p2 p3:Nat}{y:Me}{rest cl:List AV}{x:Xc}{k c i key aw cE err bh w:Int}{nn:Bool}{sv uv:AV}{L:List (List AV)}
theorem rD {o1 own:List Own}(e:o1=own:=by conv=>lhs;simp only[Xc.row,Xc.cs,Tw.cs,Lb.cs,Ar.cs,Ep.cs,lA,lB,lC]):o1=own:=e
theorem jF (h1:odd sv=false)(h2:sv.cells=[sv])(h3:AV.beq sv sv=true)(hy:y.gd)(ha:0<=bh/\bh<1000000)(hw:Me.aC w)
  (H:Cx B0 W S (.obj q (.row (x.row k c sv uv i key aw nn cE err))::.sl sv 1 L::([.obj p1 (.row [.fn (.func 423) [] [.ptr p2 0,.ptr p3 0]]),.obj p2 (.row [I bh]),.obj p3 (.row [U w])]++(ae m bl y rest++R))) ro):
  aN EM (.fn (.func 377) [] [.ptr p1 0]) [.ptr m 0] S λu S'=>∃ab,oP x k c q sv uv L i key aw nn cE err (λ_ _=>False) (uh (λ_=>true) 0 ((),y.st bh w) (ae m bl · rest) R (Qe sv L uv i key aw nn err)) u ab/\Cx B0 W S' ab ro:=by
 refine y1 H rD ?_;exact aJ rfl rfl (.s h1 h2 h3) (Qe.rfl (a:=())) HQ
theorem KH (h1:odd sv=false)(h2:sv.cells=[sv])(h3:AV.beq sv sv=true)(hy:y.gd)(hi:0<=i/\i<65536)
  (H:Cx B0 W S (.obj q (.row (x.row k c sv uv i key aw nn cE err))::.sl sv 1 L::([.obj p1 (.row [.fn (.func 420) [] [.ptr vx 0]])]++(ae m bl y rest++(.obj vx (.row [.ptr q 0])::R)))) ro) (hx:(0<=x.own/\x.own<100000)/\0<=c/\c<64):
  aN EM (.fn (.func 377) [] [.ptr p1 0]) [.ptr m 0] S λu S'=>∃ab,oP x k c q sv uv L i key aw nn cE err (λ_ _=>False) (uh (λ_=>true) 0 ((),y.st (x.own+c) (i+1)) (ae m bl · rest) (.obj vx (.row [.ptr q 0])::R) (Qe sv L uv i key aw nn err)) u ab/\Cx B0 W S' ab ro:=by
 have e1:(i+1)%18446744073709551616=i+1:=am;refine y1 H rD ?_;rw[e1];exact aJ rfl rfl (.s h1 h2 h3) (Qe.rfl (a:=())) HQ
theorem KI (h1:odd sv=false)(h2:sv.cells=[sv])(h3:AV.beq sv sv=true)(hy:y.gd)(hx:(0<=x.r.runs/\x.r.runs<100000)/\0<=c/\c<64)
  (H:Cx B0 W S (.obj q (.row (x.row k c sv uv i key aw nn cE err))::.sl sv 1 L::([.obj p1 (.row [.fn (.func 421) [] [.ptr vx 0]])]++(ae m bl y rest++(.obj vx (.row [.ptr q 0])::R)))) ro):
  aN EM (.fn (.func 377) [] [.ptr p1 0]) [.ptr m 0] S λu S'=>∃ab,oP x k c q sv uv L i key aw nn cE err (λ_ _=>False) (uh (λ_=>true) 0 ((),y.st (x.r.runs+c) key) (ae m bl · rest) (.obj vx (.row [.ptr q 0])::R) (Qe sv L uv i key aw nn err)) u ab/\Cx B0 W S' ab ro:=by
 refine y1 H rD ?_;exact aJ rfl rfl (.s h1 h2 h3) (Qe.rfl (a:=())) HQ
theorem KJ (h1:odd sv=false)(h2:sv.cells=[sv])(h3:AV.beq sv sv=true)(hy:y.gd)(ha:0<=bh/\bh<1000000)
  (H:Cx B0 W S (.obj q (.row (x.row k c sv uv i key aw nn cE err))::.sl sv 1 L::([.obj p1 (.row [.fn (.func 426) [] [.ptr p2 0,.ptr vx 0]])]++(ae m bl y rest++(.obj vx (.row [.ptr q 0])::.obj p2 (.row [I bh])::R)))) ro):
  aN EM (.fn (.func 377) [] [.ptr p1 0]) [.ptr m 0] S λu S'=>∃ab,oP x k c q sv uv L i key aw nn cE err (λ_ _=>False) (uh (λ_=>true) 0 ((),y.st bh key) (ae m bl · rest) (.obj vx (.row [.ptr q 0])::.obj p2 (.row [I bh])::R) (Qe sv L uv i key aw nn err)) u ab/\Cx B0 W S' ab ro:=by
 refine y1 H rD ?_;exact aJ rfl rfl (.s h1 h2 h3) (Qe.rfl (a:=())) HQ
def SB (w:Int)(sv:AV)(L:List (List AV))(uv:AV)(i key aw:Int)(nn:Bool)(err:Int):Unit->AV->List (List AV)->AV->Int->Int->Int->Bool->Int->Prop:=
 λ_ aT L' cq i' aQ aR da aP=>(w≠0/\Qe sv L uv i key aw nn err () aT L' cq i' aQ aR da aP)\/(w=0/\Qn uv i key aw nn 15 aT L' cq i' aQ aR da aP)
theorem Il (h1:odd sv=false)(h2:sv.cells=[sv])(h3:AV.beq sv sv=true)(hy:y.gd)(ha:0<=bh/\bh<1000000)
  (H:Cx B0 W S (.obj q (.row (x.row k c sv uv i key aw nn cE err))::.sl sv 1 L::([.obj p1 (.row [.fn (.func 297) [] [.ptr p2 0,.ptr vx 0]])]++(ae m bl y rest++(.obj vx (.row [.ptr q 0])::.obj p2 (.row [I bh])::R)))) ro):
  aN EM (.fn (.func 377) [] [.ptr p1 0]) [.ptr m 0] S λu S'=>∃ab,oP x k c q sv uv L i key aw nn cE err (λ_ _=>False) (uh (λ_=>true) 0 ((),y.ld bh) (ae m bl · rest) (.obj vx (.row [.ptr q 0])::.obj p2 (.row [I bh])::R) (SB (y.word bh) sv L uv i key aw nn err)) u ab/\Cx B0 W S' ab ro:=by
 refine y2 H rD ?_ ?_<;>intros
 all_goals first
  |exact aJ rfl rfl (.s h1 h2 h3) (Or.inl ⟨be,Qe.rfl (a:=())⟩) HQ
  |exact aJ rfl rfl .n (Or.inr ⟨be,Qn.rfl⟩) HQ
def SD (x:Xc)(w:Int)(sv:AV)(L:List (List AV))(uv:AV)(key aw:Int)(nn:Bool)(err:Int):Unit->AV->List (List AV)->AV->Int->Int->Int->Bool->Int->Prop:=
 λ_ aT L' cq i' aQ aR da aP=>(0<=x.rd w/\Qe sv L uv (x.rd w) key aw nn err () aT L' cq i' aQ aR da aP)\/(x.rd w<0/\Qn uv (-1) key aw nn 15 aT L' cq i' aQ aR da aP)
theorem Im (h1:odd sv=false)(h2:sv.cells=[sv])(h3:AV.beq sv sv=true)(hy:y.gd)(hx:(0<=x.own/\x.own<100000)/\(0<=c/\c<64)/\1<=x.j.f.size/\x.j.f.size<=4096)
  (H:Cx B0 W S (.obj q (.row (x.row k c sv uv i key aw nn cE err))::.sl sv 1 L::([.obj p1 (.row [.fn (.func 414) [] [.ptr p2 0,.ptr p3 0]]),.obj p2 (.row [.ptr q 0]),.obj p3 (.row [.fn (.func 303) [] [.ptr vx 0]])]++(ae m bl y rest++(.obj vx (.row [.ptr q 0])::R)))) ro):
  aN EM (.fn (.func 377) [] [.ptr p1 0]) [.ptr m 0] S λu S'=>∃ab,oP x k c q sv uv L i key aw nn cE err (λ_ _=>False) (uh (λ_=>true) 0 ((),y.ld (x.own+c)) (ae m bl · rest) (.obj vx (.row [.ptr q 0])::R) (SD x (y.word (x.own+c)) sv L uv key aw nn err)) u ab/\Cx B0 W S' ab ro:=by
 have hw:=Me.aj hy (x.own+c);unfold Me.aC at hw;have e1:x.j.f.size%18446744073709551616=x.j.f.size:=am;refine y3 H rD ?_ ?_ ?_<;>intros
 .have hr:x.rd (y.word (x.own+c))=-1:=if_pos am;have h0:x.rd (y.word (x.own+c))<0:=by rw[hr];omega
  exact aJ rfl rfl .n (Or.inr ⟨h0,Qn.rfl⟩) HQ
 .have hr:x.rd (y.word (x.own+c))=-1:=if_pos am;have h0:x.rd (y.word (x.own+c))<0:=by rw[hr];omega
  exact aJ rfl rfl .n (Or.inr ⟨h0,Qn.rfl⟩) HQ
 .have hr:x.rd (y.word (x.own+c))=y.word (x.own+c)-1:=if_neg am;have hE:SD x (y.word (x.own+c)) sv L uv key aw nn err () sv L uv (y.word (x.own+c)-1) key aw nn err:=Or.inl ⟨by rw[hr];omega,by rw[hr];exact Qe.rfl (a:=())⟩;exact aJ rfl rfl (.s h1 h2 h3) hE HQ
end
theorem Io {s:Int}(hs:0<=s/\s<=1099511627775):nq (nq 0 ((0:Int)%18446744073709551616*2^0%18446744073709551616)) (s%18446744073709551616*2^16%18446744073709551616)=s*65536:=by
 have e1:(0:Int)%18446744073709551616*2^0%18446744073709551616=0:=ac;have e2:s%18446744073709551616*2^16%18446744073709551616=s*2^16:=by simp only[Int.reducePow];omega
 rw[e1,e2,xI am,xI (by simp only[Int.reducePow];omega)];simp only[Int.reducePow]
theorem N6 {p s:Int}(hp:0<=p/\p<=254)(hs:0<=s/\s<=1099511627775):nq (nq (nq 0 ((0:Int)%18446744073709551616*2^0%18446744073709551616)) (s%18446744073709551616*2^16%18446744073709551616)) (p%18446744073709551616*2^56%18446744073709551616)=mZ p s:=by
 rw[Io hs];have e2:p%18446744073709551616*2^56%18446744073709551616=p*2^56:=by simp only[Int.reducePow];omega
 rw[e2,lE (i:=56) hp.1 am (by simp only[Int.reducePow];omega)];unfold mZ;simp only[Int.reducePow];omega
instance putKey {p s:Int}:VC EM (zF 270) [.agg [I p,I s,I 0]] ((0<=p/\p<=254)/\0<=s/\s<=1099511627775) (.ed [U (mZ p s),I 0]):=.of rfl rfl λ⟨h1,h2⟩=>by
 show Zx EM false (Tryz.a270 _) _ _ _ _;haveI:aY:=⟨⟩;refine z3 ?_ ?_ ?_<;>intros
 .rw[xI ac];simp only[Int.reducePow];omega
 .rw[Io h2];simp only[Int.reducePow];omega
 .rw[N6 h1 h2];exact⟨rfl,rfl⟩
def YO (pr s:Int)(U':List (List AV))(sv:AV)(L:List (List AV))(uv:AV)(i key aw:Int)(nn:Bool)(err:Int):Unit->AV->List (List AV)->AV->Int->Int->Int->Bool->Int->Prop:=
 λ_ aT L' cq i' aQ aR da aP=>((1<=s/\s<=1099511627775)/\Qe sv L uv i (mZ pr s) aw nn err () aT L' cq i' aQ aR da aP)\/((s<1\/1099511627775<s)/\Qf U' uv i key aw nn 12 aT L' cq i' aQ aR da aP)
section
variable{B0 S:AH}{W:List Nat}{R lo:List Own}{ro:List aI}{m bl q vx vt p1 p2 p3:Nat}{y:Me}{rest cl:List AV}{x:Xc}{k c i key aw cE err t0 pr ev t3:Int}{nn:Bool}{sv uv:AV}{L U':List (List AV)}
theorem addPart (h1:odd sv=false)(h2:sv.cells=[sv])(h3:AV.beq sv sv=true)(hy:y.gd)(hU:U'.length<=64)(hx:0<=x.seq/\x.seq<100000)(hp:0<=pr/\pr<=254)
  (H:Cx B0 W S (.obj q (.row (x.row k c sv uv i key aw nn cE err))::.sl sv 1 L::([.obj p1 (.row [.fn (.func 267) [] [.ptr vx 0,.ptr vt 0]])]++(ae m bl y rest++(.sl uv 1 U'::.obj vx (.row [.ptr q 0])::.obj vt (.row [I t0,I pr,I ev,I t3])::R)))) ro):
  aN EM (.fn (.func 377) [] [.ptr p1 0]) [.ptr m 0] S λu S'=>∃ab,oP x k c q sv uv L i key aw nn cE err (λ_ _=>False) (uh (λ_=>true) 0 ((),y.add x.seq 1) (ae m bl · rest) (.sl uv 1 U'::.obj vx (.row [.ptr q 0])::.obj vt (.row [I t0,I pr,I ev,I t3])::R) (YO pr (y.add x.seq 1).new U' sv L uv i key aw nn err)) u ab/\Cx B0 W S' ab ro:=by
 generalize hs:(y.add x.seq 1).new=s;refine y3 H rD ?_ ?_ ?_<;>intros
 all_goals simp only[hs] at*
 .exact aJ rfl rfl (.s be be be) (Or.inr ⟨am,Qf.rfl⟩) HQ
 .exact aJ rfl rfl (.s be be be) (Or.inr ⟨am,Qf.rfl⟩) HQ
 .exact aJ rfl rfl (.s h1 h2 h3) (Or.inl ⟨am,Qe.rfl (a:=())⟩) HQ
end
instance z77 {n:Nat}[Mn n [174,295,415,281,265,290,266,388,374,416,411]]:cK n where
def SE {α:Type}(ov:α->Bool)(cR:Int)(st:α×Me)(mem:Me->List Own)(R:List Own)(E:α->AV->List (List AV)->AV->Int->Int->Int->Bool->Int->List Own->Prop):Int->AV->List (List AV)->AV->Int->Int->Int->Bool->Int->List Own->Prop:=
 λb aT L' cq i' aQ aR da aP A=>b=cR/\ov st.1=true/\∃ex,E st.1 aT L' cq i' aQ aR da aP ex/\A=ex++(mem st.2++R)
section
variable{α:Type}{x:Xc}{k c i key aw cE err b:Int}{q:Nat}{nn:Bool}{sv uv:AV}{L:List (List AV)}{ov:α->Bool}{st:α×Me}{mem:Me->List Own}{R own:List Own}{ro:List aI}
theorem lJ {xb E a' y' aT cq L'}{i' aQ aR aP:Int}{da:Bool}{ga ex}(e:st=(a',y'))(ho:ov a'=true)(hk:Cq aT L' ga)(hE:E a' aT L' cq i' aQ aR da aP ex)
  (hs:Hs own (.obj q (.row (x.row k c aT cq i' aQ aR da cE aP))::(ga++(ex++(mem y'++R))))):
  kx ro (oP x k c q sv uv L i key aw nn cE err xb (SE ov b st mem R E)) .ret [B true,U b] own ro:=by
 subst e;exact⟨rfl,rfl,_,.t hk ⟨rfl,ho,ex,hE,rfl⟩,hs⟩
end
inductive y5 (q:Nat):List (List AV)->List Own->Prop
 |mk {y6 tc y7 y8 td y9}{pr po vx:Nat}(hb:A4 q y6 y8)(ht:l_ 3 4 q tc td)(hp:A6 vx q y7 y9):
  y5 q [[.fn (.func 506) [] y6],[.fn (.func 377) [] [.ptr pr 0]],[.fn (.func 377) [] [.ptr po 0]],[.fn (.func 490) [] tc],[.fn (.func 510) [] y7]]
   (y8++(.obj pr (.row [.fn (.func 421) [] [.ptr vx 0]])::.obj po (.row [.fn (.func 420) [] [.ptr vx 0]])::(td++(y9++[.obj vx (.row [.ptr q 0])]))))
def SF (x:Xc)(w:Int)(q:Nat)(L:List (List AV))(uv:AV)(i key aw:Int)(nn:Bool)(err:Int):Unit->AV->List (List AV)->AV->Int->Int->Int->Bool->Int->List Own->Prop:=
 λ_ aT L' cq i' aQ aR da aP ex=>(0<=x.rd w/\ex=[]/\Qn uv i key aw nn 11 aT L' cq i' aQ aR da aP)\/(x.rd w<0/\∃P,y5 q P ex/\Qe aT (L++P) uv i key aw nn err () aT L' cq i' aQ aR da aP)
section
variable{B0 S:AH}{W:List Nat}{R lo:List Own}{ro:List aI}{m bl q vx p1 p2 p3:Nat}{y:Me}{rest cl:List AV}{x:Xc}{k c i key aw cE err bh w:Int}{nn:Bool}{sv uv:AV}{L:List (List AV)}
theorem y_ (h1:odd sv=false)(h2:sv.cells=[sv])(h3:AV.beq sv sv=true)(hL:L.length<=64)(hy:y.gd)(hx:(0<=x.own/\x.own<100000)/\(0<=c/\c<64)/\1<=x.j.f.size/\x.j.f.size<=4096)
  (H:Cx B0 W S (.obj q (.row (x.row k c sv uv i key aw nn cE err))::.sl sv 1 L::([.obj p1 (.row [.fn (.func 414) [] [.ptr p2 0,.ptr p3 0]]),.obj p2 (.row [.ptr q 0]),.obj p3 (.row [.fn (.func 294) [] [.ptr vx 0]])]++(ae m bl y rest++(.obj vx (.row [.ptr q 0])::R)))) ro):
  aN EM (.fn (.func 377) [] [.ptr p1 0]) [.ptr m 0] S λu S'=>∃ab,oP x k c q sv uv L i key aw nn cE err (λ_ _=>False) (SE (λ_=>true) 0 ((),y.ld (x.own+c)) (ae m bl · rest) (.obj vx (.row [.ptr q 0])::R) (SF x (y.word (x.own+c)) q L uv i key aw nn err)) u ab/\Cx B0 W S' ab ro:=by
 have hw:=Me.aj hy (x.own+c);unfold Me.aC at hw;haveI:aY:=⟨⟩;haveI:dQ:=⟨⟩;have e1:x.j.f.size%18446744073709551616=x.j.f.size:=am;refine Vx.fm H rD ?_;(repeat' first|constructor|exact ZQ|intro _);all_goals apply zL
 all_goals first
  |(simp only[List.length_append,List.length_map,List.length_cons,List.length_nil];omega)
  |skip
 .have hr:x.rd (y.word (x.own+c))=-1:=if_pos am;have h0:x.rd (y.word (x.own+c))<0:=by rw[hr];omega
  simp only[List.map,lC,lA,lB];exact lJ rfl rfl (.s be be be) (Or.inr ⟨h0,_,.mk .mk .mk .mk,Qe.rfl (a:=())⟩) (by simp only[dT,lA,lB,lC];exact HQ)
 .have hr:x.rd (y.word (x.own+c))=-1:=if_pos am;have h0:x.rd (y.word (x.own+c))<0:=by rw[hr];omega
  simp only[List.map,lC,lA,lB];exact lJ rfl rfl (.s be be be) (Or.inr ⟨h0,_,.mk .mk .mk .mk,Qe.rfl (a:=())⟩) (by simp only[dT,lA,lB,lC];exact HQ)
 .have hr:x.rd (y.word (x.own+c))=y.word (x.own+c)-1:=if_neg am;have h0:0<=x.rd (y.word (x.own+c)):=by rw[hr];omega
  exact lJ rfl rfl .n (Or.inl ⟨h0,rfl,Qn.rfl⟩) HQ
end
theorem kS.eN {j}{q:Nat}{σ lo}(h:kS j q σ lo)(ho:σ.over=true):(∃i w th qp,(0<=i/\i<j.f.size)/\σ=.d i 0/\lo=[.obj q (.row (j.row i w Nf th 0++[.ptr qp 0]))])\/(∃i w th qp,σ=.d 0 7/\lo=[.obj q (.row (j.row i w Nf th 7++[.ptr qp 0]))]):=by
 cases h with
 |p=>cases ho
 |l=>cases ho
 |s=>cases ho
 |d hi=>exact .inl ⟨_,_,_,_,hi,rfl,rfl⟩
 |n=>exact .inr ⟨_,_,_,_,rfl,rfl⟩
def YP (q:Nat)(sv:AV)(L:List (List AV))(key aw:Int)(nn:Bool)(err:Int):dR->AV->List (List AV)->AV->Int->Int->Int->Bool->Int->List Own->Prop
 |.d i e=>λaT L' cq i' aQ aR da aP ex=>(odd cq=false/\cq.cells=[cq]/\AV.beq cq cq=true)/\(∃N7 log,AZ q N7 log/\ex=.sl cq 1 [[.fn (.func 481) [] N7]]::log)/\((e=0/\Qe sv L cq i key aw nn err () aT L' cq i' aQ aR da aP)\/(e≠0/\Qn cq i key aw nn e aT L' cq i' aQ aR da aP))
 |_=>λ_ _ _ _ _ _ _ _ _=>False
instance YQ:nj EM 354 "Step" 688:=⟨λ_=>by kernel_rfl⟩
instance YR:w5 EM 439 354:=⟨λ_=>by kernel_rfl⟩
instance z78:cK 261 where
instance z79:cK 263 where
inductive DS (vx:Nat)(q:Nat):List AV->List Own->Prop
 |mk {b1 b2 b3 b4:Nat}:DS vx q [.ptr b1 0,.ptr b2 0,.ptr b3 0,.ptr b4 0] (dT b1 b2 b3 b4 (.fn (.func 261) [] [.ptr vx 0]) Np (.fn (.func 263) [] [.ptr vx 0]) false++[])
inductive rE (x:Xc)(vx:Nat)(q:Nat)(cl:List AV):dR->List Own->Prop
 |f {lo}(h:DS vx q cl lo):rE x vx q cl (.p .a) lo
 |r {b1 b2 b3 b4 qm:Nat}{mk σ lm}(dY:cl=[.ptr b1 0,.ptr b2 0,.ptr b3 0,.ptr b4 0])(h:kS x.j qm σ lm)(ho:σ.over=false):rE x vx q cl σ (dT b1 b2 b3 b4 mk (.ptr qm 0) (.fn (.func 263) [] [.ptr vx 0]) true++([]++lm))
section
variable{B0 S:AH}{W:List Nat}{R lo:List Own}{ro:List aI}{m bl q vx:Nat}{y:Me}{rest cl:List AV}{x:Xc}{k c i key aw cE err:Int}{nn:Bool}{sv uv:AV}{L:List (List AV)}
theorem Ip {σ}(h1:odd sv=false)(h2:sv.cells=[sv])(h3:AV.beq sv sv=true)(hs:x.j.ok)(hy:y.gd)(h:rE x vx q cl σ lo)
  (H:Cx B0 W S (.obj q (.row (x.row k c sv uv i key aw nn cE err))::.sl sv 1 L::(lo++(ae m bl y rest++(.obj vx (.row [.ptr q 0])::R)))) ro):
  aN EM (.fn (.func 370) [] cl) [.ptr m 0] S λu S'=>∃ab,oP x k c q sv uv L i key aw nn cE err (zx (rE x vx q cl) dR.over 0 (σ.step x.j y) (ae m bl · rest) (.obj vx (.row [.ptr q 0])::R)) (SE dR.over 0 (σ.step x.j y) (ae m bl · rest) (.obj vx (.row [.ptr q 0])::R) (YP q sv L key aw nn err)) u ab/\Cx B0 W S' ab ro:=by
 haveI:dQ:=⟨⟩;cases h with
 |f h=>
  cases h with
  |@mk b1 b2 b3 b4=>
   refine y1 H oQ ?_;intros;next qm lm hm=>
   refine Vx.bQ (own:=.obj q _::.sl sv 1 _::.obj b1 _::.obj b2 _::.obj b3 _::.obj b4 _::(lm++(ae m bl y rest++(.obj vx (.row [.ptr q 0])::R)))) HQ ?_;refine Vx.cz (A:=[_,_,_,_,_,_]) (λB W S H=>AM hs hy hm H) λa' x' l' e hl=>?_;cases ho:a'.over
   .skip
    refine z1 ?_;exact bV e (.r rfl hl ho) ho HQ
   .rcases hl.eN ho with⟨i1,w,th,qp,hi,rfl,rfl⟩|⟨i1,w,th,qp,rfl,rfl⟩;all_goals simp only[Jb.row,lA,lB]
    .refine z1 ?_;intros;exact lJ e rfl (.s h1 h2 h3) (⟨⟨be,be,be⟩,⟨_,_,.mk,rfl⟩,Or.inl ⟨rfl,Qe.rfl (a:=())⟩⟩) (by simp only[dT,lA,lB];exact HQ)
    .refine z1 ?_;intros;exact lJ e rfl .n (⟨⟨be,be,be⟩,⟨_,_,.mk,rfl⟩,Or.inr ⟨am,Qn.rfl⟩⟩) (by simp only[dT,lA,lB];exact HQ)
 |@r b1 b2 b3 b4 qm mk σ lm dY h ho=>
  subst dY;refine y1 H oQ ?_;refine Vx.cz (A:=[_,_,_,_,_,_]) (λB W S H=>AM hs hy h H) λa' x' l' e hl=>?_;cases ho:a'.over
  .skip
   refine z1 ?_;exact bV e (.r rfl hl ho) ho HQ
  .rcases hl.eN ho with⟨i1,w,th,qp,hi,rfl,rfl⟩|⟨i1,w,th,qp,rfl,rfl⟩;all_goals simp only[Jb.row,lA,lB]
   .refine z1 ?_;intros;exact lJ e rfl (.s h1 h2 h3) (⟨⟨be,be,be⟩,⟨_,_,.mk,rfl⟩,Or.inl ⟨rfl,Qe.rfl (a:=())⟩⟩) (by simp only[dT,lA,lB];exact HQ)
   .refine z1 ?_;intros;exact lJ e rfl .n (⟨⟨be,be,be⟩,⟨_,_,.mk,rfl⟩,Or.inr ⟨am,Qn.rfl⟩⟩) (by simp only[dT,lA,lB];exact HQ)
end
end Go.cG
