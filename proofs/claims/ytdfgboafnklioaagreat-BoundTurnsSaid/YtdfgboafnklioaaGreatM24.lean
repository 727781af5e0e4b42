/- Contracts. Conditions: in each theorem. -/
import Derived.Test.YtdfgboafnklioaaGreatM23
set_option linter.all false
set_option maxRecDepth 100000
set_option maxHeartbeats 4000000
namespace Go.cO
open Go.Proofs
instance z81:cH 302 where
instance z82:cH 293 where
inductive Dy (x:Xc)(c:Int)(q vx:Nat):List (List AV)->List Own->Prop
 |mk {I5 sM Ny yJ I6 sN log yL}{s1 a1 w1 s2 a2 w2 p1 p2 p3:Nat}
  (ha:J3 q I5 I6) (ht:lZ 4 5 q sM sN) (hg:AE q Ny log) (hb:AK q yJ yL):
  Dy x c q vx [[.fn (.func 506) [] yJ],[.fn (.func 481) [] Ny],[.fn (.func 377) [] [.ptr s2 0]],[.fn (.func 377) [] [.ptr s1 0]],[.fn (.func 490) [] sM],[.fn (.func 496) [] I5],[.fn (.func 377) [] [.ptr p1 0]]]
   (.obj s1 (.row [.fn (.func 423) [] [.ptr a1 0,.ptr w1 0]])::.obj a1 (.row [I (x.own+c)])::.obj w1 (.row [U 0])::
    .obj s2 (.row [.fn (.func 423) [] [.ptr a2 0,.ptr w2 0]])::.obj a2 (.row [I (x.r.runs+c)])::.obj w2 (.row [U 18446744073709551615])::
    .obj p1 (.row [.fn (.func 414) [] [.ptr p2 0,.ptr p3 0]])::.obj p2 (.row [.ptr q 0])::.obj p3 (.row [.fn (.func 303) [] [.ptr vx 0]])::
    (I6++(sN++(log++yL))))
section
variable{B0 S:AH}{W:List Nat}{R:List Own}{ro:List aB}{q vx:Nat}{x:Xc}{k c i key au cE err:Int}{nn:Bool}{uv:AV}
theorem So {own lo sv L}(hs:Hs own (.obj q (.row (x.row k c sv uv i key au nn cE err))::.sl sv 1 L::(lo++(.obj vx (.row [.ptr q 0])::R))))(hf:odd sv=false/\sv.cells=[sv]/\AV.beq sv sv=true)(hc:Dy x c q vx L lo):
 jy ro (λu ab=>∃sv L lo,u=.dD []/\(odd sv=false/\sv.cells=[sv]/\AV.beq sv sv=true)/\Dy x c q vx L lo/\ab=.obj q (.row (x.row k c sv uv i key au nn cE err))::.sl sv 1 L::(lo++(.obj vx (.row [.ptr q 0])::R))) .ret [] own ro:=⟨rfl,rfl,_,⟨sv,L,lo,rfl,hf,hc,rfl⟩,hs⟩
theorem Cc (hx:(0<=x.own/\x.own<100000)/\(0<=c/\c<64)/\0<=x.r.runs/\x.r.runs<100000)
  (H:Cx B0 W S (.obj q (.row (x.row k c Ns uv i key au nn cE err))::.obj vx (.row [.ptr q 0])::R) ro):
  aG EM (zF 174) [.ptr q 0,.fn (.func 302) [] [.ptr vx 0]] S λu S'=>∃ab,(∃sv L lo,u=.dD []/\(odd sv=false/\sv.cells=[sv]/\AV.beq sv sv=true)/\Dy x c q vx L lo/\ab=.obj q (.row (x.row k c sv uv i key au nn cE err))::.sl sv 1 L::(lo++(.obj vx (.row [.ptr q 0])::R)))/\Cx B0 W S' ab ro:=by
 haveI:aU:=⟨⟩;haveI:dH:=⟨⟩;refine y1 H q_ ?_;intros;all_goals first
  |(simp only[List.length_append,List.length_map,List.length_cons,List.length_nil];omega)
  |(exfalso;omega)
  |skip
 simp only[List.map,lC,lA,lB];exact So (by simp only[dI,lA,lB];exact HQ) ⟨ci,ci,ci⟩ (.mk .mk .mk .mk .mk)
end
instance z83:cH 292 where
instance z84:cH 296 where
inductive Sq (q vx:Nat):List (List AV)->List Own->Prop
 |mk {p1 p2 p3:Nat}:Sq q vx [[.fn (.func 377) [] [.ptr p1 0]]] [.obj p1 (.row [.fn (.func 414) [] [.ptr p2 0,.ptr p3 0]]),.obj p2 (.row [.ptr q 0]),.obj p3 (.row [.fn (.func 294) [] [.ptr vx 0]])]
inductive Ss (cb:Int)(q vx vh vf:Nat):List (List AV)->List Own->Prop
 |mk {p1 p2 p3 f1 s1 a1 w1:Nat}:Ss cb q vx vh vf [[.fn (.func 377) [] [.ptr p1 0]],[.fn (.func 377) [] [.ptr s1 0]],[.fn (.func 377) [] [.ptr f1 0]]]
   [.obj p1 (.row [.fn (.func 414) [] [.ptr p2 0,.ptr p3 0]]),.obj p2 (.row [.ptr q 0]),.obj p3 (.row [.fn (.func 300) [] [.ptr vx 0,.ptr vh 0]]),
    .obj s1 (.row [.fn (.func 423) [] [.ptr a1 0,.ptr w1 0]]),.obj a1 (.row [I cb]),.obj w1 (.row [U 0]),
    .obj f1 (.row [.fn (.func 297) [] [.ptr vf 0,.ptr vx 0]])]
def Laid (x:Xc)(k c:Int)(q:Nat)(uv:AV)(i key au:Int)(nn:Bool)(cE err:Int)(F:List (List AV)->List Own->Prop)(R:List Own):AV->List Own->Prop:=
 λu ab=>∃sv L lo,u=.dD []/\(odd sv=false/\sv.cells=[sv]/\AV.beq sv sv=true)/\F L lo/\ab=.obj q (.row (x.row k c sv uv i key au nn cE err))::.sl sv 1 L::(lo++R)
section
variable{B0 S:AH}{W:List Nat}{R:List Own}{ro:List aB}{q vx vh vf:Nat}{x:Xc}{k c i key au cE err cb high:Int}{nn:Bool}{uv:AV}
theorem HT {own lo sv L F}(hs:Hs own (.obj q (.row (x.row k c sv uv i key au nn cE err))::.sl sv 1 L::(lo++R)))(hf:odd sv=false/\sv.cells=[sv]/\AV.beq sv sv=true)(hc:F L lo):
 jy ro (Laid x k c q uv i key au nn cE err F R) .ret [] own ro:=⟨rfl,rfl,_,⟨sv,L,lo,rfl,hf,hc,rfl⟩,hs⟩
theorem Ez (H:Cx B0 W S (.obj q (.row (x.row k c Ns uv i key au nn cE err))::.obj vx (.row [.ptr q 0])::R) ro):
  aG EM (zF 174) [.ptr q 0,.fn (.func 292) [] [.ptr vx 0]] S λu S'=>∃ab,Laid x k c q uv i key au nn cE err (Sq q vx) (.obj vx (.row [.ptr q 0])::R) u ab/\Cx B0 W S' ab ro:=by
 haveI:aU:=⟨⟩;haveI:dH:=⟨⟩;refine y1 H q_ ?_;intros;all_goals first
  |(simp only[List.length_append,List.length_map,List.length_cons,List.length_nil];omega)
  |(exfalso;omega)
  |skip
 simp only[List.map,lC,lA,lB];exact HT (by simp only[lA,lB];exact HQ) ⟨ci,ci,ci⟩ .mk
theorem EA (ha:0<=cb/\cb<200000)(H:Cx B0 W S (.obj q (.row (x.row k c Ns uv i key au nn cE err))::.obj vx (.row [.ptr q 0])::.obj vh (.row [I high])::.obj vf (.row [I cb])::R) ro):
  aG EM (zF 174) [.ptr q 0,.fn (.func 296) [] [.ptr vf 0,.ptr vx 0,.ptr vh 0]] S λu S'=>∃ab,Laid x k c q uv i key au nn cE err (Ss cb q vx vh vf) (.obj vx (.row [.ptr q 0])::.obj vh (.row [I high])::.obj vf (.row [I cb])::R) u ab/\Cx B0 W S' ab ro:=by
 haveI:aU:=⟨⟩;haveI:dH:=⟨⟩;refine y1 H q_ ?_;intros;all_goals first
  |(simp only[List.length_append,List.length_map,List.length_cons,List.length_nil];omega)
  |(exfalso;omega)
  |skip
 simp only[List.map,lC,lA,lB];exact HT (by simp only[lA,lB];exact HQ) ⟨ci,ci,ci⟩ .mk
end
instance z85 {n:Nat}[Mn n [280,282,391,287]]:cH n where
inductive yO (vb vx:Nat)(q:Nat):List AV->List Own->Prop
 |mk {b1 b2 b3 b4:Nat}:yO vb vx q [.ptr b1 0,.ptr b2 0,.ptr b3 0,.ptr b4 0] (dI b1 b2 b3 b4 (.fn (.func 288) [] [.ptr vb 0,.ptr vx 0]) Np (Nf) false++[])
inductive rV (x:Xc)(r:Rn)(au:Int)(vb vx:Nat)(q:Nat)(cl:List AV):jZ->List Own->Prop
 |f {lo}(hw:r.ok/\Me.ar au)(h:yO vb vx q cl lo):rV x r au vb vx q cl .a lo
 |r {b1 b2 b3 b4 qm:Nat}{mk σ lm}(dc:cl=[.ptr b1 0,.ptr b2 0,.ptr b3 0,.ptr b4 0])(h:qV r au qm σ lm)(ho:σ.over=false):rV x r au vb vx q cl σ (dI b1 b2 b3 b4 mk (.ptr qm 0) (Nf) true++([]++lm))
section
variable{B0 S:AH}{W:List Nat}{R lo:List Own}{ro:List aB}{m bl q vx:Nat}{y:Me}{rest cl:List AV}{x:Xc}{k c i key au cE err:Int}{nn:Bool}{sv uv:AV}{L:List (List AV)}
theorem EB {σ}(h1:odd sv=false)(h2:sv.cells=[sv])(h3:AV.beq sv sv=true){r}{vb:Nat}(hs:r.ok)(hy:y.gd)(h:rV x r au vb vx q cl σ lo)
  (H:Cx B0 W S (.obj q (.row (x.row k c sv uv i key au nn cE err))::.sl sv 1 L::(lo++(ad m bl y rest++(.obj vx (.row [.ptr q 0])::.obj vb (.row [I r.head,I r.tail,I r.eY,I r.size])::R)))) ro):
  aG EM (.fn (.func 408) [] cl) [.ptr m 0] S λu S'=>∃ab,oA x k c q sv uv L i key au nn cE err (zd (rV x r au vb vx q cl) jZ.over 0 (σ.step r au y) (ad m bl · rest) (.obj vx (.row [.ptr q 0])::.obj vb (.row [I r.head,I r.tail,I r.eY,I r.size])::R)) (tR jZ.over 0 (σ.step r au y) (ad m bl · rest) (.obj vx (.row [.ptr q 0])::.obj vb (.row [I r.head,I r.tail,I r.eY,I r.size])::R) (Qe sv L uv i key au nn err)) u ab/\Cx B0 W S' ab ro:=by
 cases h with
 |f hw h=>
  cases h with
  |@mk b1 b2 b3 b4=>
   refine y1 H oB ?_;intros;next qm lm hm=>
   refine Vx.bB (own:=.obj q _::.sl sv 1 _::.obj b1 _::.obj b2 _::.obj b3 _::.obj b4 _::(lm++(ad m bl y rest++(.obj vx (.row [.ptr q 0])::.obj vb (.row [I r.head,I r.tail,I r.eY,I r.size])::R)))) HQ ?_;refine Vx.cC (A:=[_,_,_,_,_,_]) (λB W S H=>Ao hs hy hm H) λa' x' l' e hl=>?_;cases ho:a'.over
   .skip
    refine z1 ?_;exact bX e (.r rfl hl ho) ho HQ
   .refine z1 ?_;exact aC e ho (.s h1 h2 h3) Qe.rfl HQ
 |@r b1 b2 b3 b4 qm mk σ lm dc h ho=>
  subst dc;refine y1 H oB ?_;refine Vx.cC (A:=[_,_,_,_,_,_]) (λB W S H=>Ao hs hy h H) λa' x' l' e hl=>?_;cases ho:a'.over
  .skip
   refine z1 ?_;exact bX e (.r rfl hl ho) ho HQ
  .refine z1 ?_;exact aC e ho (.s h1 h2 h3) Qe.rfl HQ
end
inductive St (r:Rn)(high:Int)(q vx vb:Nat):List (List AV)->List (List AV)->List Own->Prop
 |mk {Yr I5 sM yK Ys yJ J9 Yt I6 sN yM Yu yL Ka}(hf:Cb r q Yr Yt)(ha:Dv vx q I5 I6)(ht:lZ 2 3 q sM sN)(hp:Dw vx high q yK yM)(hd:yO vb vx q Ys Yu)(hb:AK q yJ yL)(hu:lZ 3 2 q J9 Ka):
  St r high q vx vb [[.fn (.func 506) [] yJ],[.fn (.func 408) [] Ys],[.fn (.func 499) [] yK],[.fn (.func 490) [] sM],[.fn (.func 496) [] I5],[.fn (.func 493) [] Yr]]
   [[.fn (.func 490) [] J9]] (Yt++(I6++(sN++(yM++(Yu++(yL++Ka))))))
section
variable{B0 S:AH}{W:List Nat}{R:List Own}{ro:List aB}{q vx vh vb:Nat}{x:Xc}{k c i key au cE err high:Int}{nn:Bool}{uv:AV}{r:Rn}
theorem Sv {own lo:List Own}{sv uv:AV}{L U':List (List AV)}{F:List (List AV)->List (List AV)->List Own->Prop}(hs:Hs own (.obj q (.row (x.row k c sv uv i key au nn cE err))::.sl sv 1 L::.sl uv 1 U'::(lo++R)))(hf:odd sv=false/\sv.cells=[sv]/\AV.beq sv sv=true)(hc:F L U' lo):
 jy ro (λu ab=>∃sv uv L U' lo,u=.dD []/\(odd sv=false/\sv.cells=[sv]/\AV.beq sv sv=true)/\F L U' lo/\ab=.obj q (.row (x.row k c sv uv i key au nn cE err))::.sl sv 1 L::.sl uv 1 U'::(lo++R)) .ret [] own ro:=⟨rfl,rfl,_,⟨sv,uv,L,U',lo,rfl,hf,hc,rfl⟩,hs⟩
theorem EC (H:Cx B0 W S (.obj q (.row (x.row k c Ns uv i key au nn cE err))::.obj vx (.row [.ptr q 0])::.obj vb (.row [I r.head,I r.tail,I r.eY,I r.size])::.obj vh (.row [I high])::R) ro):
  aG EM (zF 174) [.ptr q 0,.fn (.func 280) [] [.ptr vx 0,.ptr vb 0,.ptr vh 0]] S λu S'=>∃ab,(∃sv uv L U' lo,u=.dD []/\(odd sv=false/\sv.cells=[sv]/\AV.beq sv sv=true)/\St r high q vx vb L U' lo/\ab=.obj q (.row (x.row k c sv uv i key au nn cE err))::.sl sv 1 L::.sl uv 1 U'::(lo++(.obj vx (.row [.ptr q 0])::.obj vb (.row [I r.head,I r.tail,I r.eY,I r.size])::.obj vh (.row [I high])::R)))/\Cx B0 W S' ab ro:=by
 haveI:aU:=⟨⟩;haveI:dH:=⟨⟩;refine y1 H q_ ?_;intros;all_goals first
  |(simp only[List.length_append,List.length_map,List.length_cons,List.length_nil];omega)
  |(exfalso;omega)
  |skip
 simp only[List.map,lC,lA,lB];exact Sv (by simp only[dI,lA,lB];exact HQ) ⟨ci,ci,ci⟩ (.mk .mk .mk .mk .mk .mk .mk .mk)
end
instance z86 {n:Nat}[Mn n [253,254,260,273]]:cH n where
inductive Sw (q vx vn vt vw:Nat):List (List AV)->List Own->Prop
 |mk {yK sM J8 cls yM sN J_ Yv}{p1:Nat}(hp:HE vx vn vt vw q yK yM)(ht:Dx vx q sM sN)(hl:Dt vx q J8 J_)(hs:Du vx vn q cls Yv):
  Sw q vx vn vt vw [[.fn (.func 385) [] cls],[.fn (.func 486) [] J8],[.fn (.func 377) [] [.ptr p1 0]],[.fn (.func 370) [] sM],[.fn (.func 368) [] yK]]
   (.obj p1 (.row [.fn (.func 267) [] [.ptr vx 0,.ptr vt 0]])::(yM++(sN++(J_++Yv))))
section
variable{B0 S:AH}{W:List Nat}{R:List Own}{ro:List aB}{q vx vn vt vw:Nat}{x:Xc}{k c i key au cE err n now t0 pr ev t3:Int}{nn:Bool}{uv:AV}
theorem ED (H:Cx B0 W S (.obj q (.row (x.row k c Ns uv i key au nn cE err))::.obj vx (.row [.ptr q 0])::.obj vn (.row [I n])::.obj vt (.row [I t0,I pr,I ev,I t3])::.obj vw (.row [I now])::R) ro):
  aG EM (zF 174) [.ptr q 0,.fn (.func 253) [] [.ptr vx 0,.ptr vn 0,.ptr vt 0,.ptr vw 0]] S λu S'=>∃ab,Laid x k c q uv i key au nn cE err (Sw q vx vn vt vw) (.obj vx (.row [.ptr q 0])::.obj vn (.row [I n])::.obj vt (.row [I t0,I pr,I ev,I t3])::.obj vw (.row [I now])::R) u ab/\Cx B0 W S' ab ro:=by
 haveI:aU:=⟨⟩;haveI:dH:=⟨⟩;refine y1 H q_ ?_;intros;all_goals first
  |(simp only[List.length_append,List.length_map,List.length_cons,List.length_nil];omega)
  |(exfalso;omega)
  |skip
 simp only[List.map,lC,lA,lB];exact HT (by simp only[dI,lA,lB];exact HQ) ⟨ci,ci,ci⟩ (.mk .mk .mk .mk .mk)
end
end Go.cO
