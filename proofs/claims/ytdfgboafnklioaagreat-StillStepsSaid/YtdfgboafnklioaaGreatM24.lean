/- Contracts. Conditions: in each theorem. -/
import Derived.Test.YtdfgboafnklioaaGreatM23
set_option linter.all false
set_option maxRecDepth 100000
set_option maxHeartbeats 4000000
namespace Go.cI
open Go.Proofs
instance z81:cA 302 where
instance z82:cA 293 where
inductive DF (x:Xc)(c:Int)(q vx:Nat):List (List AV)->List Own->Prop
 |mk {I5 sK NH yO I6 sL log yQ}{s1 a1 w1 s2 a2 w2 p1 p2 p3:Nat}
  (ha:Ka q I5 I6) (ht:lu 4 5 q sK sL) (hg:A0 q NH log) (hb:A5 q yO yQ):
  DF x c q vx [[.fn (.func 506) [] yO],[.fn (.func 481) [] NH],[.fn (.func 377) [] [.ptr s2 0]],[.fn (.func 377) [] [.ptr s1 0]],[.fn (.func 490) [] sK],[.fn (.func 496) [] I5],[.fn (.func 377) [] [.ptr p1 0]]]
   (.obj s1 (.row [.fn (.func 423) [] [.ptr a1 0,.ptr w1 0]])::.obj a1 (.row [I (x.own+c)])::.obj w1 (.row [U 0])::
    .obj s2 (.row [.fn (.func 423) [] [.ptr a2 0,.ptr w2 0]])::.obj a2 (.row [I (x.r.runs+c)])::.obj w2 (.row [U 18446744073709551615])::
    .obj p1 (.row [.fn (.func 414) [] [.ptr p2 0,.ptr p3 0]])::.obj p2 (.row [.ptr q 0])::.obj p3 (.row [.fn (.func 303) [] [.ptr vx 0]])::
    (I6++(sL++(log++yQ))))
section
variable{B0 S:AH}{W:List Nat}{R:List Own}{ro:List aF}{q vx:Nat}{x:Xc}{k c i key aw cu err:Int}{nn:Bool}{uv:AV}
theorem Sf {own lo sv L}(hs:Hs own (.obj q (.row (x.row k c sv uv i key aw nn cu err))::.sl sv 1 L::(lo++(.obj vx (.row [.ptr q 0])::R))))(hf:odd sv=false/\sv.cells=[sv]/\AV.beq sv sv=true)(hc:DF x c q vx L lo):
 gQ ro (λu ab=>∃sv L lo,u=.dh []/\(odd sv=false/\sv.cells=[sv]/\AV.beq sv sv=true)/\DF x c q vx L lo/\ab=.obj q (.row (x.row k c sv uv i key aw nn cu err))::.sl sv 1 L::(lo++(.obj vx (.row [.ptr q 0])::R))) .ret [] own ro:=⟨rfl,rfl,_,⟨sv,L,lo,rfl,hf,hc,rfl⟩,hs⟩
theorem Cp (hx:(0<=x.own/\x.own<100000)/\(0<=c/\c<64)/\0<=x.r.runs/\x.r.runs<100000)
  (H:Cx B0 W S (.obj q (.row (x.row k c Ns uv i key aw nn cu err))::.obj vx (.row [.ptr q 0])::R) ro):
  aG EM (zF 174) [.ptr q 0,.fn (.func 302) [] [.ptr vx 0]] S λu S'=>∃ab,(∃sv L lo,u=.dh []/\(odd sv=false/\sv.cells=[sv]/\AV.beq sv sv=true)/\DF x c q vx L lo/\ab=.obj q (.row (x.row k c sv uv i key aw nn cu err))::.sl sv 1 L::(lo++(.obj vx (.row [.ptr q 0])::R)))/\Cx B0 W S' ab ro:=by
 haveI:aV:=⟨⟩;haveI:dx:=⟨⟩;refine y1 H qT ?_;intros;all_goals first
  |(simp only[List.length_append,List.length_map,List.length_cons,List.length_nil];omega)
  |(exfalso;omega)
  |skip
 simp only[List.map,lC,lA,lB];exact Sf (by simp only[dA,lA,lB];exact HQ) ⟨ci,ci,ci⟩ (.mk .mk .mk .mk .mk)
end
instance z83:cA 292 where
instance z84:cA 296 where
inductive Sg (q vx:Nat):List (List AV)->List Own->Prop
 |mk {p1 p2 p3:Nat}:Sg q vx [[.fn (.func 377) [] [.ptr p1 0]]] [.obj p1 (.row [.fn (.func 414) [] [.ptr p2 0,.ptr p3 0]]),.obj p2 (.row [.ptr q 0]),.obj p3 (.row [.fn (.func 294) [] [.ptr vx 0]])]
inductive Sh (cg:Int)(q vx vh vf:Nat):List (List AV)->List Own->Prop
 |mk {p1 p2 p3 f1 s1 a1 w1:Nat}:Sh cg q vx vh vf [[.fn (.func 377) [] [.ptr p1 0]],[.fn (.func 377) [] [.ptr s1 0]],[.fn (.func 377) [] [.ptr f1 0]]]
   [.obj p1 (.row [.fn (.func 414) [] [.ptr p2 0,.ptr p3 0]]),.obj p2 (.row [.ptr q 0]),.obj p3 (.row [.fn (.func 300) [] [.ptr vx 0,.ptr vh 0]]),
    .obj s1 (.row [.fn (.func 423) [] [.ptr a1 0,.ptr w1 0]]),.obj a1 (.row [I cg]),.obj w1 (.row [U 0]),
    .obj f1 (.row [.fn (.func 297) [] [.ptr vf 0,.ptr vx 0]])]
def Laid (x:Xc)(k c:Int)(q:Nat)(uv:AV)(i key aw:Int)(nn:Bool)(cu err:Int)(F:List (List AV)->List Own->Prop)(R:List Own):AV->List Own->Prop:=
 λu ab=>∃sv L lo,u=.dh []/\(odd sv=false/\sv.cells=[sv]/\AV.beq sv sv=true)/\F L lo/\ab=.obj q (.row (x.row k c sv uv i key aw nn cu err))::.sl sv 1 L::(lo++R)
section
variable{B0 S:AH}{W:List Nat}{R:List Own}{ro:List aF}{q vx vh vf:Nat}{x:Xc}{k c i key aw cu err cg high:Int}{nn:Bool}{uv:AV}
theorem HW {own lo sv L F}(hs:Hs own (.obj q (.row (x.row k c sv uv i key aw nn cu err))::.sl sv 1 L::(lo++R)))(hf:odd sv=false/\sv.cells=[sv]/\AV.beq sv sv=true)(hc:F L lo):
 gQ ro (Laid x k c q uv i key aw nn cu err F R) .ret [] own ro:=⟨rfl,rfl,_,⟨sv,L,lo,rfl,hf,hc,rfl⟩,hs⟩
theorem EK (H:Cx B0 W S (.obj q (.row (x.row k c Ns uv i key aw nn cu err))::.obj vx (.row [.ptr q 0])::R) ro):
  aG EM (zF 174) [.ptr q 0,.fn (.func 292) [] [.ptr vx 0]] S λu S'=>∃ab,Laid x k c q uv i key aw nn cu err (Sg q vx) (.obj vx (.row [.ptr q 0])::R) u ab/\Cx B0 W S' ab ro:=by
 haveI:aV:=⟨⟩;haveI:dx:=⟨⟩;refine y1 H qT ?_;intros;all_goals first
  |(simp only[List.length_append,List.length_map,List.length_cons,List.length_nil];omega)
  |(exfalso;omega)
  |skip
 simp only[List.map,lC,lA,lB];exact HW (by simp only[lA,lB];exact HQ) ⟨ci,ci,ci⟩ .mk
theorem EL (ha:0<=cg/\cg<200000)(H:Cx B0 W S (.obj q (.row (x.row k c Ns uv i key aw nn cu err))::.obj vx (.row [.ptr q 0])::.obj vh (.row [I high])::.obj vf (.row [I cg])::R) ro):
  aG EM (zF 174) [.ptr q 0,.fn (.func 296) [] [.ptr vf 0,.ptr vx 0,.ptr vh 0]] S λu S'=>∃ab,Laid x k c q uv i key aw nn cu err (Sh cg q vx vh vf) (.obj vx (.row [.ptr q 0])::.obj vh (.row [I high])::.obj vf (.row [I cg])::R) u ab/\Cx B0 W S' ab ro:=by
 haveI:aV:=⟨⟩;haveI:dx:=⟨⟩;refine y1 H qT ?_;intros;all_goals first
  |(simp only[List.length_append,List.length_map,List.length_cons,List.length_nil];omega)
  |(exfalso;omega)
  |skip
 simp only[List.map,lC,lA,lB];exact HW (by simp only[lA,lB];exact HQ) ⟨ci,ci,ci⟩ .mk
end
instance z85 {n:Nat}[Mn n [280,282,391,287]]:cA n where
inductive yT (vb vx:Nat)(q:Nat):List AV->List Own->Prop
 |mk {b1 b2 b3 b4:Nat}:yT vb vx q [.ptr b1 0,.ptr b2 0,.ptr b3 0,.ptr b4 0] (dA b1 b2 b3 b4 (.fn (.func 288) [] [.ptr vb 0,.ptr vx 0]) Np (Nf) false++[])
inductive rT (x:Xc)(r:Rn)(aw:Int)(vb vx:Nat)(q:Nat)(cl:List AV):jx->List Own->Prop
 |f {lo}(hw:r.ok/\Me.au aw)(h:yT vb vx q cl lo):rT x r aw vb vx q cl .a lo
 |r {b1 b2 b3 b4 qm:Nat}{mk σ lm}(dH:cl=[.ptr b1 0,.ptr b2 0,.ptr b3 0,.ptr b4 0])(h:qN r aw qm σ lm)(ho:σ.over=false):rT x r aw vb vx q cl σ (dA b1 b2 b3 b4 mk (.ptr qm 0) (Nf) true++([]++lm))
section
variable{B0 S:AH}{W:List Nat}{R lo:List Own}{ro:List aF}{m bl q vx:Nat}{y:Me}{rest cl:List AV}{x:Xc}{k c i key aw cu err:Int}{nn:Bool}{sv uv:AV}{L:List (List AV)}
theorem EN {σ}(h1:odd sv=false)(h2:sv.cells=[sv])(h3:AV.beq sv sv=true){r}{vb:Nat}(hs:r.ok)(hy:y.gd)(h:rT x r aw vb vx q cl σ lo)
  (H:Cx B0 W S (.obj q (.row (x.row k c sv uv i key aw nn cu err))::.sl sv 1 L::(lo++(ad m bl y rest++(.obj vx (.row [.ptr q 0])::.obj vb (.row [I r.head,I r.tail,I r.eK,I r.size])::R)))) ro):
  aG EM (.fn (.func 408) [] cl) [.ptr m 0] S λu S'=>∃ab,nX x k c q sv uv L i key aw nn cu err (zw (rT x r aw vb vx q cl) jx.over 0 (σ.step r aw y) (ad m bl · rest) (.obj vx (.row [.ptr q 0])::.obj vb (.row [I r.head,I r.tail,I r.eK,I r.size])::R)) (tX jx.over 0 (σ.step r aw y) (ad m bl · rest) (.obj vx (.row [.ptr q 0])::.obj vb (.row [I r.head,I r.tail,I r.eK,I r.size])::R) (Qe sv L uv i key aw nn err)) u ab/\Cx B0 W S' ab ro:=by
 cases h with
 |f hw h=>
  cases h with
  |@mk b1 b2 b3 b4=>
   refine y1 H nY ?_;intros;next qm lm hm=>
   refine Vx.aO (own:=.obj q _::.sl sv 1 _::.obj b1 _::.obj b2 _::.obj b3 _::.obj b4 _::(lm++(ad m bl y rest++(.obj vx (.row [.ptr q 0])::.obj vb (.row [I r.head,I r.tail,I r.eK,I r.size])::R)))) HQ ?_;refine Vx.ck (A:=[_,_,_,_,_,_]) (λB W S H=>AJ hs hy hm H) λa' x' l' e hl=>?_;cases ho:a'.over
   .skip
    refine z1 ?_;exact bU e (.r rfl hl ho) ho HQ
   .refine z1 ?_;exact aD e ho (.s h1 h2 h3) Qe.rfl HQ
 |@r b1 b2 b3 b4 qm mk σ lm dH h ho=>
  subst dH;refine y1 H nY ?_;refine Vx.ck (A:=[_,_,_,_,_,_]) (λB W S H=>AJ hs hy h H) λa' x' l' e hl=>?_;cases ho:a'.over
  .skip
   refine z1 ?_;exact bU e (.r rfl hl ho) ho HQ
  .refine z1 ?_;exact aD e ho (.s h1 h2 h3) Qe.rfl HQ
end
inductive Si (r:Rn)(high:Int)(q vx vb:Nat):List (List AV)->List (List AV)->List Own->Prop
 |mk {YE I5 sK yP YF yO Kh YG I6 sL yR YH yQ Kj}(hf:Co r q YE YG)(ha:DB vx q I5 I6)(ht:lu 2 3 q sK sL)(hp:DC vx high q yP yR)(hd:yT vb vx q YF YH)(hb:A5 q yO yQ)(hu:lu 3 2 q Kh Kj):
  Si r high q vx vb [[.fn (.func 506) [] yO],[.fn (.func 408) [] YF],[.fn (.func 499) [] yP],[.fn (.func 490) [] sK],[.fn (.func 496) [] I5],[.fn (.func 493) [] YE]]
   [[.fn (.func 490) [] Kh]] (YG++(I6++(sL++(yR++(YH++(yQ++Kj))))))
section
variable{B0 S:AH}{W:List Nat}{R:List Own}{ro:List aF}{q vx vh vb:Nat}{x:Xc}{k c i key aw cu err high:Int}{nn:Bool}{uv:AV}{r:Rn}
theorem Sj {own lo:List Own}{sv uv:AV}{L U':List (List AV)}{F:List (List AV)->List (List AV)->List Own->Prop}(hs:Hs own (.obj q (.row (x.row k c sv uv i key aw nn cu err))::.sl sv 1 L::.sl uv 1 U'::(lo++R)))(hf:odd sv=false/\sv.cells=[sv]/\AV.beq sv sv=true)(hc:F L U' lo):
 gQ ro (λu ab=>∃sv uv L U' lo,u=.dh []/\(odd sv=false/\sv.cells=[sv]/\AV.beq sv sv=true)/\F L U' lo/\ab=.obj q (.row (x.row k c sv uv i key aw nn cu err))::.sl sv 1 L::.sl uv 1 U'::(lo++R)) .ret [] own ro:=⟨rfl,rfl,_,⟨sv,uv,L,U',lo,rfl,hf,hc,rfl⟩,hs⟩
theorem EO (H:Cx B0 W S (.obj q (.row (x.row k c Ns uv i key aw nn cu err))::.obj vx (.row [.ptr q 0])::.obj vb (.row [I r.head,I r.tail,I r.eK,I r.size])::.obj vh (.row [I high])::R) ro):
  aG EM (zF 174) [.ptr q 0,.fn (.func 280) [] [.ptr vx 0,.ptr vb 0,.ptr vh 0]] S λu S'=>∃ab,(∃sv uv L U' lo,u=.dh []/\(odd sv=false/\sv.cells=[sv]/\AV.beq sv sv=true)/\Si r high q vx vb L U' lo/\ab=.obj q (.row (x.row k c sv uv i key aw nn cu err))::.sl sv 1 L::.sl uv 1 U'::(lo++(.obj vx (.row [.ptr q 0])::.obj vb (.row [I r.head,I r.tail,I r.eK,I r.size])::.obj vh (.row [I high])::R)))/\Cx B0 W S' ab ro:=by
 haveI:aV:=⟨⟩;haveI:dx:=⟨⟩;refine y1 H qT ?_;intros;all_goals first
  |(simp only[List.length_append,List.length_map,List.length_cons,List.length_nil];omega)
  |(exfalso;omega)
  |skip
 simp only[List.map,lC,lA,lB];exact Sj (by simp only[dA,lA,lB];exact HQ) ⟨ci,ci,ci⟩ (.mk .mk .mk .mk .mk .mk .mk .mk)
end
instance z86 {n:Nat}[Mn n [253,254,260,273]]:cA n where
inductive Sl (q vx vn vt vw:Nat):List (List AV)->List Own->Prop
 |mk {yP sK Kg cls yR sL Ki YI}{p1:Nat}(hp:HH vx vn vt vw q yP yR)(ht:DE vx q sK sL)(hl:Dz vx q Kg Ki)(hs:DA vx vn q cls YI):
  Sl q vx vn vt vw [[.fn (.func 385) [] cls],[.fn (.func 486) [] Kg],[.fn (.func 377) [] [.ptr p1 0]],[.fn (.func 370) [] sK],[.fn (.func 368) [] yP]]
   (.obj p1 (.row [.fn (.func 267) [] [.ptr vx 0,.ptr vt 0]])::(yR++(sL++(Ki++YI))))
section
variable{B0 S:AH}{W:List Nat}{R:List Own}{ro:List aF}{q vx vn vt vw:Nat}{x:Xc}{k c i key aw cu err n now t0 pr ev t3:Int}{nn:Bool}{uv:AV}
theorem EP (H:Cx B0 W S (.obj q (.row (x.row k c Ns uv i key aw nn cu err))::.obj vx (.row [.ptr q 0])::.obj vn (.row [I n])::.obj vt (.row [I t0,I pr,I ev,I t3])::.obj vw (.row [I now])::R) ro):
  aG EM (zF 174) [.ptr q 0,.fn (.func 253) [] [.ptr vx 0,.ptr vn 0,.ptr vt 0,.ptr vw 0]] S λu S'=>∃ab,Laid x k c q uv i key aw nn cu err (Sl q vx vn vt vw) (.obj vx (.row [.ptr q 0])::.obj vn (.row [I n])::.obj vt (.row [I t0,I pr,I ev,I t3])::.obj vw (.row [I now])::R) u ab/\Cx B0 W S' ab ro:=by
 haveI:aV:=⟨⟩;haveI:dx:=⟨⟩;refine y1 H qT ?_;intros;all_goals first
  |(simp only[List.length_append,List.length_map,List.length_cons,List.length_nil];omega)
  |(exfalso;omega)
  |skip
 simp only[List.map,lC,lA,lB];exact HW (by simp only[dA,lA,lB];exact HQ) ⟨ci,ci,ci⟩ (.mk .mk .mk .mk .mk)
end
end Go.cI
