/- Contracts. Conditions: in each theorem. -/
import Derived.Test.YtdfgboafnklioaaGreatM23
set_option linter.all false
set_option maxRecDepth 100000
set_option maxHeartbeats 4000000
namespace Go.cG
open Go.Proofs
instance z81:cK 302 where
instance z82:cK 293 where
inductive DT (x:Xc)(c:Int)(q vx:Nat):List (List AV)->List Own->Prop
 |mk {Jx tc N7 y6 Jy td log y8}{s1 a1 w1 s2 a2 w2 p1 p2 p3:Nat}
  (ha:KF q Jx Jy) (ht:l_ 4 5 q tc td) (hg:AZ q N7 log) (hb:A4 q y6 y8):
  DT x c q vx [[.fn (.func 506) [] y6],[.fn (.func 481) [] N7],[.fn (.func 377) [] [.ptr s2 0]],[.fn (.func 377) [] [.ptr s1 0]],[.fn (.func 490) [] tc],[.fn (.func 496) [] Jx],[.fn (.func 377) [] [.ptr p1 0]]]
   (.obj s1 (.row [.fn (.func 423) [] [.ptr a1 0,.ptr w1 0]])::.obj a1 (.row [I (x.own+c)])::.obj w1 (.row [U 0])::
    .obj s2 (.row [.fn (.func 423) [] [.ptr a2 0,.ptr w2 0]])::.obj a2 (.row [I (x.r.runs+c)])::.obj w2 (.row [U 18446744073709551615])::
    .obj p1 (.row [.fn (.func 414) [] [.ptr p2 0,.ptr p3 0]])::.obj p2 (.row [.ptr q 0])::.obj p3 (.row [.fn (.func 303) [] [.ptr vx 0]])::
    (Jy++(td++(log++y8))))
section
variable{B0 S:AH}{W:List Nat}{R:List Own}{ro:List aI}{q vx:Nat}{x:Xc}{k c i key aw cE err:Int}{nn:Bool}{uv:AV}
theorem SI {own lo sv L}(hs:Hs own (.obj q (.row (x.row k c sv uv i key aw nn cE err))::.sl sv 1 L::(lo++(.obj vx (.row [.ptr q 0])::R))))(hf:odd sv=false/\sv.cells=[sv]/\AV.beq sv sv=true)(hc:DT x c q vx L lo):
 kx ro (λu ab=>∃sv L lo,u=.ed []/\(odd sv=false/\sv.cells=[sv]/\AV.beq sv sv=true)/\DT x c q vx L lo/\ab=.obj q (.row (x.row k c sv uv i key aw nn cE err))::.sl sv 1 L::(lo++(.obj vx (.row [.ptr q 0])::R))) .ret [] own ro:=⟨rfl,rfl,_,⟨sv,L,lo,rfl,hf,hc,rfl⟩,hs⟩
theorem Cs (hx:(0<=x.own/\x.own<100000)/\(0<=c/\c<64)/\0<=x.r.runs/\x.r.runs<100000)
  (H:Cx B0 W S (.obj q (.row (x.row k c Ns uv i key aw nn cE err))::.obj vx (.row [.ptr q 0])::R) ro):
  aN EM (zF 174) [.ptr q 0,.fn (.func 302) [] [.ptr vx 0]] S λu S'=>∃ab,(∃sv L lo,u=.ed []/\(odd sv=false/\sv.cells=[sv]/\AV.beq sv sv=true)/\DT x c q vx L lo/\ab=.obj q (.row (x.row k c sv uv i key aw nn cE err))::.sl sv 1 L::(lo++(.obj vx (.row [.ptr q 0])::R)))/\Cx B0 W S' ab ro:=by
 haveI:aY:=⟨⟩;haveI:dQ:=⟨⟩;refine y1 H rD ?_;intros;all_goals first
  |(simp only[List.length_append,List.length_map,List.length_cons,List.length_nil];omega)
  |(exfalso;omega)
  |skip
 simp only[List.map,lC,lA,lB];exact SI (by simp only[dT,lA,lB];exact HQ) ⟨be,be,be⟩ (.mk .mk .mk .mk .mk)
end
instance z83:cK 292 where
instance z84:cK 296 where
inductive SJ (q vx:Nat):List (List AV)->List Own->Prop
 |mk {p1 p2 p3:Nat}:SJ q vx [[.fn (.func 377) [] [.ptr p1 0]]] [.obj p1 (.row [.fn (.func 414) [] [.ptr p2 0,.ptr p3 0]]),.obj p2 (.row [.ptr q 0]),.obj p3 (.row [.fn (.func 294) [] [.ptr vx 0]])]
inductive SK (bh:Int)(q vx vh vf:Nat):List (List AV)->List Own->Prop
 |mk {p1 p2 p3 f1 s1 a1 w1:Nat}:SK bh q vx vh vf [[.fn (.func 377) [] [.ptr p1 0]],[.fn (.func 377) [] [.ptr s1 0]],[.fn (.func 377) [] [.ptr f1 0]]]
   [.obj p1 (.row [.fn (.func 414) [] [.ptr p2 0,.ptr p3 0]]),.obj p2 (.row [.ptr q 0]),.obj p3 (.row [.fn (.func 300) [] [.ptr vx 0,.ptr vh 0]]),
    .obj s1 (.row [.fn (.func 423) [] [.ptr a1 0,.ptr w1 0]]),.obj a1 (.row [I bh]),.obj w1 (.row [U 0]),
    .obj f1 (.row [.fn (.func 297) [] [.ptr vf 0,.ptr vx 0]])]
def Laid (x:Xc)(k c:Int)(q:Nat)(uv:AV)(i key aw:Int)(nn:Bool)(cE err:Int)(F:List (List AV)->List Own->Prop)(R:List Own):AV->List Own->Prop:=
 λu ab=>∃sv L lo,u=.ed []/\(odd sv=false/\sv.cells=[sv]/\AV.beq sv sv=true)/\F L lo/\ab=.obj q (.row (x.row k c sv uv i key aw nn cE err))::.sl sv 1 L::(lo++R)
section
variable{B0 S:AH}{W:List Nat}{R:List Own}{ro:List aI}{q vx vh vf:Nat}{x:Xc}{k c i key aw cE err bh high:Int}{nn:Bool}{uv:AV}
theorem Ir {own lo sv L F}(hs:Hs own (.obj q (.row (x.row k c sv uv i key aw nn cE err))::.sl sv 1 L::(lo++R)))(hf:odd sv=false/\sv.cells=[sv]/\AV.beq sv sv=true)(hc:F L lo):
 kx ro (Laid x k c q uv i key aw nn cE err F R) .ret [] own ro:=⟨rfl,rfl,_,⟨sv,L,lo,rfl,hf,hc,rfl⟩,hs⟩
theorem E5 (H:Cx B0 W S (.obj q (.row (x.row k c Ns uv i key aw nn cE err))::.obj vx (.row [.ptr q 0])::R) ro):
  aN EM (zF 174) [.ptr q 0,.fn (.func 292) [] [.ptr vx 0]] S λu S'=>∃ab,Laid x k c q uv i key aw nn cE err (SJ q vx) (.obj vx (.row [.ptr q 0])::R) u ab/\Cx B0 W S' ab ro:=by
 haveI:aY:=⟨⟩;haveI:dQ:=⟨⟩;refine y1 H rD ?_;intros;all_goals first
  |(simp only[List.length_append,List.length_map,List.length_cons,List.length_nil];omega)
  |(exfalso;omega)
  |skip
 simp only[List.map,lC,lA,lB];exact Ir (by simp only[lA,lB];exact HQ) ⟨be,be,be⟩ .mk
theorem E6 (ha:0<=bh/\bh<200000)(H:Cx B0 W S (.obj q (.row (x.row k c Ns uv i key aw nn cE err))::.obj vx (.row [.ptr q 0])::.obj vh (.row [I high])::.obj vf (.row [I bh])::R) ro):
  aN EM (zF 174) [.ptr q 0,.fn (.func 296) [] [.ptr vf 0,.ptr vx 0,.ptr vh 0]] S λu S'=>∃ab,Laid x k c q uv i key aw nn cE err (SK bh q vx vh vf) (.obj vx (.row [.ptr q 0])::.obj vh (.row [I high])::.obj vf (.row [I bh])::R) u ab/\Cx B0 W S' ab ro:=by
 haveI:aY:=⟨⟩;haveI:dQ:=⟨⟩;refine y1 H rD ?_;intros;all_goals first
  |(simp only[List.length_append,List.length_map,List.length_cons,List.length_nil];omega)
  |(exfalso;omega)
  |skip
 simp only[List.map,lC,lA,lB];exact Ir (by simp only[lA,lB];exact HQ) ⟨be,be,be⟩ .mk
end
instance z85 {n:Nat}[Mn n [280,282,391,287]]:cK n where
inductive za (vb vx:Nat)(q:Nat):List AV->List Own->Prop
 |mk {b1 b2 b3 b4:Nat}:za vb vx q [.ptr b1 0,.ptr b2 0,.ptr b3 0,.ptr b4 0] (dT b1 b2 b3 b4 (.fn (.func 288) [] [.ptr vb 0,.ptr vx 0]) Np (Nf) false++[])
inductive sq (x:Xc)(r:Rn)(aw:Int)(vb vx:Nat)(q:Nat)(cl:List AV):j7->List Own->Prop
 |f {lo}(hw:r.ok/\Me.aC aw)(h:za vb vx q cl lo):sq x r aw vb vx q cl .a lo
 |r {b1 b2 b3 b4 qm:Nat}{mk σ lm}(dY:cl=[.ptr b1 0,.ptr b2 0,.ptr b3 0,.ptr b4 0])(h:ru r aw qm σ lm)(ho:σ.over=false):sq x r aw vb vx q cl σ (dT b1 b2 b3 b4 mk (.ptr qm 0) (Nf) true++([]++lm))
section
variable{B0 S:AH}{W:List Nat}{R lo:List Own}{ro:List aI}{m bl q vx:Nat}{y:Me}{rest cl:List AV}{x:Xc}{k c i key aw cE err:Int}{nn:Bool}{sv uv:AV}{L:List (List AV)}
theorem E7 {σ}(h1:odd sv=false)(h2:sv.cells=[sv])(h3:AV.beq sv sv=true){r}{vb:Nat}(hs:r.ok)(hy:y.gd)(h:sq x r aw vb vx q cl σ lo)
  (H:Cx B0 W S (.obj q (.row (x.row k c sv uv i key aw nn cE err))::.sl sv 1 L::(lo++(ae m bl y rest++(.obj vx (.row [.ptr q 0])::.obj vb (.row [I r.head,I r.tail,I r.fg,I r.size])::R)))) ro):
  aN EM (.fn (.func 408) [] cl) [.ptr m 0] S λu S'=>∃ab,oP x k c q sv uv L i key aw nn cE err (zx (sq x r aw vb vx q cl) j7.over 0 (σ.step r aw y) (ae m bl · rest) (.obj vx (.row [.ptr q 0])::.obj vb (.row [I r.head,I r.tail,I r.fg,I r.size])::R)) (uh j7.over 0 (σ.step r aw y) (ae m bl · rest) (.obj vx (.row [.ptr q 0])::.obj vb (.row [I r.head,I r.tail,I r.fg,I r.size])::R) (Qe sv L uv i key aw nn err)) u ab/\Cx B0 W S' ab ro:=by
 cases h with
 |f hw h=>
  cases h with
  |@mk b1 b2 b3 b4=>
   refine y1 H oQ ?_;intros;next qm lm hm=>
   refine Vx.bQ (own:=.obj q _::.sl sv 1 _::.obj b1 _::.obj b2 _::.obj b3 _::.obj b4 _::(lm++(ae m bl y rest++(.obj vx (.row [.ptr q 0])::.obj vb (.row [I r.head,I r.tail,I r.fg,I r.size])::R)))) HQ ?_;refine Vx.cz (A:=[_,_,_,_,_,_]) (λB W S H=>AF hs hy hm H) λa' x' l' e hl=>?_;cases ho:a'.over
   .skip
    refine z1 ?_;exact bV e (.r rfl hl ho) ho HQ
   .refine z1 ?_;exact aJ e ho (.s h1 h2 h3) Qe.rfl HQ
 |@r b1 b2 b3 b4 qm mk σ lm dY h ho=>
  subst dY;refine y1 H oQ ?_;refine Vx.cz (A:=[_,_,_,_,_,_]) (λB W S H=>AF hs hy h H) λa' x' l' e hl=>?_;cases ho:a'.over
  .skip
   refine z1 ?_;exact bV e (.r rfl hl ho) ho HQ
  .refine z1 ?_;exact aJ e ho (.s h1 h2 h3) Qe.rfl HQ
end
inductive SL (r:Rn)(high:Int)(q vx vb:Nat):List (List AV)->List (List AV)->List Own->Prop
 |mk {YS Jx tc y7 YT y6 KL YU Jy td y9 YV y8 KN}(hf:Cr r q YS YU)(ha:DP vx q Jx Jy)(ht:l_ 2 3 q tc td)(hp:DR vx high q y7 y9)(hd:za vb vx q YT YV)(hb:A4 q y6 y8)(hu:l_ 3 2 q KL KN):
  SL r high q vx vb [[.fn (.func 506) [] y6],[.fn (.func 408) [] YT],[.fn (.func 499) [] y7],[.fn (.func 490) [] tc],[.fn (.func 496) [] Jx],[.fn (.func 493) [] YS]]
   [[.fn (.func 490) [] KL]] (YU++(Jy++(td++(y9++(YV++(y8++KN))))))
section
variable{B0 S:AH}{W:List Nat}{R:List Own}{ro:List aI}{q vx vh vb:Nat}{x:Xc}{k c i key aw cE err high:Int}{nn:Bool}{uv:AV}{r:Rn}
theorem SM {own lo:List Own}{sv uv:AV}{L U':List (List AV)}{F:List (List AV)->List (List AV)->List Own->Prop}(hs:Hs own (.obj q (.row (x.row k c sv uv i key aw nn cE err))::.sl sv 1 L::.sl uv 1 U'::(lo++R)))(hf:odd sv=false/\sv.cells=[sv]/\AV.beq sv sv=true)(hc:F L U' lo):
 kx ro (λu ab=>∃sv uv L U' lo,u=.ed []/\(odd sv=false/\sv.cells=[sv]/\AV.beq sv sv=true)/\F L U' lo/\ab=.obj q (.row (x.row k c sv uv i key aw nn cE err))::.sl sv 1 L::.sl uv 1 U'::(lo++R)) .ret [] own ro:=⟨rfl,rfl,_,⟨sv,uv,L,U',lo,rfl,hf,hc,rfl⟩,hs⟩
theorem E8 (H:Cx B0 W S (.obj q (.row (x.row k c Ns uv i key aw nn cE err))::.obj vx (.row [.ptr q 0])::.obj vb (.row [I r.head,I r.tail,I r.fg,I r.size])::.obj vh (.row [I high])::R) ro):
  aN EM (zF 174) [.ptr q 0,.fn (.func 280) [] [.ptr vx 0,.ptr vb 0,.ptr vh 0]] S λu S'=>∃ab,(∃sv uv L U' lo,u=.ed []/\(odd sv=false/\sv.cells=[sv]/\AV.beq sv sv=true)/\SL r high q vx vb L U' lo/\ab=.obj q (.row (x.row k c sv uv i key aw nn cE err))::.sl sv 1 L::.sl uv 1 U'::(lo++(.obj vx (.row [.ptr q 0])::.obj vb (.row [I r.head,I r.tail,I r.fg,I r.size])::.obj vh (.row [I high])::R)))/\Cx B0 W S' ab ro:=by
 haveI:aY:=⟨⟩;haveI:dQ:=⟨⟩;refine y1 H rD ?_;intros;all_goals first
  |(simp only[List.length_append,List.length_map,List.length_cons,List.length_nil];omega)
  |(exfalso;omega)
  |skip
 simp only[List.map,lC,lA,lB];exact SM (by simp only[dT,lA,lB];exact HQ) ⟨be,be,be⟩ (.mk .mk .mk .mk .mk .mk .mk .mk)
end
instance z86 {n:Nat}[Mn n [253,254,260,273]]:cK n where
inductive SN (q vx vn vt vw:Nat):List (List AV)->List Own->Prop
 |mk {y7 tc KK cls y9 td KM YW}{p1:Nat}(hp:Ia vx vn vt vw q y7 y9)(ht:DS vx q tc td)(hl:DN vx q KK KM)(hs:DO vx vn q cls YW):
  SN q vx vn vt vw [[.fn (.func 385) [] cls],[.fn (.func 486) [] KK],[.fn (.func 377) [] [.ptr p1 0]],[.fn (.func 370) [] tc],[.fn (.func 368) [] y7]]
   (.obj p1 (.row [.fn (.func 267) [] [.ptr vx 0,.ptr vt 0]])::(y9++(td++(KM++YW))))
section
variable{B0 S:AH}{W:List Nat}{R:List Own}{ro:List aI}{q vx vn vt vw:Nat}{x:Xc}{k c i key aw cE err n now t0 pr ev t3:Int}{nn:Bool}{uv:AV}
theorem E9 (H:Cx B0 W S (.obj q (.row (x.row k c Ns uv i key aw nn cE err))::.obj vx (.row [.ptr q 0])::.obj vn (.row [I n])::.obj vt (.row [I t0,I pr,I ev,I t3])::.obj vw (.row [I now])::R) ro):
  aN EM (zF 174) [.ptr q 0,.fn (.func 253) [] [.ptr vx 0,.ptr vn 0,.ptr vt 0,.ptr vw 0]] S λu S'=>∃ab,Laid x k c q uv i key aw nn cE err (SN q vx vn vt vw) (.obj vx (.row [.ptr q 0])::.obj vn (.row [I n])::.obj vt (.row [I t0,I pr,I ev,I t3])::.obj vw (.row [I now])::R) u ab/\Cx B0 W S' ab ro:=by
 haveI:aY:=⟨⟩;haveI:dQ:=⟨⟩;refine y1 H rD ?_;intros;all_goals first
  |(simp only[List.length_append,List.length_map,List.length_cons,List.length_nil];omega)
  |(exfalso;omega)
  |skip
 simp only[List.map,lC,lA,lB];exact Ir (by simp only[dT,lA,lB];exact HQ) ⟨be,be,be⟩ (.mk .mk .mk .mk .mk)
end
end Go.cG
