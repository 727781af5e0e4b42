/- Contracts of functions, over the abstract machine. Conditions: stated in each theorem. -/
import Derived.Test.YtdfgboafnklioaaGreatM23
set_option linter.all false
set_option maxRecDepth 100000
set_option maxHeartbeats 4000000
namespace Go.cY
open Go.Proofs
section
instance z72:cF 302 where
instance z73:cF 293 where
inductive Cg (x:Xc)(c:Int)(q vx:Nat):List (List AV)→List Own→Prop
 |mk {G9 rB Lf xG G_ rC log xI}{s1 a1 w1 s2 a2 w2 p1 p2 p3:Nat}
  (ha:H_ q G9 G_) (ht:kO 4 5 q rB rC) (hg:zg q Lf log) (hb:zk q xG xI):
  Cg x c q vx [[.fn (.func 506) [] xG],[.fn (.func 481) [] Lf],[.fn (.func 377) [] [.ptr s2 0]],[.fn (.func 377) [] [.ptr s1 0]],[.fn (.func 490) [] rB],[.fn (.func 496) [] G9],[.fn (.func 377) [] [.ptr p1 0]]]
   (.obj s1 (.row [.fn (.func 423) [] [.ptr a1 0,.ptr w1 0]])::.obj a1 (.row [I (x.own+c)])::.obj w1 (.row [U 0])::
    .obj s2 (.row [.fn (.func 423) [] [.ptr a2 0,.ptr w2 0]])::.obj a2 (.row [I (x.r.runs+c)])::.obj w2 (.row [U 18446744073709551615])::
    .obj p1 (.row [.fn (.func 414) [] [.ptr p2 0,.ptr p3 0]])::.obj p2 (.row [.ptr q 0])::.obj p3 (.row [.fn (.func 303) [] [.ptr vx 0]])::
    (G_++(rC++(log++xI))))
section
variable{B0 S:AH}{W:List Nat}{R:List Own}{ro:List aQ}{q vx:Nat}{x:Xc}{k c i key au cn err:Int}{nn:Bool}{uv:AV}
theorem PD {own lo sv L}(hs:Hs own (.obj q (.row (x.row k c sv uv i key au nn cn err))::.sl sv 1 L::(lo++(.obj vx (.row [.ptr q 0])::R))))(hf:ep sv=false∧sv.cells=[sv]∧AV.beq sv sv=true)(hc:Cg x c q vx L lo):
 mX ro (fun u ab=>∃sv L lo,u=.cP []∧(ep sv=false∧sv.cells=[sv]∧AV.beq sv sv=true)∧Cg x c q vx L lo∧ab=.obj q (.row (x.row k c sv uv i key au nn cn err))::.sl sv 1 L::(lo++(.obj vx (.row [.ptr q 0])::R))) .ret [] own ro:=⟨rfl,rfl,_,⟨sv,L,lo,rfl,hf,hc,rfl⟩,hs⟩
theorem AU (hx:(0≤x.own∧x.own<100000)∧(0≤c∧c<64)∧0≤x.r.runs∧x.r.runs<100000)
  (H:Cx B0 W S (.obj q (.row (x.row k c Ns uv i key au nn cn err))::.obj vx (.row [.ptr q 0])::R) ro):
  aO EM (zF 174) [.ptr q 0,.fn (.func 302) [] [.ptr vx 0]] S fun u S'=>∃ab,(∃sv L lo,u=.cP []∧(ep sv=false∧sv.cells=[sv]∧AV.beq sv sv=true)∧Cg x c q vx L lo∧ab=.obj q (.row (x.row k c sv uv i key au nn cn err))::.sl sv 1 L::(lo++(.obj vx (.row [.ptr q 0])::R)))∧Cx B0 W S' ab ro:=by
 haveI:aS:=⟨⟩
 haveI:di:=⟨⟩
 refine Vx.fm H pZ (b:=Tryz.a174) ?_;(repeat' first|constructor|exact ZQ|intro _);all_goals apply zL
 all_goals first
  |(simp only[List.length_append,List.length_map,List.length_cons,List.length_nil];omega)
  |(exfalso;omega)
  |skip
 simp only[List.map,lC,lA,lB]
 exact PD (by simp only[dp,lA,lB];exact HQ) ⟨by assumption,by assumption,by assumption⟩ (.mk .mk .mk .mk .mk)
end
end
section
instance z74:cF 292 where
instance z75:cF 296 where
inductive PE (q vx:Nat):List (List AV)→List Own→Prop
 |mk {p1 p2 p3:Nat}:PE q vx [[.fn (.func 377) [] [.ptr p1 0]]] [.obj p1 (.row [.fn (.func 414) [] [.ptr p2 0,.ptr p3 0]]),.obj p2 (.row [.ptr q 0]),.obj p3 (.row [.fn (.func 294) [] [.ptr vx 0]])]
inductive PF (cd:Int)(q vx vh vf:Nat):List (List AV)→List Own→Prop
 |mk {p1 p2 p3 f1 s1 a1 w1:Nat}:PF cd q vx vh vf [[.fn (.func 377) [] [.ptr p1 0]],[.fn (.func 377) [] [.ptr s1 0]],[.fn (.func 377) [] [.ptr f1 0]]]
   [.obj p1 (.row [.fn (.func 414) [] [.ptr p2 0,.ptr p3 0]]),.obj p2 (.row [.ptr q 0]),.obj p3 (.row [.fn (.func 300) [] [.ptr vx 0,.ptr vh 0]]),
    .obj s1 (.row [.fn (.func 423) [] [.ptr a1 0,.ptr w1 0]]),.obj a1 (.row [I cd]),.obj w1 (.row [U 0]),
    .obj f1 (.row [.fn (.func 297) [] [.ptr vf 0,.ptr vx 0]])]
def Laid (x:Xc)(k c:Int)(q:Nat)(uv:AV)(i key au:Int)(nn:Bool)(cn err:Int)(F:List (List AV)→List Own→Prop)(R:List Own):AV→List Own→Prop:=
 fun u ab=>∃sv L lo,u=.cP []∧(ep sv=false∧sv.cells=[sv]∧AV.beq sv sv=true)∧F L lo∧ab=.obj q (.row (x.row k c sv uv i key au nn cn err))::.sl sv 1 L::(lo++R)
section
variable{B0 S:AH}{W:List Nat}{R:List Own}{ro:List aQ}{q vx vh vf:Nat}{x:Xc}{k c i key au cn err cd high:Int}{nn:Bool}{uv:AV}
theorem Gr {own lo sv L F}(hs:Hs own (.obj q (.row (x.row k c sv uv i key au nn cn err))::.sl sv 1 L::(lo++R)))(hf:ep sv=false∧sv.cells=[sv]∧AV.beq sv sv=true)(hc:F L lo):
 mX ro (Laid x k c q uv i key au nn cn err F R) .ret [] own ro:=⟨rfl,rfl,_,⟨sv,L,lo,rfl,hf,hc,rfl⟩,hs⟩
theorem Dc (H:Cx B0 W S (.obj q (.row (x.row k c Ns uv i key au nn cn err))::.obj vx (.row [.ptr q 0])::R) ro):
  aO EM (zF 174) [.ptr q 0,.fn (.func 292) [] [.ptr vx 0]] S fun u S'=>∃ab,Laid x k c q uv i key au nn cn err (PE q vx) (.obj vx (.row [.ptr q 0])::R) u ab∧Cx B0 W S' ab ro:=by
 haveI:aS:=⟨⟩
 haveI:di:=⟨⟩
 refine Vx.fm H pZ (b:=Tryz.a174) ?_;(repeat' first|constructor|exact ZQ|intro _);all_goals apply zL
 all_goals first
  |(simp only[List.length_append,List.length_map,List.length_cons,List.length_nil];omega)
  |(exfalso;omega)
  |skip
 simp only[List.map,lC,lA,lB]
 exact Gr (by simp only[lA,lB];exact HQ) ⟨by assumption,by assumption,by assumption⟩ .mk
theorem Dd (ha:0≤cd∧cd<200000)(H:Cx B0 W S (.obj q (.row (x.row k c Ns uv i key au nn cn err))::.obj vx (.row [.ptr q 0])::.obj vh (.row [I high])::.obj vf (.row [I cd])::R) ro):
  aO EM (zF 174) [.ptr q 0,.fn (.func 296) [] [.ptr vf 0,.ptr vx 0,.ptr vh 0]] S fun u S'=>∃ab,Laid x k c q uv i key au nn cn err (PF cd q vx vh vf) (.obj vx (.row [.ptr q 0])::.obj vh (.row [I high])::.obj vf (.row [I cd])::R) u ab∧Cx B0 W S' ab ro:=by
 haveI:aS:=⟨⟩
 haveI:di:=⟨⟩
 refine Vx.fm H pZ (b:=Tryz.a174) ?_;(repeat' first|constructor|exact ZQ|intro _);all_goals apply zL
 all_goals first
  |(simp only[List.length_append,List.length_map,List.length_cons,List.length_nil];omega)
  |(exfalso;omega)
  |skip
 simp only[List.map,lC,lA,lB]
 exact Gr (by simp only[lA,lB];exact HQ) ⟨by assumption,by assumption,by assumption⟩ .mk
end
end
section
instance z76 {n:Nat}[Mn n [280,282,391,287]]:cF n where
inductive xL (vb vx:Nat)(q:Nat):List AV→List Own→Prop
 |mk {b1 b2 b3 b4:Nat}:xL vb vx q [.ptr b1 0,.ptr b2 0,.ptr b3 0,.ptr b4 0] (dp b1 b2 b3 b4 (.fn (.func 288) [] [.ptr vb 0,.ptr vx 0]) Np (Nf) false++[])
inductive qK (x:Xc)(r:Rn)(au:Int)(vb vx:Nat)(q:Nat)(cl:List AV):kN→List Own→Prop
 |f {lo}(hw:r.ok∧Me.ar au)(h:xL vb vx q cl lo):qK x r au vb vx q cl .a lo
 |r {b1 b2 b3 b4 qm:Nat}{mk σ lm}(dw:cl=[.ptr b1 0,.ptr b2 0,.ptr b3 0,.ptr b4 0])(h:pT r au qm σ lm)(ho:σ.over=false):qK x r au vb vx q cl σ (dp b1 b2 b3 b4 mk (.ptr qm 0) (Nf) true++([]++lm))
section
variable{B0 S:AH}{W:List Nat}{R lo:List Own}{ro:List aQ}{m bl q vx:Nat}{y:Me}{rest cl:List AV}{x:Xc}{k c i key au cn err:Int}{nn:Bool}{sv uv:AV}{L:List (List AV)}
theorem De {σ}(h1:ep sv=false)(h2:sv.cells=[sv])(h3:AV.beq sv sv=true){r}{vb:Nat}(hs:r.ok)(hy:y.gd)(h:qK x r au vb vx q cl σ lo)
  (H:Cx B0 W S (.obj q (.row (x.row k c sv uv i key au nn cn err))::.sl sv 1 L::(lo++(ad m bl y rest++(.obj vx (.row [.ptr q 0])::.obj vb (.row [I r.head,I r.tail,I r.eE,I r.size])::R)))) ro):
  aO EM (.fn (.func 408) [] cl) [.ptr m 0] S fun u S'=>∃ab,nF x k c q sv uv L i key au nn cn err (xY (qK x r au vb vx q cl) kN.over 0 (σ.step r au y) (ad m bl · rest) (.obj vx (.row [.ptr q 0])::.obj vb (.row [I r.head,I r.tail,I r.eE,I r.size])::R)) (sC kN.over 0 (σ.step r au y) (ad m bl · rest) (.obj vx (.row [.ptr q 0])::.obj vb (.row [I r.head,I r.tail,I r.eE,I r.size])::R) (Qe sv L uv i key au nn err)) u ab∧Cx B0 W S' ab ro:=by
 cases h with
 |f hw h=>
  cases h with
  |@mk b1 b2 b3 b4=>
   refine Vx.fm H nG (b:=Tryz.a408) ?_;(repeat' first|constructor|exact ZQ|intro _);all_goals apply zL
   next qm lm hm=>
   refine Vx.cb (own:=.obj q _::.sl sv 1 _::.obj b1 _::.obj b2 _::.obj b3 _::.obj b4 _::(lm++(ad m bl y rest++(.obj vx (.row [.ptr q 0])::.obj vb (.row [I r.head,I r.tail,I r.eE,I r.size])::R)))) HQ ?_
   refine Vx.cf (A:=[_,_,_,_,_,_]) (fun B W S H=>yX hs hy hm H) fun a' x' l' e hl=>?_
   cases ho:a'.over
   ·skip
    (repeat' first|constructor|exact ZQ|intro _)
    all_goals apply zL
    exact bP e (.r rfl hl ho) ho HQ
   ·(repeat' first|constructor|exact ZQ|intro _)
    all_goals apply zL
    exact aB e ho (.s h1 h2 h3) Qe.rfl HQ
 |@r b1 b2 b3 b4 qm mk σ lm dw h ho=>
  subst dw
  refine Vx.fm H nG (b:=Tryz.a408) ?_;(repeat' first|constructor|exact ZQ|intro _);all_goals apply zL
  refine Vx.cf (A:=[_,_,_,_,_,_]) (fun B W S H=>yX hs hy h H) fun a' x' l' e hl=>?_
  cases ho:a'.over
  ·skip
   (repeat' first|constructor|exact ZQ|intro _)
   all_goals apply zL
   exact bP e (.r rfl hl ho) ho HQ
  ·(repeat' first|constructor|exact ZQ|intro _)
   all_goals apply zL
   exact aB e ho (.s h1 h2 h3) Qe.rfl HQ
end
inductive PG (r:Rn)(high:Int)(q vx vb:Nat):List (List AV)→List (List AV)→List Own→Prop
 |mk {Vu G9 rB xH Vv xG Ih Vw G_ rC xJ Vy xI Ij}(hf:AT r q Vu Vw)(ha:Cd vx q G9 G_)(ht:kO 2 3 q rB rC)(hp:Ce vx high q xH xJ)(hd:xL vb vx q Vv Vy)(hb:zk q xG xI)(hu:kO 3 2 q Ih Ij):
  PG r high q vx vb [[.fn (.func 506) [] xG],[.fn (.func 408) [] Vv],[.fn (.func 499) [] xH],[.fn (.func 490) [] rB],[.fn (.func 496) [] G9],[.fn (.func 493) [] Vu]]
   [[.fn (.func 490) [] Ih]] (Vw++(G_++(rC++(xJ++(Vy++(xI++Ij))))))
section
variable{B0 S:AH}{W:List Nat}{R:List Own}{ro:List aQ}{q vx vh vb:Nat}{x:Xc}{k c i key au cn err high:Int}{nn:Bool}{uv:AV}{r:Rn}
theorem PH {own lo:List Own}{sv uv:AV}{L U':List (List AV)}{F:List (List AV)→List (List AV)→List Own→Prop}(hs:Hs own (.obj q (.row (x.row k c sv uv i key au nn cn err))::.sl sv 1 L::.sl uv 1 U'::(lo++R)))(hf:ep sv=false∧sv.cells=[sv]∧AV.beq sv sv=true)(hc:F L U' lo):
 mX ro (fun u ab=>∃sv uv L U' lo,u=.cP []∧(ep sv=false∧sv.cells=[sv]∧AV.beq sv sv=true)∧F L U' lo∧ab=.obj q (.row (x.row k c sv uv i key au nn cn err))::.sl sv 1 L::.sl uv 1 U'::(lo++R)) .ret [] own ro:=⟨rfl,rfl,_,⟨sv,uv,L,U',lo,rfl,hf,hc,rfl⟩,hs⟩
theorem Df (H:Cx B0 W S (.obj q (.row (x.row k c Ns uv i key au nn cn err))::.obj vx (.row [.ptr q 0])::.obj vb (.row [I r.head,I r.tail,I r.eE,I r.size])::.obj vh (.row [I high])::R) ro):
  aO EM (zF 174) [.ptr q 0,.fn (.func 280) [] [.ptr vx 0,.ptr vb 0,.ptr vh 0]] S fun u S'=>∃ab,(∃sv uv L U' lo,u=.cP []∧(ep sv=false∧sv.cells=[sv]∧AV.beq sv sv=true)∧PG r high q vx vb L U' lo∧ab=.obj q (.row (x.row k c sv uv i key au nn cn err))::.sl sv 1 L::.sl uv 1 U'::(lo++(.obj vx (.row [.ptr q 0])::.obj vb (.row [I r.head,I r.tail,I r.eE,I r.size])::.obj vh (.row [I high])::R)))∧Cx B0 W S' ab ro:=by
 haveI:aS:=⟨⟩
 haveI:di:=⟨⟩
 refine Vx.fm H pZ (b:=Tryz.a174) ?_;(repeat' first|constructor|exact ZQ|intro _);all_goals apply zL
 all_goals first
  |(simp only[List.length_append,List.length_map,List.length_cons,List.length_nil];omega)
  |(exfalso;omega)
  |skip
 simp only[List.map,lC,lA,lB]
 exact PH (by simp only[dp,lA,lB];exact HQ) ⟨by assumption,by assumption,by assumption⟩ (.mk .mk .mk .mk .mk .mk .mk .mk)
end
end
section
instance z77 {n:Nat}[Mn n [253,254,260,273]]:cF n where
inductive PI (q vx vn vt vw:Nat):List (List AV)→List Own→Prop
 |mk {xH rB Ig cls xJ rC Ii Vz}{p1:Nat}(hp:Gb vx vn vt vw q xH xJ)(ht:Cf vx q rB rC)(hl:Cb vx q Ig Ii)(hs:Cc vx vn q cls Vz):
  PI q vx vn vt vw [[.fn (.func 385) [] cls],[.fn (.func 486) [] Ig],[.fn (.func 377) [] [.ptr p1 0]],[.fn (.func 370) [] rB],[.fn (.func 368) [] xH]]
   (.obj p1 (.row [.fn (.func 267) [] [.ptr vx 0,.ptr vt 0]])::(xJ++(rC++(Ii++Vz))))
section
variable{B0 S:AH}{W:List Nat}{R:List Own}{ro:List aQ}{q vx vn vt vw:Nat}{x:Xc}{k c i key au cn err n now t0 pr ev t3:Int}{nn:Bool}{uv:AV}
theorem Dg (H:Cx B0 W S (.obj q (.row (x.row k c Ns uv i key au nn cn err))::.obj vx (.row [.ptr q 0])::.obj vn (.row [I n])::.obj vt (.row [I t0,I pr,I ev,I t3])::.obj vw (.row [I now])::R) ro):
  aO EM (zF 174) [.ptr q 0,.fn (.func 253) [] [.ptr vx 0,.ptr vn 0,.ptr vt 0,.ptr vw 0]] S fun u S'=>∃ab,Laid x k c q uv i key au nn cn err (PI q vx vn vt vw) (.obj vx (.row [.ptr q 0])::.obj vn (.row [I n])::.obj vt (.row [I t0,I pr,I ev,I t3])::.obj vw (.row [I now])::R) u ab∧Cx B0 W S' ab ro:=by
 haveI:aS:=⟨⟩
 haveI:di:=⟨⟩
 refine Vx.fm H pZ (b:=Tryz.a174) ?_;(repeat' first|constructor|exact ZQ|intro _);all_goals apply zL
 all_goals first
  |(simp only[List.length_append,List.length_map,List.length_cons,List.length_nil];omega)
  |(exfalso;omega)
  |skip
 simp only[List.map,lC,lA,lB]
 exact Gr (by simp only[dp,lA,lB];exact HQ) ⟨by assumption,by assumption,by assumption⟩ (.mk .mk .mk .mk .mk)
end
end
end Go.cY
