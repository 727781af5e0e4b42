/- Contracts. Conditions: in each theorem. -/
import Derived.Test.YtdfgboafnklioaaGreatM22
set_option linter.all false
set_option maxRecDepth 100000
set_option maxHeartbeats 4000000
namespace Go.cO
open Go.Proofs
instance z80 {n:Nat}[Mn n [301,427,283,271,285,299,382,397,403]]:cH n where
inductive HS (x:Xc)(c high:Int)(q:Nat):List (List AV)->List (List AV)->List Own->Prop
 |mk {I5 sM J8 yK J9 J0 I6 sN J_ yM Ka Sm}{s1 a1 w1 s2 a2 w2 u1 ua uw u2 vr vx:Nat}
  (ha:HI vx q I5 I6) (ht:lZ 4 3 q sM sN) (hl:AJ vx q J8 J_) (hp:AL vx high q yK yM) (hu:lZ 3 4 q J9 Ka) (ho:AG vx q J0 Sm):
  HS x c high q [[.fn (.func 377) [] [.ptr s1 0]],[.fn (.func 499) [] yK],[.fn (.func 486) [] J8],[.fn (.func 377) [] [.ptr s2 0]],[.fn (.func 490) [] sM],[.fn (.func 496) [] I5]]
   [[.fn (.func 377) [] [.ptr u1 0]],[.fn (.func 377) [] [.ptr u2 0]],[.fn (.func 490) [] J9],[.fn (.func 486) [] J0]]
   (.obj s1 (.row [.fn (.func 423) [] [.ptr a1 0,.ptr w1 0]])::.obj a1 (.row [I (x.own+c)])::.obj w1 (.row [U 0])::
    .obj s2 (.row [.fn (.func 423) [] [.ptr a2 0,.ptr w2 0]])::.obj a2 (.row [I (x.r.runs+c)])::.obj w2 (.row [U 18446744073709551615])::
    .obj u1 (.row [.fn (.func 423) [] [.ptr ua 0,.ptr uw 0]])::.obj ua (.row [I (x.r.flags+c)])::.obj uw (.row [U 1])::
    .obj u2 (.row [.fn (.func 426) [] [.ptr vr 0,.ptr vx 0]])::.obj vr (.row [I (x.r.runs+c)])::
    (I6++(sN++(J_++(yM++(Ka++(Sm++[.obj vx (.row [.ptr q 0])])))))))
def Sn (x:Xc)(w c high:Int)(q:Nat)(L:List (List AV))(uv:AV)(key au:Int)(nn:Bool)(err:Int):Unit->AV->List (List AV)->AV->Int->Int->Int->Bool->Int->List Own->Prop:=
 λ_ aP L' cq i' aM aN c_ aL ex=>(x.rd w<0/\∃P,yI q P ex/\Qe aP (L++P) uv (-1) key au nn err () aP L' cq i' aM aN c_ aL)\/
  (0<=x.rd w/\(odd cq=false/\cq.cells=[cq]/\AV.beq cq cq=true)/\∃P Y U' e1 e2,yI q P e1/\HS x c high q Y U' e2/\ex=.sl cq 1 U'::(e2++e1)/\Qe aP (L++(P++Y)) cq (x.rd w) key au nn err () aP L' cq i' aM aN c_ aL)
theorem Nz {α:Type}{x:Xc}{k c i key au cE err b:Int}{q:Nat}{nn:Bool}{sv uv:AV}{L:List (List AV)}{ov:α->Bool}{st:α×Me}{mem:Me->List Own}{R own:List Own}{ro:List aB}{wF:Int->List Own->Prop}{E:α->AV->List (List AV)->AV->Int->Int->Int->Bool->Int->List Own->Prop}{a':α}{y':Me}{aP cq:AV}{L':List (List AV)}{i' aM aN aL:Int}{c_:Bool}{fW ex:List Own}
 (hs:Hs own (.obj q (.row (x.row k c aP cq i' aM aN c_ cE aL))::(fW++(ex++(mem y'++R))))) (e:st=(a',y')) (ho:ov a'=true) (hk:Ca aP L' fW) (hE:E a' aP L' cq i' aM aN c_ aL ex):
 jy ro (oA x k c q sv uv L i key au nn cE err wF (Sj ov b st mem R E)) .ret [B true,U b] own ro:=lD e ho hk hE hs
section
variable{B0 S:AH}{W:List Nat}{R lo:List Own}{ro:List aB}{m bl q vx vh p1 p2 p3:Nat}{y:Me}{rest cl:List AV}{x:Xc}{k c i key au cE err high:Int}{nn:Bool}{sv uv:AV}{L:List (List AV)}
theorem wH (h1:odd sv=false)(h2:sv.cells=[sv])(h3:AV.beq sv sv=true)(hL:L.length<=64)(hy:y.gd)(hx:(0<=x.own/\x.own<100000)/\(0<=c/\c<64)/\1<=x.j.f.size/\x.j.f.size<=4096)(hr:(0<=x.r.runs/\x.r.runs<100000)/\0<=x.r.flags/\x.r.flags<100000)
  (H:Cx B0 W S (.obj q (.row (x.row k c sv uv i key au nn cE err))::.sl sv 1 L::([.obj p1 (.row [.fn (.func 414) [] [.ptr p2 0,.ptr p3 0]]),.obj p2 (.row [.ptr q 0]),.obj p3 (.row [.fn (.func 300) [] [.ptr vx 0,.ptr vh 0]])]++(ad m bl y rest++(.obj vx (.row [.ptr q 0])::.obj vh (.row [I high])::R)))) ro):
  aG EM (.fn (.func 377) [] [.ptr p1 0]) [.ptr m 0] S λu S'=>∃ab,oA x k c q sv uv L i key au nn cE err (λ_ _=>False) (Sj (λ_=>true) 0 ((),y.ld (x.own+c)) (ad m bl · rest) (.obj vx (.row [.ptr q 0])::.obj vh (.row [I high])::R) (Sn x (y.word (x.own+c)) c high q L uv key au nn err)) u ab/\Cx B0 W S' ab ro:=by
 have hw:=Me.aj hy (x.own+c);unfold Me.ar at hw;haveI:aU:=⟨⟩;haveI:dH:=⟨⟩;have e1:x.j.f.size%18446744073709551616=x.j.f.size:=am;refine Vx.fm H q_ ?_;(repeat' first|constructor|exact ZQ|intro _);all_goals apply zL
 all_goals first
  |(simp only[List.length_append,List.length_map,List.length_cons,List.length_nil];omega)
  |(exfalso;omega)
  |skip
 .have hr:x.rd (y.word (x.own+c))=-1:=if_pos am;have h0:x.rd (y.word (x.own+c))<0:=by rw[hr];omega
  simp only[List.map,lC,lA,lB];exact lD rfl rfl (.s ci ci ci) (Or.inl ⟨h0,_,.mk .mk .mk .mk,Qe.rfl (a:=())⟩) (by simp only[dI,lA,lB];exact HQ)
 .have hr:x.rd (y.word (x.own+c))=-1:=if_pos am;have h0:x.rd (y.word (x.own+c))<0:=by rw[hr];omega
  simp only[List.map,lC,lA,lB];exact lD rfl rfl (.s ci ci ci) (Or.inl ⟨h0,_,.mk .mk .mk .mk,Qe.rfl (a:=())⟩) (by simp only[dI,lA,lB];exact HQ)
 .have hr:x.rd (y.word (x.own+c))=y.word (x.own+c)-1:=if_neg am;have h0:0<=x.rd (y.word (x.own+c)):=by rw[hr];omega
  simp only[List.map,lC,lA,lB];rw[<-hr];exact Nz (by simp only[dI,lA,lB];exact HQ) rfl rfl (.s ci ci ci) (Or.inr ⟨h0,⟨ci,ci,ci⟩,_,_,_,_,_,.mk .mk .mk .mk,.mk .mk .mk .mk .mk .mk .mk,rfl,Qe.rfl (a:=())⟩)
end
end Go.cO
