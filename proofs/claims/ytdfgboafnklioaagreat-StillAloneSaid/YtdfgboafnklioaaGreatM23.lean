/- Contracts of functions, over the abstract machine. Conditions: stated in each theorem. -/
import Derived.Test.YtdfgboafnklioaaGreatM22
set_option linter.all false
set_option maxRecDepth 100000
set_option maxHeartbeats 4000000
namespace Go.cY
open Go.Proofs
section
instance z71 {n:Nat}[Mn n [301,427,283,271,285,299,382,397,403]]:cF n where
inductive Gq (x:Xc)(c high:Int)(q:Nat):List (List AV)→List (List AV)→List Own→Prop
 |mk {G9 rB Ig xH Ih H6 G_ rC Ii xJ Ij PB}{s1 a1 w1 s2 a2 w2 u1 ua uw u2 vr vx:Nat}
  (ha:Gg vx q G9 G_) (ht:kO 4 3 q rB rC) (hl:zj vx q Ig Ii) (hp:zl vx high q xH xJ) (hu:kO 3 4 q Ih Ij) (ho:zi vx q H6 PB):
  Gq x c high q [[.fn (.func 377) [] [.ptr s1 0]],[.fn (.func 499) [] xH],[.fn (.func 486) [] Ig],[.fn (.func 377) [] [.ptr s2 0]],[.fn (.func 490) [] rB],[.fn (.func 496) [] G9]]
   [[.fn (.func 377) [] [.ptr u1 0]],[.fn (.func 377) [] [.ptr u2 0]],[.fn (.func 490) [] Ih],[.fn (.func 486) [] H6]]
   (.obj s1 (.row [.fn (.func 423) [] [.ptr a1 0,.ptr w1 0]])::.obj a1 (.row [I (x.own+c)])::.obj w1 (.row [U 0])::
    .obj s2 (.row [.fn (.func 423) [] [.ptr a2 0,.ptr w2 0]])::.obj a2 (.row [I (x.r.runs+c)])::.obj w2 (.row [U 18446744073709551615])::
    .obj u1 (.row [.fn (.func 423) [] [.ptr ua 0,.ptr uw 0]])::.obj ua (.row [I (x.r.flags+c)])::.obj uw (.row [U 1])::
    .obj u2 (.row [.fn (.func 426) [] [.ptr vr 0,.ptr vx 0]])::.obj vr (.row [I (x.r.runs+c)])::
    (G_++(rC++(Ii++(xJ++(Ij++(PB++[.obj vx (.row [.ptr q 0])])))))))
def PC (x:Xc)(w c high:Int)(q:Nat)(L:List (List AV))(uv:AV)(key au:Int)(nn:Bool)(err:Int):Unit→AV→List (List AV)→AV→Int→Int→Int→Bool→Int→List Own→Prop:=
 fun _ aM L' b7 i' aI aJ cJ aF ex=>(x.rd w<0∧∃P,xF q P ex∧Qe aM (L++P) uv (-1) key au nn err () aM L' b7 i' aI aJ cJ aF)∨
  (0≤x.rd w∧(ep b7=false∧b7.cells=[b7]∧AV.beq b7 b7=true)∧∃P Y U' e1 e2,xF q P e1∧Gq x c high q Y U' e2∧ex=.sl b7 1 U'::(e2++e1)∧Qe aM (L++(P++Y)) b7 (x.rd w) key au nn err () aM L' b7 i' aI aJ cJ aF)
theorem Lg {α:Type}{x:Xc}{k c i key au cn err b:Int}{q:Nat}{nn:Bool}{sv uv:AV}{L:List (List AV)}{ov:α→Bool}{st:α×Me}{mem:Me→List Own}{R own:List Own}{ro:List aQ}{vo:Int→List Own→Prop}{E:α→AV→List (List AV)→AV→Int→Int→Int→Bool→Int→List Own→Prop}{a':α}{y':Me}{aM b7:AV}{L':List (List AV)}{i' aI aJ aF:Int}{cJ:Bool}{fA ex:List Own}
 (hs:Hs own (.obj q (.row (x.row k c aM b7 i' aI aJ cJ cn aF))::(fA++(ex++(mem y'++R))))) (e:st=(a',y')) (ho:ov a'=true) (hk:AR aM L' fA) (hE:E a' aM L' b7 i' aI aJ cJ aF ex):
 mX ro (nF x k c q sv uv L i key au nn cn err vo (Pz ov b st mem R E)) .ret [B true,U b] own ro:=kp e ho hk hE hs
section
variable{B0 S:AH}{W:List Nat}{R lo:List Own}{ro:List aQ}{m bl q vx vh p1 p2 p3:Nat}{y:Me}{rest cl:List AV}{x:Xc}{k c i key au cn err high:Int}{nn:Bool}{sv uv:AV}{L:List (List AV)}
theorem vu (h1:ep sv=false)(h2:sv.cells=[sv])(h3:AV.beq sv sv=true)(hL:L.length≤64)(hy:y.gd)(hx:(0≤x.own∧x.own<100000)∧(0≤c∧c<64)∧1≤x.j.f.size∧x.j.f.size≤4096)(hr:(0≤x.r.runs∧x.r.runs<100000)∧0≤x.r.flags∧x.r.flags<100000)
  (H:Cx B0 W S (.obj q (.row (x.row k c sv uv i key au nn cn err))::.sl sv 1 L::([.obj p1 (.row [.fn (.func 414) [] [.ptr p2 0,.ptr p3 0]]),.obj p2 (.row [.ptr q 0]),.obj p3 (.row [.fn (.func 300) [] [.ptr vx 0,.ptr vh 0]])]++(ad m bl y rest++(.obj vx (.row [.ptr q 0])::.obj vh (.row [I high])::R)))) ro):
  aO EM (.fn (.func 377) [] [.ptr p1 0]) [.ptr m 0] S fun u S'=>∃ab,nF x k c q sv uv L i key au nn cn err (fun _ _=>False) (Pz (fun _=>true) 0 ((),y.ld (x.own+c)) (ad m bl · rest) (.obj vx (.row [.ptr q 0])::.obj vh (.row [I high])::R) (PC x (y.word (x.own+c)) c high q L uv key au nn err)) u ab∧Cx B0 W S' ab ro:=by
 have hw:=Me.ai hy (x.own+c)
 unfold Me.ar at hw
 haveI:aS:=⟨⟩
 haveI:di:=⟨⟩
 have e1:x.j.f.size%18446744073709551616=x.j.f.size:=by omega
 refine Vx.fm H pZ (b:=Tryz.a377) ?_;(repeat' first|constructor|exact ZQ|intro _);all_goals apply zL
 all_goals first
  |(simp only[List.length_append,List.length_map,List.length_cons,List.length_nil];omega)
  |(exfalso;omega)
  |skip
 ·have hr:x.rd (y.word (x.own+c))=-1:=if_pos (by omega)
  have h0:x.rd (y.word (x.own+c))<0:=by rw[hr];omega
  simp only[List.map,lC,lA,lB]
  exact kp rfl rfl (.s (by assumption) (by assumption) (by assumption)) (Or.inl ⟨h0,_,.mk .mk .mk .mk,Qe.rfl (a:=())⟩) (by simp only[dp,lA,lB];exact HQ)
 ·have hr:x.rd (y.word (x.own+c))=-1:=if_pos (by omega)
  have h0:x.rd (y.word (x.own+c))<0:=by rw[hr];omega
  simp only[List.map,lC,lA,lB]
  exact kp rfl rfl (.s (by assumption) (by assumption) (by assumption)) (Or.inl ⟨h0,_,.mk .mk .mk .mk,Qe.rfl (a:=())⟩) (by simp only[dp,lA,lB];exact HQ)
 ·have hr:x.rd (y.word (x.own+c))=y.word (x.own+c)-1:=if_neg (by omega)
  have h0:0≤x.rd (y.word (x.own+c)):=by rw[hr];omega
  simp only[List.map,lC,lA,lB]
  rw[←hr]
  exact Lg (by simp only[dp,lA,lB];exact HQ) rfl rfl (.s (by assumption) (by assumption) (by assumption)) (Or.inr ⟨h0,⟨by assumption,by assumption,by assumption⟩,_,_,_,_,_,.mk .mk .mk .mk,.mk .mk .mk .mk .mk .mk .mk,rfl,Qe.rfl (a:=())⟩)
end
end
end Go.cY
