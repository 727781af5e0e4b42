/- Contracts of functions, over the abstract machine. Conditions: stated in each theorem. -/
import Derived.Test.YtdfgboafnklioaaGreatM21
set_option linter.all false
set_option maxRecDepth 100000
set_option maxHeartbeats 4000000
namespace Go.cY
open Go.Proofs
section
instance z67 {n:Nat}[Mn n [423,420,421,426,414,303,294,297,300,267]]:cF n where
section
variable{B0 S:AH}{W:List Nat}{R lo:List Own}{ro:List aQ}{m bl q vx p1 p2 p3:Nat}{y:Me}{rest cl:List AV}{x:Xc}{k c i key au cn err cd w:Int}{nn:Bool}{sv uv:AV}{L:List (List AV)}
theorem pZ {o1 own:List Own}(e:o1=own:=by conv=>lhs;simp only[Xc.row,Xc.cs,Tw.cs,Lb.cs,Ar.cs,Ep.cs,lA,lB,lC]):o1=own:=e
theorem iW (h1:ep sv=false)(h2:sv.cells=[sv])(h3:AV.beq sv sv=true)(hy:y.gd)(ha:0≤cd∧cd<1000000)(hw:Me.ar w)
  (H:Cx B0 W S (.obj q (.row (x.row k c sv uv i key au nn cn err))::.sl sv 1 L::([.obj p1 (.row [.fn (.func 423) [] [.ptr p2 0,.ptr p3 0]]),.obj p2 (.row [I cd]),.obj p3 (.row [U w])]++(ad m bl y rest++R))) ro):
  aO EM (.fn (.func 377) [] [.ptr p1 0]) [.ptr m 0] S fun u S'=>∃ab,nF x k c q sv uv L i key au nn cn err (fun _ _=>False) (sC (fun _=>true) 0 ((),y.st cd w) (ad m bl · rest) R (Qe sv L uv i key au nn err)) u ab∧Cx B0 W S' ab ro:=by
 refine Vx.fm H pZ (b:=Tryz.a377) ?_;(repeat' first|constructor|exact ZQ|intro _);all_goals apply zL
 exact aB rfl rfl (.s h1 h2 h3) (Qe.rfl (a:=())) HQ
theorem Ib (h1:ep sv=false)(h2:sv.cells=[sv])(h3:AV.beq sv sv=true)(hy:y.gd)(hi:0≤i∧i<65536)
  (H:Cx B0 W S (.obj q (.row (x.row k c sv uv i key au nn cn err))::.sl sv 1 L::([.obj p1 (.row [.fn (.func 420) [] [.ptr vx 0]])]++(ad m bl y rest++(.obj vx (.row [.ptr q 0])::R)))) ro) (hx:(0≤x.own∧x.own<100000)∧0≤c∧c<64):
  aO EM (.fn (.func 377) [] [.ptr p1 0]) [.ptr m 0] S fun u S'=>∃ab,nF x k c q sv uv L i key au nn cn err (fun _ _=>False) (sC (fun _=>true) 0 ((),y.st (x.own+c) (i+1)) (ad m bl · rest) (.obj vx (.row [.ptr q 0])::R) (Qe sv L uv i key au nn err)) u ab∧Cx B0 W S' ab ro:=by
 have e1:(i+1)%18446744073709551616=i+1:=by omega
 refine Vx.fm H pZ (b:=Tryz.a377) ?_;(repeat' first|constructor|exact ZQ|intro _);all_goals apply zL
 rw[e1]
 exact aB rfl rfl (.s h1 h2 h3) (Qe.rfl (a:=())) HQ
theorem Ic (h1:ep sv=false)(h2:sv.cells=[sv])(h3:AV.beq sv sv=true)(hy:y.gd)(hx:(0≤x.r.runs∧x.r.runs<100000)∧0≤c∧c<64)
  (H:Cx B0 W S (.obj q (.row (x.row k c sv uv i key au nn cn err))::.sl sv 1 L::([.obj p1 (.row [.fn (.func 421) [] [.ptr vx 0]])]++(ad m bl y rest++(.obj vx (.row [.ptr q 0])::R)))) ro):
  aO EM (.fn (.func 377) [] [.ptr p1 0]) [.ptr m 0] S fun u S'=>∃ab,nF x k c q sv uv L i key au nn cn err (fun _ _=>False) (sC (fun _=>true) 0 ((),y.st (x.r.runs+c) key) (ad m bl · rest) (.obj vx (.row [.ptr q 0])::R) (Qe sv L uv i key au nn err)) u ab∧Cx B0 W S' ab ro:=by
 refine Vx.fm H pZ (b:=Tryz.a377) ?_;(repeat' first|constructor|exact ZQ|intro _);all_goals apply zL
 exact aB rfl rfl (.s h1 h2 h3) (Qe.rfl (a:=())) HQ
theorem Ie (h1:ep sv=false)(h2:sv.cells=[sv])(h3:AV.beq sv sv=true)(hy:y.gd)(ha:0≤cd∧cd<1000000)
  (H:Cx B0 W S (.obj q (.row (x.row k c sv uv i key au nn cn err))::.sl sv 1 L::([.obj p1 (.row [.fn (.func 426) [] [.ptr p2 0,.ptr vx 0]])]++(ad m bl y rest++(.obj vx (.row [.ptr q 0])::.obj p2 (.row [I cd])::R)))) ro):
  aO EM (.fn (.func 377) [] [.ptr p1 0]) [.ptr m 0] S fun u S'=>∃ab,nF x k c q sv uv L i key au nn cn err (fun _ _=>False) (sC (fun _=>true) 0 ((),y.st cd key) (ad m bl · rest) (.obj vx (.row [.ptr q 0])::.obj p2 (.row [I cd])::R) (Qe sv L uv i key au nn err)) u ab∧Cx B0 W S' ab ro:=by
 refine Vx.fm H pZ (b:=Tryz.a377) ?_;(repeat' first|constructor|exact ZQ|intro _);all_goals apply zL
 exact aB rfl rfl (.s h1 h2 h3) (Qe.rfl (a:=())) HQ
def Px (w:Int)(sv:AV)(L:List (List AV))(uv:AV)(i key au:Int)(nn:Bool)(err:Int):Unit→AV→List (List AV)→AV→Int→Int→Int→Bool→Int→Prop:=
 fun _ aM L' b7 i' aI aJ cJ aF=>(w≠0∧Qe sv L uv i key au nn err () aM L' b7 i' aI aJ cJ aF)∨(w=0∧Qn uv i key au nn 15 aM L' b7 i' aI aJ cJ aF)
theorem Gl (h1:ep sv=false)(h2:sv.cells=[sv])(h3:AV.beq sv sv=true)(hy:y.gd)(ha:0≤cd∧cd<1000000)
  (H:Cx B0 W S (.obj q (.row (x.row k c sv uv i key au nn cn err))::.sl sv 1 L::([.obj p1 (.row [.fn (.func 297) [] [.ptr p2 0,.ptr vx 0]])]++(ad m bl y rest++(.obj vx (.row [.ptr q 0])::.obj p2 (.row [I cd])::R)))) ro):
  aO EM (.fn (.func 377) [] [.ptr p1 0]) [.ptr m 0] S fun u S'=>∃ab,nF x k c q sv uv L i key au nn cn err (fun _ _=>False) (sC (fun _=>true) 0 ((),y.ld cd) (ad m bl · rest) (.obj vx (.row [.ptr q 0])::.obj p2 (.row [I cd])::R) (Px (y.word cd) sv L uv i key au nn err)) u ab∧Cx B0 W S' ab ro:=by
 refine Vx.fm H pZ (b:=Tryz.a377) ?_;(repeat' first|constructor|exact ZQ|intro _);all_goals apply zL
 all_goals first
  |exact aB rfl rfl (.s h1 h2 h3) (Or.inl ⟨by assumption,Qe.rfl (a:=())⟩) HQ
  |exact aB rfl rfl .n (Or.inr ⟨by assumption,Qn.rfl⟩) HQ
def Py (x:Xc)(w:Int)(sv:AV)(L:List (List AV))(uv:AV)(key au:Int)(nn:Bool)(err:Int):Unit→AV→List (List AV)→AV→Int→Int→Int→Bool→Int→Prop:=
 fun _ aM L' b7 i' aI aJ cJ aF=>(0≤x.rd w∧Qe sv L uv (x.rd w) key au nn err () aM L' b7 i' aI aJ cJ aF)∨(x.rd w<0∧Qn uv (-1) key au nn 15 aM L' b7 i' aI aJ cJ aF)
theorem Gm (h1:ep sv=false)(h2:sv.cells=[sv])(h3:AV.beq sv sv=true)(hy:y.gd)(hx:(0≤x.own∧x.own<100000)∧(0≤c∧c<64)∧1≤x.j.f.size∧x.j.f.size≤4096)
  (H:Cx B0 W S (.obj q (.row (x.row k c sv uv i key au nn cn err))::.sl sv 1 L::([.obj p1 (.row [.fn (.func 414) [] [.ptr p2 0,.ptr p3 0]]),.obj p2 (.row [.ptr q 0]),.obj p3 (.row [.fn (.func 303) [] [.ptr vx 0]])]++(ad m bl y rest++(.obj vx (.row [.ptr q 0])::R)))) ro):
  aO EM (.fn (.func 377) [] [.ptr p1 0]) [.ptr m 0] S fun u S'=>∃ab,nF x k c q sv uv L i key au nn cn err (fun _ _=>False) (sC (fun _=>true) 0 ((),y.ld (x.own+c)) (ad m bl · rest) (.obj vx (.row [.ptr q 0])::R) (Py x (y.word (x.own+c)) sv L uv key au nn err)) u ab∧Cx B0 W S' ab ro:=by
 have hw:=Me.ai hy (x.own+c)
 unfold Me.ar at hw
 have e1:x.j.f.size%18446744073709551616=x.j.f.size:=by omega
 refine Vx.fm H pZ (b:=Tryz.a377) ?_;(repeat' first|constructor|exact ZQ|intro _);all_goals apply zL
 ·have hr:x.rd (y.word (x.own+c))=-1:=if_pos (by omega)
  have h0:x.rd (y.word (x.own+c))<0:=by rw[hr];omega
  exact aB rfl rfl .n (Or.inr ⟨h0,Qn.rfl⟩) HQ
 ·have hr:x.rd (y.word (x.own+c))=-1:=if_pos (by omega)
  have h0:x.rd (y.word (x.own+c))<0:=by rw[hr];omega
  exact aB rfl rfl .n (Or.inr ⟨h0,Qn.rfl⟩) HQ
 ·have hr:x.rd (y.word (x.own+c))=y.word (x.own+c)-1:=if_neg (by omega)
  have hE:Py x (y.word (x.own+c)) sv L uv key au nn err () sv L uv (y.word (x.own+c)-1) key au nn err:=Or.inl ⟨by rw[hr];omega,by rw[hr];exact Qe.rfl (a:=())⟩
  exact aB rfl rfl (.s h1 h2 h3) hE HQ
end
end
section
theorem Gn {s:Int}(hs:0≤s∧s≤1099511627775):mj (mj 0 ((0:Int)%18446744073709551616*2^0%18446744073709551616)) (s%18446744073709551616*2^16%18446744073709551616)=s*65536:=by
 have e1:(0:Int)%18446744073709551616*2^0%18446744073709551616=0:=by simp
 have e2:s%18446744073709551616*2^16%18446744073709551616=s*2^16:=by simp only[Int.reducePow];omega
 rw[e1,e2,v9 (by omega),v9 (by simp only[Int.reducePow];omega)]
 simp only[Int.reducePow]
theorem Ld {p s:Int}(hp:0≤p∧p≤254)(hs:0≤s∧s≤1099511627775):mj (mj (mj 0 ((0:Int)%18446744073709551616*2^0%18446744073709551616)) (s%18446744073709551616*2^16%18446744073709551616)) (p%18446744073709551616*2^56%18446744073709551616)=jM p s:=by
 rw[Gn hs]
 have e2:p%18446744073709551616*2^56%18446744073709551616=p*2^56:=by simp only[Int.reducePow];omega
 rw[e2,kh (i:=56) hp.1 (by omega) (by simp only[Int.reducePow];omega)]
 unfold jM;simp only[Int.reducePow];omega
instance putKey {p s:Int}:VC EM (zF 270) [.agg [I p,I s,I 0]] ((0≤p∧p≤254)∧0≤s∧s≤1099511627775) (.cP [U (jM p s),I 0]):=.of rfl rfl fun⟨h1,h2⟩=>by
 show Zx EM false (Tryz.a270 _) _ _ _ _
 haveI:aS:=⟨⟩
 (repeat' first|constructor|exact ZQ|intro _)
 all_goals apply zL
 ·rw[v9 (by simp)];simp only[Int.reducePow];omega
 ·rw[Gn h2];simp only[Int.reducePow];omega
 ·rw[Ld h1 h2];exact⟨rfl,rfl⟩
def Vq (pr s:Int)(U':List (List AV))(sv:AV)(L:List (List AV))(uv:AV)(i key au:Int)(nn:Bool)(err:Int):Unit→AV→List (List AV)→AV→Int→Int→Int→Bool→Int→Prop:=
 fun _ aM L' b7 i' aI aJ cJ aF=>((1≤s∧s≤1099511627775)∧Qe sv L uv i (jM pr s) au nn err () aM L' b7 i' aI aJ cJ aF)∨((s<1∨1099511627775<s)∧Qf U' uv i key au nn 12 aM L' b7 i' aI aJ cJ aF)
section
variable{B0 S:AH}{W:List Nat}{R lo:List Own}{ro:List aQ}{m bl q vx vt p1 p2 p3:Nat}{y:Me}{rest cl:List AV}{x:Xc}{k c i key au cn err t0 pr ev t3:Int}{nn:Bool}{sv uv:AV}{L U':List (List AV)}
theorem addPart (h1:ep sv=false)(h2:sv.cells=[sv])(h3:AV.beq sv sv=true)(hy:y.gd)(hU:U'.length≤64)(hx:0≤x.seq∧x.seq<100000)(hp:0≤pr∧pr≤254)
  (H:Cx B0 W S (.obj q (.row (x.row k c sv uv i key au nn cn err))::.sl sv 1 L::([.obj p1 (.row [.fn (.func 267) [] [.ptr vx 0,.ptr vt 0]])]++(ad m bl y rest++(.sl uv 1 U'::.obj vx (.row [.ptr q 0])::.obj vt (.row [I t0,I pr,I ev,I t3])::R)))) ro):
  aO EM (.fn (.func 377) [] [.ptr p1 0]) [.ptr m 0] S fun u S'=>∃ab,nF x k c q sv uv L i key au nn cn err (fun _ _=>False) (sC (fun _=>true) 0 ((),y.add x.seq 1) (ad m bl · rest) (.sl uv 1 U'::.obj vx (.row [.ptr q 0])::.obj vt (.row [I t0,I pr,I ev,I t3])::R) (Vq pr (y.add x.seq 1).new U' sv L uv i key au nn err)) u ab∧Cx B0 W S' ab ro:=by
 generalize hs:(y.add x.seq 1).new=s
 refine Vx.fm H pZ (b:=Tryz.a377) ?_;(repeat' first|constructor|exact ZQ|intro _);all_goals apply zL
 all_goals simp only[hs] at*
 ·exact aB rfl rfl (.s (by assumption) (by assumption) (by assumption)) (Or.inr ⟨by omega,Qf.rfl⟩) HQ
 ·exact aB rfl rfl (.s (by assumption) (by assumption) (by assumption)) (Or.inr ⟨by omega,Qf.rfl⟩) HQ
 ·exact aB rfl rfl (.s h1 h2 h3) (Or.inl ⟨by omega,Qe.rfl (a:=())⟩) HQ
end
end
section
instance z68 {n:Nat}[Mn n [174,295,415,281,265,290,266,388,374,416,411]]:cF n where
def Pz {α:Type}(ov:α→Bool)(cz:Int)(st:α×Me)(mem:Me→List Own)(R:List Own)(E:α→AV→List (List AV)→AV→Int→Int→Int→Bool→Int→List Own→Prop):Int→AV→List (List AV)→AV→Int→Int→Int→Bool→Int→List Own→Prop:=
 fun b aM L' b7 i' aI aJ cJ aF A=>b=cz∧ov st.1=true∧∃ex,E st.1 aM L' b7 i' aI aJ cJ aF ex∧A=ex++(mem st.2++R)
section
variable{α:Type}{x:Xc}{k c i key au cn err b:Int}{q:Nat}{nn:Bool}{sv uv:AV}{L:List (List AV)}{ov:α→Bool}{st:α×Me}{mem:Me→List Own}{R own:List Own}{ro:List aQ}
theorem kp {vo E a' y' aM b7 L'}{i' aI aJ aF:Int}{cJ:Bool}{fA ex}(e:st=(a',y'))(ho:ov a'=true)(hk:AR aM L' fA)(hE:E a' aM L' b7 i' aI aJ cJ aF ex)
  (hs:Hs own (.obj q (.row (x.row k c aM b7 i' aI aJ cJ cn aF))::(fA++(ex++(mem y'++R))))):
  mX ro (nF x k c q sv uv L i key au nn cn err vo (Pz ov b st mem R E)) .ret [B true,U b] own ro:=by
 subst e
 exact⟨rfl,rfl,_,.t hk ⟨rfl,ho,ex,hE,rfl⟩,hs⟩
end
inductive xF (q:Nat):List (List AV)→List Own→Prop
 |mk {xG rB xH xI rC xJ}{pr po vx:Nat}(hb:zk q xG xI)(ht:kO 3 4 q rB rC)(hp:zm vx q xH xJ):
  xF q [[.fn (.func 506) [] xG],[.fn (.func 377) [] [.ptr pr 0]],[.fn (.func 377) [] [.ptr po 0]],[.fn (.func 490) [] rB],[.fn (.func 510) [] xH]]
   (xI++(.obj pr (.row [.fn (.func 421) [] [.ptr vx 0]])::.obj po (.row [.fn (.func 420) [] [.ptr vx 0]])::(rC++(xJ++[.obj vx (.row [.ptr q 0])]))))
def PA (x:Xc)(w:Int)(q:Nat)(L:List (List AV))(uv:AV)(i key au:Int)(nn:Bool)(err:Int):Unit→AV→List (List AV)→AV→Int→Int→Int→Bool→Int→List Own→Prop:=
 fun _ aM L' b7 i' aI aJ cJ aF ex=>(0≤x.rd w∧ex=[]∧Qn uv i key au nn 11 aM L' b7 i' aI aJ cJ aF)∨(x.rd w<0∧∃P,xF q P ex∧Qe aM (L++P) uv i key au nn err () aM L' b7 i' aI aJ cJ aF)
section
variable{B0 S:AH}{W:List Nat}{R lo:List Own}{ro:List aQ}{m bl q vx p1 p2 p3:Nat}{y:Me}{rest cl:List AV}{x:Xc}{k c i key au cn err cd w:Int}{nn:Bool}{sv uv:AV}{L:List (List AV)}
theorem xK (h1:ep sv=false)(h2:sv.cells=[sv])(h3:AV.beq sv sv=true)(hL:L.length≤64)(hy:y.gd)(hx:(0≤x.own∧x.own<100000)∧(0≤c∧c<64)∧1≤x.j.f.size∧x.j.f.size≤4096)
  (H:Cx B0 W S (.obj q (.row (x.row k c sv uv i key au nn cn err))::.sl sv 1 L::([.obj p1 (.row [.fn (.func 414) [] [.ptr p2 0,.ptr p3 0]]),.obj p2 (.row [.ptr q 0]),.obj p3 (.row [.fn (.func 294) [] [.ptr vx 0]])]++(ad m bl y rest++(.obj vx (.row [.ptr q 0])::R)))) ro):
  aO EM (.fn (.func 377) [] [.ptr p1 0]) [.ptr m 0] S fun u S'=>∃ab,nF x k c q sv uv L i key au nn cn err (fun _ _=>False) (Pz (fun _=>true) 0 ((),y.ld (x.own+c)) (ad m bl · rest) (.obj vx (.row [.ptr q 0])::R) (PA x (y.word (x.own+c)) q L uv i key au nn err)) u ab∧Cx B0 W S' ab ro:=by
 have hw:=Me.ai hy (x.own+c)
 unfold Me.ar at hw
 haveI:aS:=⟨⟩
 haveI:di:=⟨⟩
 have e1:x.j.f.size%18446744073709551616=x.j.f.size:=by omega
 refine Vx.fm H pZ (b:=Tryz.a377) ?_;(repeat' first|constructor|exact ZQ|intro _);all_goals apply zL
 all_goals first
  |(simp only[List.length_append,List.length_map,List.length_cons,List.length_nil];omega)
  |skip
 ·have hr:x.rd (y.word (x.own+c))=-1:=if_pos (by omega)
  have h0:x.rd (y.word (x.own+c))<0:=by rw[hr];omega
  simp only[List.map,lC,lA,lB]
  exact kp rfl rfl (.s (by assumption) (by assumption) (by assumption)) (Or.inr ⟨h0,_,.mk .mk .mk .mk,Qe.rfl (a:=())⟩) (by simp only[dp,lA,lB,lC];exact HQ)
 ·have hr:x.rd (y.word (x.own+c))=-1:=if_pos (by omega)
  have h0:x.rd (y.word (x.own+c))<0:=by rw[hr];omega
  simp only[List.map,lC,lA,lB]
  exact kp rfl rfl (.s (by assumption) (by assumption) (by assumption)) (Or.inr ⟨h0,_,.mk .mk .mk .mk,Qe.rfl (a:=())⟩) (by simp only[dp,lA,lB,lC];exact HQ)
 ·have hr:x.rd (y.word (x.own+c))=y.word (x.own+c)-1:=if_neg (by omega)
  have h0:0≤x.rd (y.word (x.own+c)):=by rw[hr];omega
  exact kp rfl rfl .n (Or.inl ⟨h0,rfl,Qn.rfl⟩) HQ
end
end
section
theorem jP.dY {j}{q:Nat}{σ lo}(h:jP j q σ lo)(ho:σ.over=true):(∃i w th qp,(0≤i∧i<j.f.size)∧σ=.d i 0∧lo=[.obj q (.row (j.row i w Nf th 0++[.ptr qp 0]))])∨(∃i w th qp,σ=.d 0 7∧lo=[.obj q (.row (j.row i w Nf th 7++[.ptr qp 0]))]):=by
 cases h with
 |p=>cases ho
 |l=>cases ho
 |s=>cases ho
 |d hi=>exact .inl ⟨_,_,_,_,hi,rfl,rfl⟩
 |n=>exact .inr ⟨_,_,_,_,rfl,rfl⟩
def Vr (q:Nat)(sv:AV)(L:List (List AV))(key au:Int)(nn:Bool)(err:Int):dI→AV→List (List AV)→AV→Int→Int→Int→Bool→Int→List Own→Prop
 |.d i e=>fun aM L' b7 i' aI aJ cJ aF ex=>(ep b7=false∧b7.cells=[b7]∧AV.beq b7 b7=true)∧(∃Lf log,zg q Lf log∧ex=.sl b7 1 [[.fn (.func 481) [] Lf]]::log)∧((e=0∧Qe sv L b7 i key au nn err () aM L' b7 i' aI aJ cJ aF)∨(e≠0∧Qn b7 i key au nn e aM L' b7 i' aI aJ cJ aF))
 |_=>fun _ _ _ _ _ _ _ _ _=>False
instance Vs:mi EM 354 "Step" 688:=⟨fun _=>by kernel_rfl⟩
instance Vt:va EM 439 354:=⟨fun _=>by kernel_rfl⟩
instance z69:cF 261 where
instance z70:cF 263 where
inductive Cf (vx:Nat)(q:Nat):List AV→List Own→Prop
 |mk {b1 b2 b3 b4:Nat}:Cf vx q [.ptr b1 0,.ptr b2 0,.ptr b3 0,.ptr b4 0] (dp b1 b2 b3 b4 (.fn (.func 261) [] [.ptr vx 0]) Np (.fn (.func 263) [] [.ptr vx 0]) false++[])
inductive p6 (x:Xc)(vx:Nat)(q:Nat)(cl:List AV):dI→List Own→Prop
 |f {lo}(h:Cf vx q cl lo):p6 x vx q cl (.p .a) lo
 |r {b1 b2 b3 b4 qm:Nat}{mk σ lm}(dw:cl=[.ptr b1 0,.ptr b2 0,.ptr b3 0,.ptr b4 0])(h:jP x.j qm σ lm)(ho:σ.over=false):p6 x vx q cl σ (dp b1 b2 b3 b4 mk (.ptr qm 0) (.fn (.func 263) [] [.ptr vx 0]) true++([]++lm))
section
variable{B0 S:AH}{W:List Nat}{R lo:List Own}{ro:List aQ}{m bl q vx:Nat}{y:Me}{rest cl:List AV}{x:Xc}{k c i key au cn err:Int}{nn:Bool}{sv uv:AV}{L:List (List AV)}
theorem Gp {σ}(h1:ep sv=false)(h2:sv.cells=[sv])(h3:AV.beq sv sv=true)(hs:x.j.ok)(hy:y.gd)(h:p6 x vx q cl σ lo)
  (H:Cx B0 W S (.obj q (.row (x.row k c sv uv i key au nn cn err))::.sl sv 1 L::(lo++(ad m bl y rest++(.obj vx (.row [.ptr q 0])::R)))) ro):
  aO EM (.fn (.func 370) [] cl) [.ptr m 0] S fun u S'=>∃ab,nF x k c q sv uv L i key au nn cn err (xY (p6 x vx q cl) dI.over 0 (σ.step x.j y) (ad m bl · rest) (.obj vx (.row [.ptr q 0])::R)) (Pz dI.over 0 (σ.step x.j y) (ad m bl · rest) (.obj vx (.row [.ptr q 0])::R) (Vr q sv L key au nn err)) u ab∧Cx B0 W S' ab ro:=by
 haveI:di:=⟨⟩
 cases h with
 |f h=>
  cases h with
  |@mk b1 b2 b3 b4=>
   refine Vx.fm H nG (b:=Tryz.a370) ?_;(repeat' first|constructor|exact ZQ|intro _);all_goals apply zL
   next qm lm hm=>
   refine Vx.cb (own:=.obj q _::.sl sv 1 _::.obj b1 _::.obj b2 _::.obj b3 _::.obj b4 _::(lm++(ad m bl y rest++(.obj vx (.row [.ptr q 0])::R)))) HQ ?_
   refine Vx.cf (A:=[_,_,_,_,_,_]) (fun B W S H=>y7 hs hy hm H) fun a' x' l' e hl=>?_
   cases ho:a'.over
   ·skip
    (repeat' first|constructor|exact ZQ|intro _)
    all_goals apply zL
    exact bP e (.r rfl hl ho) ho HQ
   ·rcases hl.dY ho with⟨i1,w,th,qp,hi,rfl,rfl⟩|⟨i1,w,th,qp,rfl,rfl⟩
    all_goals simp only[Jb.row,lA,lB]
    ·(repeat' first|constructor|exact ZQ|intro _)
     all_goals apply zL
     exact kp e rfl (.s h1 h2 h3) (⟨⟨by assumption,by assumption,by assumption⟩,⟨_,_,.mk,rfl⟩,Or.inl ⟨rfl,Qe.rfl (a:=())⟩⟩) (by simp only[dp,lA,lB];exact HQ)
    ·(repeat' first|constructor|exact ZQ|intro _)
     all_goals apply zL
     exact kp e rfl .n (⟨⟨by assumption,by assumption,by assumption⟩,⟨_,_,.mk,rfl⟩,Or.inr ⟨by omega,Qn.rfl⟩⟩) (by simp only[dp,lA,lB];exact HQ)
 |@r b1 b2 b3 b4 qm mk σ lm dw h ho=>
  subst dw
  refine Vx.fm H nG (b:=Tryz.a370) ?_;(repeat' first|constructor|exact ZQ|intro _);all_goals apply zL
  refine Vx.cf (A:=[_,_,_,_,_,_]) (fun B W S H=>y7 hs hy h H) fun a' x' l' e hl=>?_
  cases ho:a'.over
  ·skip
   (repeat' first|constructor|exact ZQ|intro _)
   all_goals apply zL
   exact bP e (.r rfl hl ho) ho HQ
  ·rcases hl.dY ho with⟨i1,w,th,qp,hi,rfl,rfl⟩|⟨i1,w,th,qp,rfl,rfl⟩
   all_goals simp only[Jb.row,lA,lB]
   ·(repeat' first|constructor|exact ZQ|intro _)
    all_goals apply zL
    exact kp e rfl (.s h1 h2 h3) (⟨⟨by assumption,by assumption,by assumption⟩,⟨_,_,.mk,rfl⟩,Or.inl ⟨rfl,Qe.rfl (a:=())⟩⟩) (by simp only[dp,lA,lB];exact HQ)
   ·(repeat' first|constructor|exact ZQ|intro _)
    all_goals apply zL
    exact kp e rfl .n (⟨⟨by assumption,by assumption,by assumption⟩,⟨_,_,.mk,rfl⟩,Or.inr ⟨by omega,Qn.rfl⟩⟩) (by simp only[dp,lA,lB];exact HQ)
end
end
end Go.cY
