/- Contracts. Conditions: in each theorem. -/
import Derived.Test.YtdfgboafnklioaaGreatM21
set_option linter.all false
set_option maxRecDepth 100000
set_option maxHeartbeats 4000000
namespace Go.cO
open Go.Proofs
instance z76 {n:Nat}[Mn n [423,420,421,426,414,303,294,297,300,267]]:cH n where
section
variable{B0 S:AH}{W:List Nat}{R lo:List Own}{ro:List aB}{m bl q vx p1 p2 p3:Nat}{y:Me}{rest cl:List AV}{x:Xc}{k c i key au cE err cb w:Int}{nn:Bool}{sv uv:AV}{L:List (List AV)}
theorem q_ {o1 own:List Own}(e:o1=own:=by conv=>lhs;simp only[Xc.row,Xc.cs,Tw.cs,Lb.cs,Ar.cs,Ep.cs,lA,lB,lC]):o1=own:=e
theorem jK (h1:odd sv=false)(h2:sv.cells=[sv])(h3:AV.beq sv sv=true)(hy:y.gd)(ha:0<=cb/\cb<1000000)(hw:Me.ar w)
  (H:Cx B0 W S (.obj q (.row (x.row k c sv uv i key au nn cE err))::.sl sv 1 L::([.obj p1 (.row [.fn (.func 423) [] [.ptr p2 0,.ptr p3 0]]),.obj p2 (.row [I cb]),.obj p3 (.row [U w])]++(ad m bl y rest++R))) ro):
  aG EM (.fn (.func 377) [] [.ptr p1 0]) [.ptr m 0] S λu S'=>∃ab,oA x k c q sv uv L i key au nn cE err (λ_ _=>False) (tR (λ_=>true) 0 ((),y.st cb w) (ad m bl · rest) R (Qe sv L uv i key au nn err)) u ab/\Cx B0 W S' ab ro:=by
 refine y1 H q_ ?_;exact aC rfl rfl (.s h1 h2 h3) (Qe.rfl (a:=())) HQ
theorem J5 (h1:odd sv=false)(h2:sv.cells=[sv])(h3:AV.beq sv sv=true)(hy:y.gd)(hi:0<=i/\i<65536)
  (H:Cx B0 W S (.obj q (.row (x.row k c sv uv i key au nn cE err))::.sl sv 1 L::([.obj p1 (.row [.fn (.func 420) [] [.ptr vx 0]])]++(ad m bl y rest++(.obj vx (.row [.ptr q 0])::R)))) ro) (hx:(0<=x.own/\x.own<100000)/\0<=c/\c<64):
  aG EM (.fn (.func 377) [] [.ptr p1 0]) [.ptr m 0] S λu S'=>∃ab,oA x k c q sv uv L i key au nn cE err (λ_ _=>False) (tR (λ_=>true) 0 ((),y.st (x.own+c) (i+1)) (ad m bl · rest) (.obj vx (.row [.ptr q 0])::R) (Qe sv L uv i key au nn err)) u ab/\Cx B0 W S' ab ro:=by
 have e1:(i+1)%18446744073709551616=i+1:=am;refine y1 H q_ ?_;rw[e1];exact aC rfl rfl (.s h1 h2 h3) (Qe.rfl (a:=())) HQ
theorem J6 (h1:odd sv=false)(h2:sv.cells=[sv])(h3:AV.beq sv sv=true)(hy:y.gd)(hx:(0<=x.r.runs/\x.r.runs<100000)/\0<=c/\c<64)
  (H:Cx B0 W S (.obj q (.row (x.row k c sv uv i key au nn cE err))::.sl sv 1 L::([.obj p1 (.row [.fn (.func 421) [] [.ptr vx 0]])]++(ad m bl y rest++(.obj vx (.row [.ptr q 0])::R)))) ro):
  aG EM (.fn (.func 377) [] [.ptr p1 0]) [.ptr m 0] S λu S'=>∃ab,oA x k c q sv uv L i key au nn cE err (λ_ _=>False) (tR (λ_=>true) 0 ((),y.st (x.r.runs+c) key) (ad m bl · rest) (.obj vx (.row [.ptr q 0])::R) (Qe sv L uv i key au nn err)) u ab/\Cx B0 W S' ab ro:=by
 refine y1 H q_ ?_;exact aC rfl rfl (.s h1 h2 h3) (Qe.rfl (a:=())) HQ
theorem J7 (h1:odd sv=false)(h2:sv.cells=[sv])(h3:AV.beq sv sv=true)(hy:y.gd)(ha:0<=cb/\cb<1000000)
  (H:Cx B0 W S (.obj q (.row (x.row k c sv uv i key au nn cE err))::.sl sv 1 L::([.obj p1 (.row [.fn (.func 426) [] [.ptr p2 0,.ptr vx 0]])]++(ad m bl y rest++(.obj vx (.row [.ptr q 0])::.obj p2 (.row [I cb])::R)))) ro):
  aG EM (.fn (.func 377) [] [.ptr p1 0]) [.ptr m 0] S λu S'=>∃ab,oA x k c q sv uv L i key au nn cE err (λ_ _=>False) (tR (λ_=>true) 0 ((),y.st cb key) (ad m bl · rest) (.obj vx (.row [.ptr q 0])::.obj p2 (.row [I cb])::R) (Qe sv L uv i key au nn err)) u ab/\Cx B0 W S' ab ro:=by
 refine y1 H q_ ?_;exact aC rfl rfl (.s h1 h2 h3) (Qe.rfl (a:=())) HQ
def Sh (w:Int)(sv:AV)(L:List (List AV))(uv:AV)(i key au:Int)(nn:Bool)(err:Int):Unit->AV->List (List AV)->AV->Int->Int->Int->Bool->Int->Prop:=
 λ_ aP L' cq i' aM aN c_ aL=>(w≠0/\Qe sv L uv i key au nn err () aP L' cq i' aM aN c_ aL)\/(w=0/\Qn uv i key au nn 15 aP L' cq i' aM aN c_ aL)
theorem HN (h1:odd sv=false)(h2:sv.cells=[sv])(h3:AV.beq sv sv=true)(hy:y.gd)(ha:0<=cb/\cb<1000000)
  (H:Cx B0 W S (.obj q (.row (x.row k c sv uv i key au nn cE err))::.sl sv 1 L::([.obj p1 (.row [.fn (.func 297) [] [.ptr p2 0,.ptr vx 0]])]++(ad m bl y rest++(.obj vx (.row [.ptr q 0])::.obj p2 (.row [I cb])::R)))) ro):
  aG EM (.fn (.func 377) [] [.ptr p1 0]) [.ptr m 0] S λu S'=>∃ab,oA x k c q sv uv L i key au nn cE err (λ_ _=>False) (tR (λ_=>true) 0 ((),y.ld cb) (ad m bl · rest) (.obj vx (.row [.ptr q 0])::.obj p2 (.row [I cb])::R) (Sh (y.word cb) sv L uv i key au nn err)) u ab/\Cx B0 W S' ab ro:=by
 refine y2 H q_ ?_ ?_<;>intros
 all_goals first
  |exact aC rfl rfl (.s h1 h2 h3) (Or.inl ⟨ci,Qe.rfl (a:=())⟩) HQ
  |exact aC rfl rfl .n (Or.inr ⟨ci,Qn.rfl⟩) HQ
def Si (x:Xc)(w:Int)(sv:AV)(L:List (List AV))(uv:AV)(key au:Int)(nn:Bool)(err:Int):Unit->AV->List (List AV)->AV->Int->Int->Int->Bool->Int->Prop:=
 λ_ aP L' cq i' aM aN c_ aL=>(0<=x.rd w/\Qe sv L uv (x.rd w) key au nn err () aP L' cq i' aM aN c_ aL)\/(x.rd w<0/\Qn uv (-1) key au nn 15 aP L' cq i' aM aN c_ aL)
theorem HO (h1:odd sv=false)(h2:sv.cells=[sv])(h3:AV.beq sv sv=true)(hy:y.gd)(hx:(0<=x.own/\x.own<100000)/\(0<=c/\c<64)/\1<=x.j.f.size/\x.j.f.size<=4096)
  (H:Cx B0 W S (.obj q (.row (x.row k c sv uv i key au nn cE err))::.sl sv 1 L::([.obj p1 (.row [.fn (.func 414) [] [.ptr p2 0,.ptr p3 0]]),.obj p2 (.row [.ptr q 0]),.obj p3 (.row [.fn (.func 303) [] [.ptr vx 0]])]++(ad m bl y rest++(.obj vx (.row [.ptr q 0])::R)))) ro):
  aG EM (.fn (.func 377) [] [.ptr p1 0]) [.ptr m 0] S λu S'=>∃ab,oA x k c q sv uv L i key au nn cE err (λ_ _=>False) (tR (λ_=>true) 0 ((),y.ld (x.own+c)) (ad m bl · rest) (.obj vx (.row [.ptr q 0])::R) (Si x (y.word (x.own+c)) sv L uv key au nn err)) u ab/\Cx B0 W S' ab ro:=by
 have hw:=Me.aj hy (x.own+c);unfold Me.ar at hw;have e1:x.j.f.size%18446744073709551616=x.j.f.size:=am;refine y3 H q_ ?_ ?_ ?_<;>intros
 .have hr:x.rd (y.word (x.own+c))=-1:=if_pos am;have h0:x.rd (y.word (x.own+c))<0:=by rw[hr];omega
  exact aC rfl rfl .n (Or.inr ⟨h0,Qn.rfl⟩) HQ
 .have hr:x.rd (y.word (x.own+c))=-1:=if_pos am;have h0:x.rd (y.word (x.own+c))<0:=by rw[hr];omega
  exact aC rfl rfl .n (Or.inr ⟨h0,Qn.rfl⟩) HQ
 .have hr:x.rd (y.word (x.own+c))=y.word (x.own+c)-1:=if_neg am;have hE:Si x (y.word (x.own+c)) sv L uv key au nn err () sv L uv (y.word (x.own+c)-1) key au nn err:=Or.inl ⟨by rw[hr];omega,by rw[hr];exact Qe.rfl (a:=())⟩;exact aC rfl rfl (.s h1 h2 h3) hE HQ
end
theorem HP {s:Int}(hs:0<=s/\s<=1099511627775):nb (nb 0 ((0:Int)%18446744073709551616*2^0%18446744073709551616)) (s%18446744073709551616*2^16%18446744073709551616)=s*65536:=by
 have e1:(0:Int)%18446744073709551616*2^0%18446744073709551616=0:=ac;have e2:s%18446744073709551616*2^16%18446744073709551616=s*2^16:=by simp only[Int.reducePow];omega
 rw[e1,e2,xa am,xa (by simp only[Int.reducePow];omega)];simp only[Int.reducePow]
theorem Nx {p s:Int}(hp:0<=p/\p<=254)(hs:0<=s/\s<=1099511627775):nb (nb (nb 0 ((0:Int)%18446744073709551616*2^0%18446744073709551616)) (s%18446744073709551616*2^16%18446744073709551616)) (p%18446744073709551616*2^56%18446744073709551616)=kJ p s:=by
 rw[HP hs];have e2:p%18446744073709551616*2^56%18446744073709551616=p*2^56:=by simp only[Int.reducePow];omega
 rw[e2,lh (i:=56) hp.1 am (by simp only[Int.reducePow];omega)];unfold kJ;simp only[Int.reducePow];omega
instance putKey {p s:Int}:VC EM (zF 270) [.agg [I p,I s,I 0]] ((0<=p/\p<=254)/\0<=s/\s<=1099511627775) (.dD [U (kJ p s),I 0]):=.of rfl rfl λ⟨h1,h2⟩=>by
 show Zx EM false (Tryz.a270 _) _ _ _ _;haveI:aU:=⟨⟩;refine z3 ?_ ?_ ?_<;>intros
 .rw[xa ac];simp only[Int.reducePow];omega
 .rw[HP h2];simp only[Int.reducePow];omega
 .rw[Nx h1 h2];exact⟨rfl,rfl⟩
def Yn (pr s:Int)(U':List (List AV))(sv:AV)(L:List (List AV))(uv:AV)(i key au:Int)(nn:Bool)(err:Int):Unit->AV->List (List AV)->AV->Int->Int->Int->Bool->Int->Prop:=
 λ_ aP L' cq i' aM aN c_ aL=>((1<=s/\s<=1099511627775)/\Qe sv L uv i (kJ pr s) au nn err () aP L' cq i' aM aN c_ aL)\/((s<1\/1099511627775<s)/\Qf U' uv i key au nn 12 aP L' cq i' aM aN c_ aL)
section
variable{B0 S:AH}{W:List Nat}{R lo:List Own}{ro:List aB}{m bl q vx vt p1 p2 p3:Nat}{y:Me}{rest cl:List AV}{x:Xc}{k c i key au cE err t0 pr ev t3:Int}{nn:Bool}{sv uv:AV}{L U':List (List AV)}
theorem addPart (h1:odd sv=false)(h2:sv.cells=[sv])(h3:AV.beq sv sv=true)(hy:y.gd)(hU:U'.length<=64)(hx:0<=x.seq/\x.seq<100000)(hp:0<=pr/\pr<=254)
  (H:Cx B0 W S (.obj q (.row (x.row k c sv uv i key au nn cE err))::.sl sv 1 L::([.obj p1 (.row [.fn (.func 267) [] [.ptr vx 0,.ptr vt 0]])]++(ad m bl y rest++(.sl uv 1 U'::.obj vx (.row [.ptr q 0])::.obj vt (.row [I t0,I pr,I ev,I t3])::R)))) ro):
  aG EM (.fn (.func 377) [] [.ptr p1 0]) [.ptr m 0] S λu S'=>∃ab,oA x k c q sv uv L i key au nn cE err (λ_ _=>False) (tR (λ_=>true) 0 ((),y.add x.seq 1) (ad m bl · rest) (.sl uv 1 U'::.obj vx (.row [.ptr q 0])::.obj vt (.row [I t0,I pr,I ev,I t3])::R) (Yn pr (y.add x.seq 1).new U' sv L uv i key au nn err)) u ab/\Cx B0 W S' ab ro:=by
 generalize hs:(y.add x.seq 1).new=s;refine y3 H q_ ?_ ?_ ?_<;>intros
 all_goals simp only[hs] at*
 .exact aC rfl rfl (.s ci ci ci) (Or.inr ⟨am,Qf.rfl⟩) HQ
 .exact aC rfl rfl (.s ci ci ci) (Or.inr ⟨am,Qf.rfl⟩) HQ
 .exact aC rfl rfl (.s h1 h2 h3) (Or.inl ⟨am,Qe.rfl (a:=())⟩) HQ
end
instance z77 {n:Nat}[Mn n [174,295,415,281,265,290,266,388,374,416,411]]:cH n where
def Sj {α:Type}(ov:α->Bool)(cM:Int)(st:α×Me)(mem:Me->List Own)(R:List Own)(E:α->AV->List (List AV)->AV->Int->Int->Int->Bool->Int->List Own->Prop):Int->AV->List (List AV)->AV->Int->Int->Int->Bool->Int->List Own->Prop:=
 λb aP L' cq i' aM aN c_ aL A=>b=cM/\ov st.1=true/\∃ex,E st.1 aP L' cq i' aM aN c_ aL ex/\A=ex++(mem st.2++R)
section
variable{α:Type}{x:Xc}{k c i key au cE err b:Int}{q:Nat}{nn:Bool}{sv uv:AV}{L:List (List AV)}{ov:α->Bool}{st:α×Me}{mem:Me->List Own}{R own:List Own}{ro:List aB}
theorem lD {wF E a' y' aP cq L'}{i' aM aN aL:Int}{c_:Bool}{fW ex}(e:st=(a',y'))(ho:ov a'=true)(hk:Ca aP L' fW)(hE:E a' aP L' cq i' aM aN c_ aL ex)
  (hs:Hs own (.obj q (.row (x.row k c aP cq i' aM aN c_ cE aL))::(fW++(ex++(mem y'++R))))):
  jy ro (oA x k c q sv uv L i key au nn cE err wF (Sj ov b st mem R E)) .ret [B true,U b] own ro:=by
 subst e;exact⟨rfl,rfl,_,.t hk ⟨rfl,ho,ex,hE,rfl⟩,hs⟩
end
inductive yI (q:Nat):List (List AV)->List Own->Prop
 |mk {yJ sM yK yL sN yM}{pr po vx:Nat}(hb:AK q yJ yL)(ht:lZ 3 4 q sM sN)(hp:AM vx q yK yM):
  yI q [[.fn (.func 506) [] yJ],[.fn (.func 377) [] [.ptr pr 0]],[.fn (.func 377) [] [.ptr po 0]],[.fn (.func 490) [] sM],[.fn (.func 510) [] yK]]
   (yL++(.obj pr (.row [.fn (.func 421) [] [.ptr vx 0]])::.obj po (.row [.fn (.func 420) [] [.ptr vx 0]])::(sN++(yM++[.obj vx (.row [.ptr q 0])]))))
def Sl (x:Xc)(w:Int)(q:Nat)(L:List (List AV))(uv:AV)(i key au:Int)(nn:Bool)(err:Int):Unit->AV->List (List AV)->AV->Int->Int->Int->Bool->Int->List Own->Prop:=
 λ_ aP L' cq i' aM aN c_ aL ex=>(0<=x.rd w/\ex=[]/\Qn uv i key au nn 11 aP L' cq i' aM aN c_ aL)\/(x.rd w<0/\∃P,yI q P ex/\Qe aP (L++P) uv i key au nn err () aP L' cq i' aM aN c_ aL)
section
variable{B0 S:AH}{W:List Nat}{R lo:List Own}{ro:List aB}{m bl q vx p1 p2 p3:Nat}{y:Me}{rest cl:List AV}{x:Xc}{k c i key au cE err cb w:Int}{nn:Bool}{sv uv:AV}{L:List (List AV)}
theorem yN (h1:odd sv=false)(h2:sv.cells=[sv])(h3:AV.beq sv sv=true)(hL:L.length<=64)(hy:y.gd)(hx:(0<=x.own/\x.own<100000)/\(0<=c/\c<64)/\1<=x.j.f.size/\x.j.f.size<=4096)
  (H:Cx B0 W S (.obj q (.row (x.row k c sv uv i key au nn cE err))::.sl sv 1 L::([.obj p1 (.row [.fn (.func 414) [] [.ptr p2 0,.ptr p3 0]]),.obj p2 (.row [.ptr q 0]),.obj p3 (.row [.fn (.func 294) [] [.ptr vx 0]])]++(ad m bl y rest++(.obj vx (.row [.ptr q 0])::R)))) ro):
  aG EM (.fn (.func 377) [] [.ptr p1 0]) [.ptr m 0] S λu S'=>∃ab,oA x k c q sv uv L i key au nn cE err (λ_ _=>False) (Sj (λ_=>true) 0 ((),y.ld (x.own+c)) (ad m bl · rest) (.obj vx (.row [.ptr q 0])::R) (Sl x (y.word (x.own+c)) q L uv i key au nn err)) u ab/\Cx B0 W S' ab ro:=by
 have hw:=Me.aj hy (x.own+c);unfold Me.ar at hw;haveI:aU:=⟨⟩;haveI:dH:=⟨⟩;have e1:x.j.f.size%18446744073709551616=x.j.f.size:=am;refine Vx.fm H q_ ?_;(repeat' first|constructor|exact ZQ|intro _);all_goals apply zL
 all_goals first
  |(simp only[List.length_append,List.length_map,List.length_cons,List.length_nil];omega)
  |skip
 .have hr:x.rd (y.word (x.own+c))=-1:=if_pos am;have h0:x.rd (y.word (x.own+c))<0:=by rw[hr];omega
  simp only[List.map,lC,lA,lB];exact lD rfl rfl (.s ci ci ci) (Or.inr ⟨h0,_,.mk .mk .mk .mk,Qe.rfl (a:=())⟩) (by simp only[dI,lA,lB,lC];exact HQ)
 .have hr:x.rd (y.word (x.own+c))=-1:=if_pos am;have h0:x.rd (y.word (x.own+c))<0:=by rw[hr];omega
  simp only[List.map,lC,lA,lB];exact lD rfl rfl (.s ci ci ci) (Or.inr ⟨h0,_,.mk .mk .mk .mk,Qe.rfl (a:=())⟩) (by simp only[dI,lA,lB,lC];exact HQ)
 .have hr:x.rd (y.word (x.own+c))=y.word (x.own+c)-1:=if_neg am;have h0:0<=x.rd (y.word (x.own+c)):=by rw[hr];omega
  exact lD rfl rfl .n (Or.inl ⟨h0,rfl,Qn.rfl⟩) HQ
end
theorem kM.eG {j}{q:Nat}{σ lo}(h:kM j q σ lo)(ho:σ.over=true):(∃i w th qp,(0<=i/\i<j.f.size)/\σ=.d i 0/\lo=[.obj q (.row (j.row i w Nf th 0++[.ptr qp 0]))])\/(∃i w th qp,σ=.d 0 7/\lo=[.obj q (.row (j.row i w Nf th 7++[.ptr qp 0]))]):=by
 cases h with
 |p=>cases ho
 |l=>cases ho
 |s=>cases ho
 |d hi=>exact .inl ⟨_,_,_,_,hi,rfl,rfl⟩
 |n=>exact .inr ⟨_,_,_,_,rfl,rfl⟩
def Yo (q:Nat)(sv:AV)(L:List (List AV))(key au:Int)(nn:Bool)(err:Int):cw->AV->List (List AV)->AV->Int->Int->Int->Bool->Int->List Own->Prop
 |.d i e=>λaP L' cq i' aM aN c_ aL ex=>(odd cq=false/\cq.cells=[cq]/\AV.beq cq cq=true)/\(∃Ny log,AE q Ny log/\ex=.sl cq 1 [[.fn (.func 481) [] Ny]]::log)/\((e=0/\Qe sv L cq i key au nn err () aP L' cq i' aM aN c_ aL)\/(e≠0/\Qn cq i key au nn e aP L' cq i' aM aN c_ aL))
 |_=>λ_ _ _ _ _ _ _ _ _=>False
instance Yp:m9 EM 354 "Step" 688:=⟨λ_=>by kernel_rfl⟩
instance Yq:wy EM 439 354:=⟨λ_=>by kernel_rfl⟩
instance z78:cH 261 where
instance z79:cH 263 where
inductive Dx (vx:Nat)(q:Nat):List AV->List Own->Prop
 |mk {b1 b2 b3 b4:Nat}:Dx vx q [.ptr b1 0,.ptr b2 0,.ptr b3 0,.ptr b4 0] (dI b1 b2 b3 b4 (.fn (.func 261) [] [.ptr vx 0]) Np (.fn (.func 263) [] [.ptr vx 0]) false++[])
inductive ra (x:Xc)(vx:Nat)(q:Nat)(cl:List AV):cw->List Own->Prop
 |f {lo}(h:Dx vx q cl lo):ra x vx q cl (.p .a) lo
 |r {b1 b2 b3 b4 qm:Nat}{mk σ lm}(dc:cl=[.ptr b1 0,.ptr b2 0,.ptr b3 0,.ptr b4 0])(h:kM x.j qm σ lm)(ho:σ.over=false):ra x vx q cl σ (dI b1 b2 b3 b4 mk (.ptr qm 0) (.fn (.func 263) [] [.ptr vx 0]) true++([]++lm))
section
variable{B0 S:AH}{W:List Nat}{R lo:List Own}{ro:List aB}{m bl q vx:Nat}{y:Me}{rest cl:List AV}{x:Xc}{k c i key au cE err:Int}{nn:Bool}{sv uv:AV}{L:List (List AV)}
theorem HR {σ}(h1:odd sv=false)(h2:sv.cells=[sv])(h3:AV.beq sv sv=true)(hs:x.j.ok)(hy:y.gd)(h:ra x vx q cl σ lo)
  (H:Cx B0 W S (.obj q (.row (x.row k c sv uv i key au nn cE err))::.sl sv 1 L::(lo++(ad m bl y rest++(.obj vx (.row [.ptr q 0])::R)))) ro):
  aG EM (.fn (.func 370) [] cl) [.ptr m 0] S λu S'=>∃ab,oA x k c q sv uv L i key au nn cE err (zd (ra x vx q cl) cw.over 0 (σ.step x.j y) (ad m bl · rest) (.obj vx (.row [.ptr q 0])::R)) (Sj cw.over 0 (σ.step x.j y) (ad m bl · rest) (.obj vx (.row [.ptr q 0])::R) (Yo q sv L key au nn err)) u ab/\Cx B0 W S' ab ro:=by
 haveI:dH:=⟨⟩;cases h with
 |f h=>
  cases h with
  |@mk b1 b2 b3 b4=>
   refine y1 H oB ?_;intros;next qm lm hm=>
   refine Vx.bB (own:=.obj q _::.sl sv 1 _::.obj b1 _::.obj b2 _::.obj b3 _::.obj b4 _::(lm++(ad m bl y rest++(.obj vx (.row [.ptr q 0])::R)))) HQ ?_;refine Vx.cC (A:=[_,_,_,_,_,_]) (λB W S H=>Au hs hy hm H) λa' x' l' e hl=>?_;cases ho:a'.over
   .skip
    refine z1 ?_;exact bX e (.r rfl hl ho) ho HQ
   .rcases hl.eG ho with⟨i1,w,th,qp,hi,rfl,rfl⟩|⟨i1,w,th,qp,rfl,rfl⟩;all_goals simp only[Jb.row,lA,lB]
    .refine z1 ?_;intros;exact lD e rfl (.s h1 h2 h3) (⟨⟨ci,ci,ci⟩,⟨_,_,.mk,rfl⟩,Or.inl ⟨rfl,Qe.rfl (a:=())⟩⟩) (by simp only[dI,lA,lB];exact HQ)
    .refine z1 ?_;intros;exact lD e rfl .n (⟨⟨ci,ci,ci⟩,⟨_,_,.mk,rfl⟩,Or.inr ⟨am,Qn.rfl⟩⟩) (by simp only[dI,lA,lB];exact HQ)
 |@r b1 b2 b3 b4 qm mk σ lm dc h ho=>
  subst dc;refine y1 H oB ?_;refine Vx.cC (A:=[_,_,_,_,_,_]) (λB W S H=>Au hs hy h H) λa' x' l' e hl=>?_;cases ho:a'.over
  .skip
   refine z1 ?_;exact bX e (.r rfl hl ho) ho HQ
  .rcases hl.eG ho with⟨i1,w,th,qp,hi,rfl,rfl⟩|⟨i1,w,th,qp,rfl,rfl⟩;all_goals simp only[Jb.row,lA,lB]
   .refine z1 ?_;intros;exact lD e rfl (.s h1 h2 h3) (⟨⟨ci,ci,ci⟩,⟨_,_,.mk,rfl⟩,Or.inl ⟨rfl,Qe.rfl (a:=())⟩⟩) (by simp only[dI,lA,lB];exact HQ)
   .refine z1 ?_;intros;exact lD e rfl .n (⟨⟨ci,ci,ci⟩,⟨_,_,.mk,rfl⟩,Or.inr ⟨am,Qn.rfl⟩⟩) (by simp only[dI,lA,lB];exact HQ)
end
end Go.cO
