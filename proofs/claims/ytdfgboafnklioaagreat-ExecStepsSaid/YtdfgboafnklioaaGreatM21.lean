/- Contracts. Conditions: in each theorem. -/
import Derived.Test.YtdfgboafnklioaaGreatM20
set_option linter.all false
set_option maxRecDepth 100000
set_option maxHeartbeats 4000000
namespace Go.cG
open Go.Proofs
def Qn (uv:AV)(i key aw:Int)(nn:Bool)(e:Int):AV->List (List AV)->AV->Int->Int->Int->Bool->Int->Prop:=
 λaT L' cq i' aQ aR da aP=>aT=Ns/\L'=[]/\cq=uv/\i'=i/\aQ=key/\aR=aw/\da=nn/\aP=e
theorem Qn.rfl {uv}{i key aw:Int}{nn:Bool}{e:Int}:Qn uv i key aw nn e Ns [] uv i key aw nn e:=⟨Eq.refl _,Eq.refl _,Eq.refl _,Eq.refl _,Eq.refl _,Eq.refl _,Eq.refl _,Eq.refl _⟩
instance z62:cK 259 where
theorem oc.eN {a e n:Int}{q:Nat}{σ lo}(h:oc a e n q σ lo)(ho:σ.over=true):∃w er,σ=.d er/\lo=[.obj q (.row [B true,I a,U e,U n,U w,Nf,I er])]:=by
 cases h<;>first|(cases ho;done)|exact⟨_,_,rfl,rfl⟩
def Sw (sv:AV)(L:List (List AV))(uv:AV)(i key aw:Int)(nn:Bool)(err:Int):ig->AV->List (List AV)->AV->Int->Int->Int->Bool->Int->Prop
 |.d e=>λaT L' cq i' aQ aR da aP=>(e=0/\Qe sv L uv i key aw nn err (ig.d e) aT L' cq i' aQ aR da aP)\/(e≠0/\Qn uv i key aw nn e aT L' cq i' aQ aR da aP)
 |_=>λ_ _ _ _ _ _ _ _=>False
instance YD:nj EM 349 "Step" 687:=⟨λ_=>by kernel_rfl⟩
instance YE:w5 EM 439 349:=⟨λ_=>by kernel_rfl⟩
instance z63 {n:Nat}[Mn n [255,257,258]]:cK n where
inductive Ia (vx vn vt vw:Nat)(q:Nat):List AV->List Own->Prop
 |mk {b1 b2 b3 b4:Nat}:Ia vx vn vt vw q [.ptr b1 0,.ptr b2 0,.ptr b3 0,.ptr b4 0] (dT b1 b2 b3 b4 (.fn (.func 255) [] [.ptr vx 0,.ptr vn 0,.ptr vt 0,.ptr vw 0]) Np (.fn (.func 257) [] [.ptr vx 0]) false++[])
inductive xR (x:Xc)(vx vn vt vw:Nat)(n ev now:Int)(q:Nat)(cl:List AV):ig->List Own->Prop
 |f {lo}(h:Ia vx vn vt vw q cl lo):xR x vx vn vt vw n ev now q cl .a lo
 |r {b1 b2 b3 b4 qm:Nat}{mk σ lm}(dY:cl=[.ptr b1 0,.ptr b2 0,.ptr b3 0,.ptr b4 0])(h:oc (x.ct+n) ev now qm σ lm)(ho:σ.over=false):xR x vx vn vt vw n ev now q cl σ (dT b1 b2 b3 b4 mk (.ptr qm 0) (.fn (.func 257) [] [.ptr vx 0]) true++([]++lm))
section
variable{B0 S:AH}{W:List Nat}{R lo:List Own}{ro:List aI}{m bl q vx:Nat}{y:Me}{rest cl:List AV}{x:Xc}{k c i key aw cE err:Int}{nn:Bool}{sv uv:AV}{L:List (List AV)}{vn vt vw:Nat}{n ev now t0 pr t3:Int}
theorem Ib {σ}(h1:odd sv=false)(h2:sv.cells=[sv])(h3:AV.beq sv sv=true)(hs:(0<=x.ct/\x.ct<100000)/\(0<=n/\n<x.many/\x.many<100000)/\(0<=ev/\ev<=1099511627776)/\0<=now/\now<=1099511627776)(hy:y.gd)(h:xR x vx vn vt vw n ev now q cl σ lo)
  (H:Cx B0 W S (.obj q (.row (x.row k c sv uv i key aw nn cE err))::.sl sv 1 L::(lo++(ae m bl y rest++(.obj vx (.row [.ptr q 0])::.obj vn (.row [I n])::.obj vt (.row [I t0,I pr,I ev,I t3])::.obj vw (.row [I now])::R)))) ro):
  aN EM (.fn (.func 368) [] cl) [.ptr m 0] S λu S'=>∃ab,oP x k c q sv uv L i key aw nn cE err (zx (xR x vx vn vt vw n ev now q cl) ig.over 0 (σ.step (x.ct+n) ev now y) (ae m bl · rest) (.obj vx (.row [.ptr q 0])::.obj vn (.row [I n])::.obj vt (.row [I t0,I pr,I ev,I t3])::.obj vw (.row [I now])::R)) (uh ig.over 0 (σ.step (x.ct+n) ev now y) (ae m bl · rest) (.obj vx (.row [.ptr q 0])::.obj vn (.row [I n])::.obj vt (.row [I t0,I pr,I ev,I t3])::.obj vw (.row [I now])::R) (Sw sv L uv i key aw nn err)) u ab/\Cx B0 W S' ab ro:=by
 cases h with
 |f h=>
  cases h with
  |@mk b1 b2 b3 b4=>
   refine y1 H oQ ?_;intros;next qm lm hm=>
   refine Vx.bQ (own:=.obj q _::.sl sv 1 _::.obj b1 _::.obj b2 _::.obj b3 _::.obj b4 _::(lm++(ae m bl y rest++(.obj vx (.row [.ptr q 0])::.obj vn (.row [I n])::.obj vt (.row [I t0,I pr,I ev,I t3])::.obj vw (.row [I now])::R)))) HQ ?_;refine Vx.cz (A:=[_,_,_,_,_,_]) (λB W S H=>AJ hs.2.2 hy hm H) λa' x' l' e hl=>?_;cases ho:a'.over
   .skip
    refine z1 ?_;exact bV e (.r rfl hl ho) ho HQ
   .obtain⟨w,er,rfl,rfl⟩:=hl.eN ho;refine z2 ?_ ?_<;>intros
    all_goals first
     |exact aJ e rfl (.s h1 h2 h3) (Or.inl ⟨am,Qe.rfl⟩) HQ
     |exact aJ e rfl .n (Or.inr ⟨am,Qn.rfl⟩) HQ
 |@r b1 b2 b3 b4 qm mk σ lm dY h ho=>
  subst dY;refine y1 H oQ ?_;refine Vx.cz (A:=[_,_,_,_,_,_]) (λB W S H=>AJ hs.2.2 hy h H) λa' x' l' e hl=>?_;cases ho:a'.over
  .skip
   refine z1 ?_;exact bV e (.r rfl hl ho) ho HQ
  .obtain⟨w,er,rfl,rfl⟩:=hl.eN ho;refine z2 ?_ ?_<;>intros
   all_goals first
    |exact aJ e rfl (.s h1 h2 h3) (Or.inl ⟨am,Qe.rfl⟩) HQ
    |exact aJ e rfl .n (Or.inr ⟨am,Qn.rfl⟩) HQ
end
def Qf (U:List (List AV))(uv:AV)(i key aw:Int)(nn:Bool)(e:Int):AV->List (List AV)->AV->Int->Int->Int->Bool->Int->Prop:=
 λaT L' cq i' aQ aR da aP=>L'=U/\cq=uv/\i'=i/\aQ=key/\aR=aw/\da=nn/\aP=e
theorem Qf.rfl {U sv uv}{i key aw:Int}{nn:Bool}{e:Int}:Qf U uv i key aw nn e sv U uv i key aw nn e:=⟨Eq.refl _,Eq.refl _,Eq.refl _,Eq.refl _,Eq.refl _,Eq.refl _,Eq.refl _⟩
instance z64:cK 269 where
theorem pg.eN {r}{v:Int}{q:Nat}{σ lo}(h:pg r v q σ lo)(ho:σ.over=true):∃er,σ=.d er/\lo=[.obj q (.row [B true,Np,I er])]:=by
 cases h with
 |s h LQ=>rw[LQ] at ho;cases ho
 |d=>exact⟨_,rfl,rfl⟩
def Sx (U:List (List AV))(sv:AV)(L:List (List AV))(uv:AV)(i key aw:Int)(nn:Bool)(err:Int):dZ->AV->List (List AV)->AV->Int->Int->Int->Bool->Int->Prop
 |.d e=>λaT L' cq i' aQ aR da aP=>(e=0/\Qe sv L uv i key aw nn err (dZ.d e) aT L' cq i' aQ aR da aP)\/(e≠0/\Qf U uv i key aw nn e aT L' cq i' aQ aR da aP)
 |_=>λ_ _ _ _ _ _ _ _=>False
instance YF:nj EM 363 "Step" 692:=⟨λ_=>by kernel_rfl⟩
instance YG:w5 EM 439 363:=⟨λ_=>by kernel_rfl⟩
instance z65 {n:Nat}[Mn n [274,277,278,276]]:cK n where
inductive DO (vx vn:Nat)(q:Nat):List AV->List Own->Prop
 |mk {b1 b2 b3 b4:Nat}:DO vx vn q [.ptr b1 0,.ptr b2 0,.ptr b3 0,.ptr b4 0] (dT b1 b2 b3 b4 (.fn (.func 274) [] [.ptr vx 0,.ptr vn 0]) Np (.fn (.func 277) [] [.ptr vx 0]) false++[])
inductive xS (x:Xc)(vx vn:Nat)(n i:Int)(q:Nat)(cl:List AV):dZ->List Own->Prop
 |f {lo}(hi:0<=i/\i<65536)(h:DO vx vn q cl lo):xS x vx vn n i q cl .a lo
 |r {b1 b2 b3 b4 qm:Nat}{mk σ lm}(dY:cl=[.ptr b1 0,.ptr b2 0,.ptr b3 0,.ptr b4 0])(h:pg (x.ring (n%x.aq)) i qm σ lm)(ho:σ.over=false):xS x vx vn n i q cl σ (dT b1 b2 b3 b4 mk (.ptr qm 0) (.fn (.func 277) [] [.ptr vx 0]) true++([]++lm))
section
variable{B0 S:AH}{W:List Nat}{R lo:List Own}{ro:List aI}{m bl q vx:Nat}{y:Me}{rest cl:List AV}{x:Xc}{k c i key aw cE err:Int}{nn:Bool}{sv uv:AV}{L:List (List AV)}{vn:Nat}{n:Int}{U:List (List AV)}
theorem Ic {σ}(h1:odd sv=false)(h2:sv.cells=[sv])(h3:AV.beq sv sv=true)(hU:U.length<=64)(hn:0<=n)(hs:((0<=x.iZ/\x.iZ<4096)/\(1<=x.aq/\x.aq<=64)/\1<=x.room/\x.room<=16))(hr:(x.ring (n%x.aq)).ok)(hy:y.gd)(h:xS x vx vn n i q cl σ lo)
  (H:Cx B0 W S (.obj q (.row (x.row k c sv uv i key aw nn cE err))::.sl sv 1 L::(lo++(ae m bl y rest++(.sl uv 1 U::.obj vx (.row [.ptr q 0])::.obj vn (.row [I n])::R)))) ro):
  aN EM (.fn (.func 385) [] cl) [.ptr m 0] S λu S'=>∃ab,oP x k c q sv uv L i key aw nn cE err (zx (xS x vx vn n i q cl) dZ.over 0 (σ.step (x.ring (n%x.aq)) i y) (ae m bl · rest) (.sl uv 1 U::.obj vx (.row [.ptr q 0])::.obj vn (.row [I n])::R)) (uh dZ.over 0 (σ.step (x.ring (n%x.aq)) i y) (ae m bl · rest) (.sl uv 1 U::.obj vx (.row [.ptr q 0])::.obj vn (.row [I n])::R) (Sx U sv L uv i key aw nn err)) u ab/\Cx B0 W S' ab ro:=by
 have JT:0<=n%x.aq:=Int.emod_nonneg _ am;have FH:n%x.aq<x.aq:=Int.emod_lt_of_pos _ am;cases h with
 |f hi h=>
  cases h with
  |@mk b1 b2 b3 b4=>
   refine y1 H oQ ?_;intros;next qm lm hm=>
   refine Vx.bQ (own:=.obj q _::.sl sv 1 _::.obj b1 _::.obj b2 _::.obj b3 _::.obj b4 _::(lm++(ae m bl y rest++(.sl uv 1 U::.obj vx (.row [.ptr q 0])::.obj vn (.row [I n])::R)))) HQ ?_;refine Vx.cz (A:=[_,_,_,_,_,_]) (λB W S H=>AU hr hy (by first|assumption|rfl) hm H) λa' x' l' e hl=>?_;cases ho:a'.over
   .skip
    refine z1 ?_;exact bV e (.r rfl hl ho) ho HQ
   .obtain⟨er,rfl,rfl⟩:=hl.eN ho;refine z2 ?_ ?_<;>intros
    all_goals first
     |exact aJ e rfl (.s h1 h2 h3) (Or.inl ⟨am,Qe.rfl⟩) HQ
     |exact aJ e rfl (.s be be be) (Or.inr ⟨am,Qf.rfl⟩) HQ
 |@r b1 b2 b3 b4 qm mk σ lm dY h ho=>
  subst dY;refine y1 H oQ ?_;refine Vx.cz (A:=[_,_,_,_,_,_]) (λB W S H=>AU hr hy (by first|assumption|rfl) h H) λa' x' l' e hl=>?_;cases ho:a'.over
  .skip
   refine z1 ?_;exact bV e (.r rfl hl ho) ho HQ
  .obtain⟨er,rfl,rfl⟩:=hl.eN ho;refine z2 ?_ ?_<;>intros
   all_goals first
    |exact aJ e rfl (.s h1 h2 h3) (Or.inl ⟨am,Qe.rfl⟩) HQ
    |exact aJ e rfl (.s be be be) (Or.inr ⟨am,Qf.rfl⟩) HQ
end
theorem j_.eN {r}{q:Nat}{σ lo}(h:j_ r q σ lo)(ho:σ.over=true):∃h v e,σ=.d h v e/\Me.aC h/\(0<=v/\v<65536)/\lo=[.obj q (.row [I r.head,I r.tail,I r.fg,I r.size,Nf,B true,I e,U h,I v])]:=by
 cases h<;>first|(cases ho;done)|exact⟨_,_,_,rfl,be,be,rfl⟩
def N5 (size:Int)(sv:AV)(L:List (List AV))(uv:AV)(key:Int)(nn:Bool)(err:Int):eS->AV->List (List AV)->AV->Int->Int->Int->Bool->Int->Prop
 |.d h v e=>λaT L' cq i' aQ aR da aP=>(e=0/\v<size/\Qe sv L uv v key h nn err (eS.d h v e) aT L' cq i' aQ aR da aP)\/(e=0/\size<=v/\Qn uv v key h nn 5 aT L' cq i' aQ aR da aP)\/(e≠0/\Qn uv v key h nn 15 aT L' cq i' aQ aR da aP)
 |_=>λ_ _ _ _ _ _ _ _=>False
instance VH:nj EM 476 "Step" 703:=⟨λ_=>by kernel_rfl⟩
instance VI:w5 EM 439 476:=⟨λ_=>by kernel_rfl⟩
instance z66:cK 392 where
instance z67:cK 394 where
inductive Cr (r:Rn)(q:Nat):List AV->List Own->Prop
 |mk {b1 b2 b3 b4 v1 v2:Nat}:Cr r q [.ptr b1 0,.ptr b2 0,.ptr b3 0,.ptr b4 0] (dT b1 b2 b3 b4 (.fn (.func 392) [] [.ptr v2 0]) Np (.fn (.func 394) [] [.ptr v1 0]) false++[.obj v1 (.row [.ptr q 0]),.obj v2 (.row [I r.head,I r.tail,I r.fg,I r.size])])
inductive mL (x:Xc)(r:Rn)(q:Nat)(cl:List AV):eS->List Own->Prop
 |f {lo}(h:Cr r q cl lo):mL x r q cl .a lo
 |r {b1 b2 b3 b4 qm v1 v2:Nat}{mk σ lm}(dY:cl=[.ptr b1 0,.ptr b2 0,.ptr b3 0,.ptr b4 0])(h:j_ r qm σ lm)(ho:σ.over=false):mL x r q cl σ (dT b1 b2 b3 b4 mk (.ptr qm 0) (.fn (.func 394) [] [.ptr v1 0]) true++([.obj v1 (.row [.ptr q 0]),.obj v2 (.row [I r.head,I r.tail,I r.fg,I r.size])]++lm))
section
variable{B0 S:AH}{W:List Nat}{R lo:List Own}{ro:List aI}{m bl q vx:Nat}{y:Me}{rest cl:List AV}{x:Xc}{k c i key aw cE err:Int}{nn:Bool}{sv uv:AV}{L:List (List AV)}
theorem E3 {σ}(h1:odd sv=false)(h2:sv.cells=[sv])(h3:AV.beq sv sv=true){r}(hr:r.ok)(hy:y.gd)(h:mL x r q cl σ lo)
  (H:Cx B0 W S (.obj q (.row (x.row k c sv uv i key aw nn cE err))::.sl sv 1 L::(lo++(ae m bl y rest++R))) ro):
  aN EM (.fn (.func 493) [] cl) [.ptr m 0] S λu S'=>∃ab,oP x k c q sv uv L i key aw nn cE err (zx (mL x r q cl) eS.over 0 (σ.step r y) (ae m bl · rest) R) (uh eS.over 0 (σ.step r y) (ae m bl · rest) R (N5 x.j.f.size sv L uv key nn err)) u ab/\Cx B0 W S' ab ro:=by
 cases h with
 |f h=>
  cases h with
  |@mk b1 b2 b3 b4 v1 v2=>
   refine y1 H oQ ?_;intros;next qm lm hm=>
   refine Vx.bQ (own:=.obj q _::.sl sv 1 _::.obj b1 _::.obj b2 _::.obj b3 _::.obj b4 _::.obj v1 _::.obj v2 _::(lm++(ae m bl y rest++R))) HQ ?_;refine Vx.cz (A:=[_,_,_,_,_,_,_,_]) (λB W S H=>xL hr hy hm H) λa' x' l' e hl=>?_;cases ho:a'.over
   .skip
    refine z1 ?_;exact bV e (.r rfl hl ho) ho HQ
   .obtain⟨hh,hv,er,rfl,hhw,hvw,rfl⟩:=hl.eN ho;refine z3 ?_ ?_ ?_<;>intros
    all_goals first
     |exact aJ e rfl (.s h1 h2 h3) (Or.inl ⟨am,am,Qe.rfl⟩) HQ
     |exact aJ e rfl .n (Or.inr (Or.inl ⟨am,am,Qn.rfl⟩)) HQ
     |exact aJ e rfl .n (Or.inr (Or.inr ⟨am,Qn.rfl⟩)) HQ
 |@r b1 b2 b3 b4 qm v1 v2 mk σ lm dY h ho=>
  subst dY;refine y1 H oQ ?_;refine Vx.cz (A:=[_,_,_,_,_,_,_,_]) (λB W S H=>xL hr hy h H) λa' x' l' e hl=>?_;cases ho:a'.over
  .skip
   refine z1 ?_;exact bV e (.r rfl hl ho) ho HQ
  .obtain⟨hh,hv,er,rfl,hhw,hvw,rfl⟩:=hl.eN ho;refine z3 ?_ ?_ ?_<;>intros
   all_goals first
    |exact aJ e rfl (.s h1 h2 h3) (Or.inl ⟨am,am,Qe.rfl⟩) HQ
    |exact aJ e rfl .n (Or.inr (Or.inl ⟨am,am,Qn.rfl⟩)) HQ
    |exact aJ e rfl .n (Or.inr (Or.inr ⟨am,Qn.rfl⟩)) HQ
end
theorem ji.eN {j}{i:Int}{q:Nat}{σ lo}(h:ji j i q σ lo)(ho:σ.over=true):∃w th,σ=.d w 0/\Me.aC w/\lo=[.obj q (.row (j.row i w Nf th 0))]:=by
 cases h with
 |a=>cases ho
 |d hw=>exact⟨_,_,rfl,hw,rfl⟩
def YH (sv:AV)(L:List (List AV))(uv:AV)(i aw:Int)(nn:Bool)(err:Int):bF->AV->List (List AV)->AV->Int->Int->Int->Bool->Int->Prop
 |.d w _=>λaT L' cq i' aQ aR da aP=>Qe sv L uv i w aw nn err () aT L' cq i' aQ aR da aP
 |_=>λ_ _ _ _ _ _ _ _=>False
instance abb:nj EM 481 "Step" 704:=⟨λ_=>by kernel_rfl⟩
instance abc:w5 EM 439 481:=⟨λ_=>by kernel_rfl⟩
instance z68:cK 398 where
instance z69:cK 400 where
inductive KF (q:Nat):List AV->List Own->Prop
 |mk {b1 b2 b3 b4 v1 v2:Nat}:KF q [.ptr b1 0,.ptr b2 0,.ptr b3 0,.ptr b4 0] (dT b1 b2 b3 b4 (.fn (.func 398) [] [.ptr v1 0]) Np (.fn (.func 400) [] [.ptr v1 0,.ptr v2 0]) false++[.obj v1 (.row [.ptr q 0]),.obj v2 (.row [Nf])])
inductive E4 (x:Xc)(i:Int)(q:Nat)(cl:List AV):bF->List Own->Prop
 |f {lo}(hi:0<=i/\i<x.j.f.size)(h:KF q cl lo):E4 x i q cl .a lo
 |r {b1 b2 b3 b4 qm v1 v2:Nat}{mk σ lm}(dY:cl=[.ptr b1 0,.ptr b2 0,.ptr b3 0,.ptr b4 0])(h:ji x.j i qm σ lm)(ho:σ.over=false):E4 x i q cl σ (dT b1 b2 b3 b4 mk (.ptr qm 0) (.fn (.func 400) [] [.ptr v1 0,.ptr v2 0]) true++([.obj v1 (.row [.ptr q 0]),.obj v2 (.row [Nf])]++lm))
section
variable{B0 S:AH}{W:List Nat}{R lo:List Own}{ro:List aI}{m bl q vx:Nat}{y:Me}{rest cl:List AV}{x:Xc}{k c i key aw cE err:Int}{nn:Bool}{sv uv:AV}{L:List (List AV)}
theorem KG {σ}(h1:odd sv=false)(h2:sv.cells=[sv])(h3:AV.beq sv sv=true)(hs:x.j.ok)(hy:y.gd)(h:E4 x i q cl σ lo)
  (H:Cx B0 W S (.obj q (.row (x.row k c sv uv i key aw nn cE err))::.sl sv 1 L::(lo++(ae m bl y rest++R))) ro):
  aN EM (.fn (.func 496) [] cl) [.ptr m 0] S λu S'=>∃ab,oP x k c q sv uv L i key aw nn cE err (zx (E4 x i q cl) bF.over 0 (σ.stepOf x.j i y) (ae m bl · rest) R) (uh bF.over 0 (σ.stepOf x.j i y) (ae m bl · rest) R (YH sv L uv i aw nn err)) u ab/\Cx B0 W S' ab ro:=by
 cases h with
 |f hi h=>
  cases h with
  |@mk b1 b2 b3 b4 v1 v2=>
   refine y1 H oQ ?_;intros;next qm lm hm=>
   refine Vx.bQ (own:=.obj q _::.sl sv 1 _::.obj b1 _::.obj b2 _::.obj b3 _::.obj b4 _::.obj v1 _::.obj v2 _::(lm++(ae m bl y rest++R))) HQ ?_;refine Vx.cz (A:=[_,_,_,_,_,_,_,_]) (λB W S H=>jE hs hy hm H) λa' x' l' e hl=>?_;cases ho:a'.over
   .skip
    refine z1 ?_;exact bV e (.r rfl hl ho) ho HQ
   .obtain⟨w,th,rfl,hw,rfl⟩:=hl.eN ho;simp only[Jb.row,lA,lB];refine z1 ?_;all_goals exact aJ e rfl (.s h1 h2 h3) (Qe.rfl (a:=())) HQ
 |@r b1 b2 b3 b4 qm v1 v2 mk σ lm dY h ho=>
  subst dY;refine y1 H oQ ?_;refine Vx.cz (A:=[_,_,_,_,_,_,_,_]) (λB W S H=>jE hs hy h H) λa' x' l' e hl=>?_;cases ho:a'.over
  .skip
   refine z1 ?_;exact bV e (.r rfl hl ho) ho HQ
  .obtain⟨w,th,rfl,hw,rfl⟩:=hl.eN ho;simp only[Jb.row,lA,lB];refine z1 ?_;all_goals exact aJ e rfl (.s h1 h2 h3) (Qe.rfl (a:=())) HQ
end
instance getKey {w:Int}:VC EM (zF 402) [U w] (Me.aC w) (.ed [.agg [I (if cb w then 0 else w/72057594037927936),I (if cb w then 0 else w/65536%1099511627776),I (if cb w then 0 else w%65536)],I (if cb w then 5 else 0)]):=.of rfl rfl λhw=>by
 show Zx EM false (Tryz.a402 _) _ _ _ _;refine z2 ?_ ?_<;>intros
 .next h=>
  have hb:cb w:=by unfold cb;omega
  simp only[if_pos hb];exact⟨trivial,rfl⟩
 .next h=>
  have hb:¬cb w:=by unfold cb;omega
  simp only[if_neg hb];exact⟨trivial,rfl⟩
def Sy (sv:AV)(L:List (List AV))(uv:AV)(i aw:Int)(nn:Bool)(err:Int):bF->AV->List (List AV)->AV->Int->Int->Int->Bool->Int->Prop
 |.d w _=>λaT L' cq i' aQ aR da aP=>(¬cb w/\Qe sv L uv i w aw nn err () aT L' cq i' aQ aR da aP)\/(cb w/\Qn uv i w aw nn 5 aT L' cq i' aQ aR da aP)
 |_=>λ_ _ _ _ _ _ _ _=>False
def Sz (sv:AV)(L:List (List AV))(uv:AV)(i aw:Int)(nn:Bool)(err:Int):bF->AV->List (List AV)->AV->Int->Int->Int->Bool->Int->Prop
 |.d w _=>λaT L' cq i' aQ aR da aP=>(¬cb w/\w%65536≠65535/\Qe sv L uv i w aw nn err () aT L' cq i' aQ aR da aP)\/(¬cb w/\w%65536=65535/\Qn uv i w aw nn 12 aT L' cq i' aQ aR da aP)\/(cb w/\Qn uv i w aw nn 5 aT L' cq i' aQ aR da aP)
 |_=>λ_ _ _ _ _ _ _ _=>False
instance z70:cK 284 where
inductive DP (vx:Nat)(q:Nat):List AV->List Own->Prop
 |mk {b1 b2 b3 b4 v1 v2:Nat}:DP vx q [.ptr b1 0,.ptr b2 0,.ptr b3 0,.ptr b4 0] (dT b1 b2 b3 b4 (.fn (.func 398) [] [.ptr v1 0]) Np (.fn (.func 400) [] [.ptr v1 0,.ptr v2 0]) false++[.obj v1 (.row [.ptr q 0]),.obj v2 (.row [.fn (.func 284) [] [.ptr vx 0]])])
inductive rB (x:Xc)(vx:Nat)(i:Int)(q:Nat)(cl:List AV):bF->List Own->Prop
 |f {lo}(hi:0<=i/\i<x.j.f.size)(h:DP vx q cl lo):rB x vx i q cl .a lo
 |r {b1 b2 b3 b4 qm v1 v2:Nat}{mk σ lm}(dY:cl=[.ptr b1 0,.ptr b2 0,.ptr b3 0,.ptr b4 0])(h:ji x.j i qm σ lm)(ho:σ.over=false):rB x vx i q cl σ (dT b1 b2 b3 b4 mk (.ptr qm 0) (.fn (.func 400) [] [.ptr v1 0,.ptr v2 0]) true++([.obj v1 (.row [.ptr q 0]),.obj v2 (.row [.fn (.func 284) [] [.ptr vx 0]])]++lm))
section
variable{B0 S:AH}{W:List Nat}{R lo:List Own}{ro:List aI}{m bl q vx:Nat}{y:Me}{rest cl:List AV}{x:Xc}{k c i key aw cE err:Int}{nn:Bool}{sv uv:AV}{L:List (List AV)}
theorem Ie {σ}(h1:odd sv=false)(h2:sv.cells=[sv])(h3:AV.beq sv sv=true)(hs:x.j.ok)(hy:y.gd)(h:rB x vx i q cl σ lo)
  (H:Cx B0 W S (.obj q (.row (x.row k c sv uv i key aw nn cE err))::.sl sv 1 L::(lo++(ae m bl y rest++(.obj vx (.row [.ptr q 0])::R)))) ro):
  aN EM (.fn (.func 496) [] cl) [.ptr m 0] S λu S'=>∃ab,oP x k c q sv uv L i key aw nn cE err (zx (rB x vx i q cl) bF.over 0 (σ.stepOf x.j i y) (ae m bl · rest) (.obj vx (.row [.ptr q 0])::R)) (uh bF.over 0 (σ.stepOf x.j i y) (ae m bl · rest) (.obj vx (.row [.ptr q 0])::R) (Sy sv L uv i aw nn err)) u ab/\Cx B0 W S' ab ro:=by
 cases h with
 |f hi h=>
  cases h with
  |@mk b1 b2 b3 b4 v1 v2=>
   refine y1 H oQ ?_;intros;next qm lm hm=>
   refine Vx.bQ (own:=.obj q _::.sl sv 1 _::.obj b1 _::.obj b2 _::.obj b3 _::.obj b4 _::.obj v1 _::.obj v2 _::(lm++(ae m bl y rest++(.obj vx (.row [.ptr q 0])::R)))) HQ ?_;refine Vx.cz (A:=[_,_,_,_,_,_,_,_]) (λB W S H=>jE hs hy hm H) λa' x' l' e hl=>?_;cases ho:a'.over
   .skip
    refine z1 ?_;exact bV e (.r rfl hl ho) ho HQ
   .obtain⟨w,th,rfl,hw,rfl⟩:=hl.eN ho;simp only[Jb.row,lA,lB];refine z2 ?_ ?_<;>intros
    all_goals by_cases hb:cb w
    all_goals by_cases hc:w%65536=65535
    all_goals first
     |(exfalso;simp only[if_pos hb] at*;omega)
     |(exfalso;simp only[if_neg hb] at*;omega)
     |exact aJ e rfl (.s h1 h2 h3) (Or.inl ⟨hb,Qe.rfl (a:=())⟩) HQ
     |exact aJ e rfl .n (Or.inr ⟨hb,Qn.rfl⟩) HQ
 |@r b1 b2 b3 b4 qm v1 v2 mk σ lm dY h ho=>
  subst dY;refine y1 H oQ ?_;refine Vx.cz (A:=[_,_,_,_,_,_,_,_]) (λB W S H=>jE hs hy h H) λa' x' l' e hl=>?_;cases ho:a'.over
  .skip
   refine z1 ?_;exact bV e (.r rfl hl ho) ho HQ
  .obtain⟨w,th,rfl,hw,rfl⟩:=hl.eN ho;simp only[Jb.row,lA,lB];refine z2 ?_ ?_<;>intros
   all_goals by_cases hb:cb w
   all_goals by_cases hc:w%65536=65535
   all_goals first
    |(exfalso;simp only[if_pos hb] at*;omega)
    |(exfalso;simp only[if_neg hb] at*;omega)
    |exact aJ e rfl (.s h1 h2 h3) (Or.inl ⟨hb,Qe.rfl (a:=())⟩) HQ
    |exact aJ e rfl .n (Or.inr ⟨hb,Qn.rfl⟩) HQ
end
instance z71:cK 428 where
inductive Ig (vx:Nat)(q:Nat):List AV->List Own->Prop
 |mk {b1 b2 b3 b4 v1 v2:Nat}:Ig vx q [.ptr b1 0,.ptr b2 0,.ptr b3 0,.ptr b4 0] (dT b1 b2 b3 b4 (.fn (.func 398) [] [.ptr v1 0]) Np (.fn (.func 400) [] [.ptr v1 0,.ptr v2 0]) false++[.obj v1 (.row [.ptr q 0]),.obj v2 (.row [.fn (.func 428) [] [.ptr vx 0]])])
inductive rC (x:Xc)(vx:Nat)(i:Int)(q:Nat)(cl:List AV):bF->List Own->Prop
 |f {lo}(hi:0<=i/\i<x.j.f.size)(h:Ig vx q cl lo):rC x vx i q cl .a lo
 |r {b1 b2 b3 b4 qm v1 v2:Nat}{mk σ lm}(dY:cl=[.ptr b1 0,.ptr b2 0,.ptr b3 0,.ptr b4 0])(h:ji x.j i qm σ lm)(ho:σ.over=false):rC x vx i q cl σ (dT b1 b2 b3 b4 mk (.ptr qm 0) (.fn (.func 400) [] [.ptr v1 0,.ptr v2 0]) true++([.obj v1 (.row [.ptr q 0]),.obj v2 (.row [.fn (.func 428) [] [.ptr vx 0]])]++lm))
section
variable{B0 S:AH}{W:List Nat}{R lo:List Own}{ro:List aI}{m bl q vx:Nat}{y:Me}{rest cl:List AV}{x:Xc}{k c i key aw cE err:Int}{nn:Bool}{sv uv:AV}{L:List (List AV)}
theorem Ih {σ}(h1:odd sv=false)(h2:sv.cells=[sv])(h3:AV.beq sv sv=true)(hs:x.j.ok)(hy:y.gd)(h:rC x vx i q cl σ lo)
  (H:Cx B0 W S (.obj q (.row (x.row k c sv uv i key aw nn cE err))::.sl sv 1 L::(lo++(ae m bl y rest++(.obj vx (.row [.ptr q 0])::R)))) ro):
  aN EM (.fn (.func 496) [] cl) [.ptr m 0] S λu S'=>∃ab,oP x k c q sv uv L i key aw nn cE err (zx (rC x vx i q cl) bF.over 0 (σ.stepOf x.j i y) (ae m bl · rest) (.obj vx (.row [.ptr q 0])::R)) (uh bF.over 0 (σ.stepOf x.j i y) (ae m bl · rest) (.obj vx (.row [.ptr q 0])::R) (Sz sv L uv i aw nn err)) u ab/\Cx B0 W S' ab ro:=by
 cases h with
 |f hi h=>
  cases h with
  |@mk b1 b2 b3 b4 v1 v2=>
   refine y1 H oQ ?_;intros;next qm lm hm=>
   refine Vx.bQ (own:=.obj q _::.sl sv 1 _::.obj b1 _::.obj b2 _::.obj b3 _::.obj b4 _::.obj v1 _::.obj v2 _::(lm++(ae m bl y rest++(.obj vx (.row [.ptr q 0])::R)))) HQ ?_;refine Vx.cz (A:=[_,_,_,_,_,_,_,_]) (λB W S H=>jE hs hy hm H) λa' x' l' e hl=>?_;cases ho:a'.over
   .skip
    refine z1 ?_;exact bV e (.r rfl hl ho) ho HQ
   .obtain⟨w,th,rfl,hw,rfl⟩:=hl.eN ho;simp only[Jb.row,lA,lB];refine z3 ?_ ?_ ?_<;>intros
    all_goals by_cases hb:cb w
    all_goals by_cases hc:w%65536=65535
    all_goals first
     |(exfalso;simp only[if_pos hb] at*;omega)
     |(exfalso;simp only[if_neg hb] at*;omega)
     |exact aJ e rfl (.s h1 h2 h3) (Or.inl ⟨hb,hc,Qe.rfl (a:=())⟩) HQ
     |exact aJ e rfl .n (Or.inr (Or.inl ⟨hb,hc,Qn.rfl⟩)) HQ
     |exact aJ e rfl .n (Or.inr (Or.inr ⟨hb,Qn.rfl⟩)) HQ
 |@r b1 b2 b3 b4 qm v1 v2 mk σ lm dY h ho=>
  subst dY;refine y1 H oQ ?_;refine Vx.cz (A:=[_,_,_,_,_,_,_,_]) (λB W S H=>jE hs hy h H) λa' x' l' e hl=>?_;cases ho:a'.over
  .skip
   refine z1 ?_;exact bV e (.r rfl hl ho) ho HQ
  .obtain⟨w,th,rfl,hw,rfl⟩:=hl.eN ho;simp only[Jb.row,lA,lB];refine z3 ?_ ?_ ?_<;>intros
   all_goals by_cases hb:cb w
   all_goals by_cases hc:w%65536=65535
   all_goals first
    |(exfalso;simp only[if_pos hb] at*;omega)
    |(exfalso;simp only[if_neg hb] at*;omega)
    |exact aJ e rfl (.s h1 h2 h3) (Or.inl ⟨hb,hc,Qe.rfl (a:=())⟩) HQ
    |exact aJ e rfl .n (Or.inr (Or.inl ⟨hb,hc,Qn.rfl⟩)) HQ
    |exact aJ e rfl .n (Or.inr (Or.inr ⟨hb,Qn.rfl⟩)) HQ
end
instance z72:cK 407 where
theorem i4.xc {t}{c key ar high:Int}{q:Nat}{b:Int}{σ lo}(h:i4 t c key ar high q b σ lo):∃p vp er n ref lf,lo=.obj q (.row (t.rowP c p vp b er key ar high n ref))::lf:=by
 cases h<;>exact⟨_,_,_,_,_,_,rfl⟩
theorem i4.eN {t}{c key ar high:Int}{q:Nat}{b:Int}{σ lo}(h:i4 t c key ar high q b σ lo)(ho:σ.over=true):∃p vp er n ref,σ=.d er/\lo=[.obj q (.row (t.rowP c p vp b er key ar high n ref)),.sl vp 1 []]:=by
 cases h<;>first|(cases ho;done)|exact⟨_,_,_,_,_,rfl,rfl⟩|(exfalso;simp_all[aX.over];done)
def SA (U:List (List AV))(sv:AV)(L:List (List AV))(uv:AV)(i key aw:Int)(nn:Bool)(err:Int):aX->AV->List (List AV)->AV->Int->Int->Int->Bool->Int->Prop
 |.d e=>λaT L' cq i' aQ aR da aP=>(e=0/\Qe sv L uv i key aw nn err () aT L' cq i' aQ aR da aP)\/(e≠0/\Qf U uv i key aw nn e aT L' cq i' aQ aR da aP)
 |_=>λ_ _ _ _ _ _ _ _=>False
instance YI:nj EM 486 "Step" 706:=⟨λ_=>by kernel_rfl⟩
instance YJ:Kt EM 439 486:=⟨λ_=>by kernel_rfl⟩
instance YK:nj EM 486 "By" 705:=⟨λ_=>by kernel_rfl⟩
instance z73 {n:Nat}[Mn n [705,286,404,406]]:cK n where
inductive DR (vx:Nat)(high:Int)(q:Nat):List AV->List Own->Prop
 |mk {b1 b2 b3 b4 v1 v2 v3:Nat}:DR vx high q [.ptr b1 0,.ptr b2 0,.ptr b3 0,.ptr b4 0] (dT b1 b2 b3 b4 (.fn (.func 404) [] [.ptr v1 0,.ptr v2 0,.ptr v3 0]) Np (.fn (.func 406) [] [.ptr v1 0]) false++[.obj v1 (.row [.ptr q 0]),.obj v2 (.row [.fn (.func 286) [] [.ptr vx 0]]),.obj v3 (.row [I high])])
inductive xT (x:Xc)(c i key high:Int)(vx:Nat)(q:Nat)(cl:List AV):aX->List Own->Prop
 |f {lo}(h:DR vx high q cl lo):xT x c i key high vx q cl (.p .a 0) lo
 |r {b1 b2 b3 b4 qm v1 v2 v3:Nat}{b:Int}{mk σ lm}(dY:cl=[.ptr b1 0,.ptr b2 0,.ptr b3 0,.ptr b4 0])(h:i4 x.t c key i high qm b σ lm)(ho:σ.over=false):xT x c i key high vx q cl σ (dT b1 b2 b3 b4 mk (.ptr qm 0) (.fn (.func 406) [] [.ptr v1 0]) true++([.obj v1 (.row [.ptr q 0]),.obj v2 (.row [.fn (.func 286) [] [.ptr vx 0]]),.obj v3 (.row [I high])]++lm))
section
variable{B0 S:AH}{W:List Nat}{R lo:List Own}{ro:List aI}{m bl q vx:Nat}{y:Me}{rest cl:List AV}{x:Xc}{k c i key aw cE err:Int}{nn:Bool}{sv uv:AV}{L:List (List AV)}{high:Int}{U:List (List AV)}
theorem Ii {σ}(h1:odd sv=false)(h2:sv.cells=[sv])(h3:AV.beq sv sv=true)(hU:U.length<=64)(hs:x.t.ok)(hc:0<=c/\c<x.t.l.e.ad)(hk:0<=key/\key<18446744073709551615)(vK:(0<=i/\i<=65534)/\1<=high/\high<=x.t.ht)(hy:y.gd)(h:xT x c i key high vx q cl σ lo)
  (H:Cx B0 W S (.obj q (.row (x.row k c sv uv i key aw nn cE err))::.sl sv 1 L::(lo++(ae m bl y rest++(.sl uv 1 U::.obj vx (.row [.ptr q 0])::R)))) ro):
  aN EM (.fn (.func 499) [] cl) [.ptr m 0] S λu S'=>∃ab,oP x k c q sv uv L i key aw nn cE err (zx (xT x c i key high vx q cl) aX.over (σ.cR x.t key) (σ.step x.t c key i high y) (ae m bl · rest) (.sl uv 1 U::.obj vx (.row [.ptr q 0])::R)) (uh aX.over (σ.cR x.t key) (σ.step x.t c key i high y) (ae m bl · rest) (.sl uv 1 U::.obj vx (.row [.ptr q 0])::R) (SA U sv L uv i key aw nn err)) u ab/\Cx B0 W S' ab ro:=by
 have N4:((0<=x.t.nd/\x.t.nd<4096)/\(0<=x.t.hd/\x.t.hd<4096)/\(1<=x.t.ht/\x.t.ht<=4)/\1<=x.t.l.a.f.size/\x.t.l.a.f.size<=128)/\(0<=c/\c<x.t.l.e.ad)/\(0<=key/\key<18446744073709551615)/\(0<=i/\i<=65534)/\1<=high/\high<=x.t.ht:=by have bt:=hs;unfold Tw.ok Lb.ok Ar.ok Sk.ok at bt;exact⟨am,hc,hk,vK⟩
 cases h with
 |f h=>
  cases h with
  |@mk b1 b2 b3 b4 v1 v2 v3=>
   refine y1 H oQ ?_;intros;next qm lm hm=>
   refine Vx.bQ (own:=.obj q _::.sl sv 1 _::.obj b1 _::.obj b2 _::.obj b3 _::.obj b4 _::.obj v1 _::.obj v2 _::.obj v3 _::(lm++(ae m bl y rest++(.sl uv 1 U::.obj vx (.row [.ptr q 0])::R)))) HQ ?_;refine Vx.cz (A:=[_,_,_,_,_,_,_,_,_]) (λB W S H=>ug hs hc vK hy (by first|assumption|rfl) (by unfold Me.aC;omega) hm H) λa' x' l' e hl=>?_;cases ho:a'.over
   .obtain⟨p,vp,er,n,ref,lf,rfl⟩:=hl.xc;refine z1 ?_;exact bV e (.r rfl hl ho) ho HQ
   .obtain⟨p,vp,er,n,ref,rfl,rfl⟩:=hl.eN ho;simp only[Tw.rowP,Tw.pY,Tw.cs,Lb.cs,Ar.cs,Ep.cs,lA,lB];refine z2 ?_ ?_<;>intros
    all_goals first
     |exact aJ e rfl (.s h1 h2 h3) (Or.inl ⟨am,Qe.rfl (a:=())⟩) HQ
     |exact aJ e rfl (.s be be be) (Or.inr ⟨am,Qf.rfl⟩) HQ
 |@r b1 b2 b3 b4 qm v1 v2 v3 b mk σ lm dY h ho=>
  subst dY;refine y1 H oQ ?_;refine Vx.cz (A:=[_,_,_,_,_,_,_,_,_]) (λB W S H=>ug hs hc vK hy (by first|assumption|rfl) (by unfold Me.aC;omega) h H) λa' x' l' e hl=>?_;cases ho:a'.over
  .obtain⟨p,vp,er,n,ref,lf,rfl⟩:=hl.xc;refine z1 ?_;exact bV e (.r rfl hl ho) ho HQ
  .obtain⟨p,vp,er,n,ref,rfl,rfl⟩:=hl.eN ho;simp only[Tw.rowP,Tw.pY,Tw.cs,Lb.cs,Ar.cs,Ep.cs,lA,lB];refine z2 ?_ ?_<;>intros
   all_goals first
    |exact aJ e rfl (.s h1 h2 h3) (Or.inl ⟨am,Qe.rfl (a:=())⟩) HQ
    |exact aJ e rfl (.s be be be) (Or.inr ⟨am,Qf.rfl⟩) HQ
end
inductive A5 (vx:Nat)(high:Int)(q:Nat):List AV->List Own->Prop
 |mk {b1 b2 b3 b4 v1 v2 v3:Nat}:A5 vx high q [.ptr b1 0,.ptr b2 0,.ptr b3 0,.ptr b4 0] (dT b1 b2 b3 b4 (.fn (.func 404) [] [.ptr v1 0,.ptr v2 0,.ptr v3 0]) Np (.fn (.func 406) [] [.ptr v1 0]) false++[.obj v1 (.row [.ptr q 0]),.obj v2 (.row [.fn (.func 425) [] [.ptr vx 0]]),.obj v3 (.row [I high])])
inductive xU (x:Xc)(c i key high:Int)(vx:Nat)(q:Nat)(cl:List AV):aX->List Own->Prop
 |f {lo}(h:A5 vx high q cl lo):xU x c i key high vx q cl (.p .a 0) lo
 |r {b1 b2 b3 b4 qm v1 v2 v3:Nat}{b:Int}{mk σ lm}(dY:cl=[.ptr b1 0,.ptr b2 0,.ptr b3 0,.ptr b4 0])(h:i4 x.t c ((key+1)%18446744073709551616) i high qm b σ lm)(ho:σ.over=false):xU x c i key high vx q cl σ (dT b1 b2 b3 b4 mk (.ptr qm 0) (.fn (.func 406) [] [.ptr v1 0]) true++([.obj v1 (.row [.ptr q 0]),.obj v2 (.row [.fn (.func 425) [] [.ptr vx 0]]),.obj v3 (.row [I high])]++lm))
section
variable{B0 S:AH}{W:List Nat}{R lo:List Own}{ro:List aI}{m bl q vx:Nat}{y:Me}{rest cl:List AV}{x:Xc}{k c i key aw cE err:Int}{nn:Bool}{sv uv:AV}{L:List (List AV)}{high:Int}{U:List (List AV)}
theorem Ij {σ}(h1:odd sv=false)(h2:sv.cells=[sv])(h3:AV.beq sv sv=true)(hU:U.length<=64)(hs:x.t.ok)(hc:0<=c/\c<x.t.l.e.ad)(hk:0<=((key+1)%18446744073709551616)/\((key+1)%18446744073709551616)<18446744073709551615)(vK:(0<=i/\i<=65534)/\1<=high/\high<=x.t.ht)(hy:y.gd)(h:xU x c i key high vx q cl σ lo)
  (H:Cx B0 W S (.obj q (.row (x.row k c sv uv i key aw nn cE err))::.sl sv 1 L::(lo++(ae m bl y rest++(.sl uv 1 U::.obj vx (.row [.ptr q 0])::R)))) ro):
  aN EM (.fn (.func 499) [] cl) [.ptr m 0] S λu S'=>∃ab,oP x k c q sv uv L i key aw nn cE err (zx (xU x c i key high vx q cl) aX.over (σ.cR x.t ((key+1)%18446744073709551616)) (σ.step x.t c ((key+1)%18446744073709551616) i high y) (ae m bl · rest) (.sl uv 1 U::.obj vx (.row [.ptr q 0])::R)) (uh aX.over (σ.cR x.t ((key+1)%18446744073709551616)) (σ.step x.t c ((key+1)%18446744073709551616) i high y) (ae m bl · rest) (.sl uv 1 U::.obj vx (.row [.ptr q 0])::R) (SA U sv L uv i key aw nn err)) u ab/\Cx B0 W S' ab ro:=by
 have N4:((0<=x.t.nd/\x.t.nd<4096)/\(0<=x.t.hd/\x.t.hd<4096)/\(1<=x.t.ht/\x.t.ht<=4)/\1<=x.t.l.a.f.size/\x.t.l.a.f.size<=128)/\(0<=c/\c<x.t.l.e.ad)/\(0<=((key+1)%18446744073709551616)/\((key+1)%18446744073709551616)<18446744073709551615)/\(0<=i/\i<=65534)/\1<=high/\high<=x.t.ht:=by have bt:=hs;unfold Tw.ok Lb.ok Ar.ok Sk.ok at bt;exact⟨am,hc,hk,vK⟩
 cases h with
 |f h=>
  cases h with
  |@mk b1 b2 b3 b4 v1 v2 v3=>
   refine y1 H oQ ?_;intros;next qm lm hm=>
   refine Vx.bQ (own:=.obj q _::.sl sv 1 _::.obj b1 _::.obj b2 _::.obj b3 _::.obj b4 _::.obj v1 _::.obj v2 _::.obj v3 _::(lm++(ae m bl y rest++(.sl uv 1 U::.obj vx (.row [.ptr q 0])::R)))) HQ ?_;refine Vx.cz (A:=[_,_,_,_,_,_,_,_,_]) (λB W S H=>ug hs hc vK hy (by first|assumption|rfl) (by unfold Me.aC;omega) hm H) λa' x' l' e hl=>?_;cases ho:a'.over
   .obtain⟨p,vp,er,n,ref,lf,rfl⟩:=hl.xc;refine z1 ?_;exact bV e (.r rfl hl ho) ho HQ
   .obtain⟨p,vp,er,n,ref,rfl,rfl⟩:=hl.eN ho;simp only[Tw.rowP,Tw.pY,Tw.cs,Lb.cs,Ar.cs,Ep.cs,lA,lB];refine z2 ?_ ?_<;>intros
    all_goals first
     |exact aJ e rfl (.s h1 h2 h3) (Or.inl ⟨am,Qe.rfl (a:=())⟩) HQ
     |exact aJ e rfl (.s be be be) (Or.inr ⟨am,Qf.rfl⟩) HQ
 |@r b1 b2 b3 b4 qm v1 v2 v3 b mk σ lm dY h ho=>
  subst dY;refine y1 H oQ ?_;refine Vx.cz (A:=[_,_,_,_,_,_,_,_,_]) (λB W S H=>ug hs hc vK hy (by first|assumption|rfl) (by unfold Me.aC;omega) h H) λa' x' l' e hl=>?_;cases ho:a'.over
  .obtain⟨p,vp,er,n,ref,lf,rfl⟩:=hl.xc;refine z1 ?_;exact bV e (.r rfl hl ho) ho HQ
  .obtain⟨p,vp,er,n,ref,rfl,rfl⟩:=hl.eN ho;simp only[Tw.rowP,Tw.pY,Tw.cs,Lb.cs,Ar.cs,Ep.cs,lA,lB];refine z2 ?_ ?_<;>intros
   all_goals first
    |exact aJ e rfl (.s h1 h2 h3) (Or.inl ⟨am,Qe.rfl (a:=())⟩) HQ
    |exact aJ e rfl (.s be be be) (Or.inr ⟨am,Qf.rfl⟩) HQ
end
instance z74:cK 517 where
theorem AW.xc {t}{c:Int}{q:Nat}{b:Int}{σ lo}(h:AW t c q b σ lo):∃p vp key ar e lf,lo=.obj q (.row (t.ka c p vp b 0 key ar e))::lf:=by
 cases h<;>exact⟨_,_,_,_,_,_,rfl⟩
theorem AW.eN {t}{c:Int}{q:Nat}{b:Int}{σ lo}(h:AW t c q b σ lo)(ho:σ.over=true):∃p vp key ar e,σ=.d key ar e/\lo=[.obj q (.row (t.ka c p vp b 0 key ar e)),.sl vp 1 []]:=by
 cases h<;>first|(cases ho;done)|exact⟨_,_,_,_,_,rfl,rfl⟩|(exfalso;simp_all[et.over];done)
def PkE (k size:Int)(sv:AV)(L:List (List AV))(uv:AV)(aw:Int)(nn:Bool)(err:Int):et->AV->List (List AV)->AV->Int->Int->Int->Bool->Int->Prop
 |.d key ar e=>λaT L' cq i' aQ aR da aP=>(e=0/\0<=ar/\ar<size/\Qe sv L uv ar key aw nn err () aT L' cq i' aQ aR da aP)\/(e=0/\(ar<0\/size<=ar)/\Qn uv ar key aw nn 5 aT L' cq i' aQ aR da aP)\/(e≠0/\k=4/\Qn uv ar key aw true 0 aT L' cq i' aQ aR da aP)\/(e≠0/\k≠4/\Qn uv ar key aw nn 15 aT L' cq i' aQ aR da aP)
 |_=>λ_ _ _ _ _ _ _ _=>False
instance YL:nj EM 501 "Step" 719:=⟨λ_=>by kernel_rfl⟩
instance YM:Kt EM 439 501:=⟨λ_=>by kernel_rfl⟩
instance YN:nj EM 501 "By" 718:=⟨λ_=>by kernel_rfl⟩
instance z75 {n:Nat}[Mn n [718,417,419]]:cK n where
inductive A6 (vx:Nat)(q:Nat):List AV->List Own->Prop
 |mk {b1 b2 b3 b4:Nat}:A6 vx q [.ptr b1 0,.ptr b2 0,.ptr b3 0,.ptr b4 0] (dT b1 b2 b3 b4 (.fn (.func 417) [] [.ptr vx 0]) Np (.fn (.func 419) [.ptr q 0] []) false++[])
inductive xV (x:Xc)(c:Int)(vx:Nat)(q:Nat)(cl:List AV):et->List Own->Prop
 |f {lo}(h:A6 vx q cl lo):xV x c vx q cl (.p .a) lo
 |r {b1 b2 b3 b4 qm:Nat}{b:Int}{mk σ lm}(dY:cl=[.ptr b1 0,.ptr b2 0,.ptr b3 0,.ptr b4 0])(h:AW x.t c qm b σ lm)(ho:σ.over=false):xV x c vx q cl σ (dT b1 b2 b3 b4 mk (.ptr qm 0) (.fn (.func 419) [.ptr q 0] []) true++([]++lm))
section
variable{B0 S:AH}{W:List Nat}{R lo:List Own}{ro:List aI}{m bl q vx:Nat}{y:Me}{rest cl:List AV}{x:Xc}{k c i key aw cE err:Int}{nn:Bool}{sv uv:AV}{L:List (List AV)}
theorem Ik {σ}(h1:odd sv=false)(h2:sv.cells=[sv])(h3:AV.beq sv sv=true)(hs:x.t.ok)(hc:0<=c/\c<x.t.l.e.ad)(hy:y.gd)(h:xV x c vx q cl σ lo)
  (H:Cx B0 W S (.obj q (.row (x.row k c sv uv i key aw nn cE err))::.sl sv 1 L::(lo++(ae m bl y rest++(.obj vx (.row [.ptr q 0])::R)))) ro):
  aN EM (.fn (.func 510) [] cl) [.ptr m 0] S λu S'=>∃ab,oP x k c q sv uv L i key aw nn cE err (zx (xV x c vx q cl) et.over σ.cR (σ.step x.t c false y) (ae m bl · rest) (.obj vx (.row [.ptr q 0])::R)) (uh et.over σ.cR (σ.step x.t c false y) (ae m bl · rest) (.obj vx (.row [.ptr q 0])::R) (PkE k x.j.f.size sv L uv aw nn err)) u ab/\Cx B0 W S' ab ro:=by
 have N4:((0<=x.t.nd/\x.t.nd<4096)/\(0<=x.t.hd/\x.t.hd<4096)/\(1<=x.t.ht/\x.t.ht<=4)/\1<=x.t.l.a.f.size/\x.t.l.a.f.size<=128)/\0<=c/\c<x.t.l.e.ad:=by have bt:=hs;unfold Tw.ok Lb.ok Ar.ok Sk.ok at bt;exact⟨am,hc⟩
 cases h with
 |f h=>
  cases h with
  |@mk b1 b2 b3 b4=>
   refine y1 H oQ ?_;intros;next qm lm hm=>
   refine Vx.bQ (own:=.obj q _::.sl sv 1 _::.obj b1 _::.obj b2 _::.obj b3 _::.obj b4 _::(lm++(ae m bl y rest++(.obj vx (.row [.ptr q 0])::R)))) HQ ?_;refine Vx.cz (A:=[_,_,_,_,_,_]) (λB W S H=>AX hs hc hy (by first|assumption|rfl) hm H) λa' x' l' e hl=>?_;cases ho:a'.over
   .obtain⟨p,vp,ky,ar,er,lf,rfl⟩:=hl.xc;refine z1 ?_;exact bV e (.r rfl hl ho) ho HQ
   .obtain⟨p,vp,ky,ar,er,rfl,rfl⟩:=hl.eN ho;simp only[Tw.ka,Tw.pY,Tw.cs,Lb.cs,Ar.cs,Ep.cs,lA,lB]
    (repeat' first|constructor|exact ZQ|intro _)
    all_goals apply zL
    all_goals first
     |exact aJ e rfl (.s h1 h2 h3) (Or.inl ⟨am,am,am,Qe.rfl (a:=())⟩) HQ
     |exact aJ e rfl .n (Or.inr (Or.inl ⟨am,am,Qn.rfl⟩)) HQ
     |exact aJ e rfl .n (Or.inr (Or.inr (Or.inl ⟨am,am,Qn.rfl⟩))) HQ
     |exact aJ e rfl .n (Or.inr (Or.inr (Or.inr ⟨am,am,Qn.rfl⟩))) HQ
 |@r b1 b2 b3 b4 qm b mk σ lm dY h ho=>
  subst dY;refine y1 H oQ ?_;refine Vx.cz (A:=[_,_,_,_,_,_]) (λB W S H=>AX hs hc hy (by first|assumption|rfl) h H) λa' x' l' e hl=>?_;cases ho:a'.over
  .obtain⟨p,vp,ky,ar,er,lf,rfl⟩:=hl.xc;refine z1 ?_;exact bV e (.r rfl hl ho) ho HQ
  .obtain⟨p,vp,ky,ar,er,rfl,rfl⟩:=hl.eN ho;simp only[Tw.ka,Tw.pY,Tw.cs,Lb.cs,Ar.cs,Ep.cs,lA,lB]
   (repeat' first|constructor|exact ZQ|intro _)
   all_goals apply zL
   all_goals first
    |exact aJ e rfl (.s h1 h2 h3) (Or.inl ⟨am,am,am,Qe.rfl (a:=())⟩) HQ
    |exact aJ e rfl .n (Or.inr (Or.inl ⟨am,am,Qn.rfl⟩)) HQ
    |exact aJ e rfl .n (Or.inr (Or.inr (Or.inl ⟨am,am,Qn.rfl⟩))) HQ
    |exact aJ e rfl .n (Or.inr (Or.inr (Or.inr ⟨am,am,Qn.rfl⟩))) HQ
end
end Go.cG
