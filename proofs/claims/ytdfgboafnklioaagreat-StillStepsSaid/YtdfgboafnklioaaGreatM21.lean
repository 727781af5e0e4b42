/- Contracts. Conditions: in each theorem. -/
import Derived.Test.YtdfgboafnklioaaGreatM20
set_option linter.all false
set_option maxRecDepth 100000
set_option maxHeartbeats 4000000
namespace Go.cI
open Go.Proofs
def Qn (uv:AV)(i key aw:Int)(nn:Bool)(e:Int):AV->List (List AV)->AV->Int->Int->Int->Bool->Int->Prop:=
 λaT L' ca i' aQ aR cT aP=>aT=Ns/\L'=[]/\ca=uv/\i'=i/\aQ=key/\aR=aw/\cT=nn/\aP=e
theorem Qn.rfl {uv}{i key aw:Int}{nn:Bool}{e:Int}:Qn uv i key aw nn e Ns [] uv i key aw nn e:=⟨Eq.refl _,Eq.refl _,Eq.refl _,Eq.refl _,Eq.refl _,Eq.refl _,Eq.refl _,Eq.refl _⟩
instance z62:cA 259 where
theorem nD.ep {a e n:Int}{q:Nat}{σ lo}(h:nD a e n q σ lo)(ho:σ.over=true):∃w er,σ=.d er/\lo=[.obj q (.row [B true,I a,U e,U n,U w,Nf,I er])]:=by
 cases h<;>first|(cases ho;done)|exact⟨_,_,rfl,rfl⟩
def R4 (sv:AV)(L:List (List AV))(uv:AV)(i key aw:Int)(nn:Bool)(err:Int):gG->AV->List (List AV)->AV->Int->Int->Int->Bool->Int->Prop
 |.d e=>λaT L' ca i' aQ aR cT aP=>(e=0/\Qe sv L uv i key aw nn err (gG.d e) aT L' ca i' aQ aR cT aP)\/(e≠0/\Qn uv i key aw nn e aT L' ca i' aQ aR cT aP)
 |_=>λ_ _ _ _ _ _ _ _=>False
instance Yp:mP EM 349 "Step" 687:=⟨λ_=>by kernel_rfl⟩
instance Yq:wN EM 439 349:=⟨λ_=>by kernel_rfl⟩
instance z63 {n:Nat}[Mn n [255,257,258]]:cA n where
inductive HH (vx vn vt vw:Nat)(q:Nat):List AV->List Own->Prop
 |mk {b1 b2 b3 b4:Nat}:HH vx vn vt vw q [.ptr b1 0,.ptr b2 0,.ptr b3 0,.ptr b4 0] (dA b1 b2 b3 b4 (.fn (.func 255) [] [.ptr vx 0,.ptr vn 0,.ptr vt 0,.ptr vw 0]) Np (.fn (.func 257) [] [.ptr vx 0]) false++[])
inductive xC (x:Xc)(vx vn vt vw:Nat)(n ev now:Int)(q:Nat)(cl:List AV):gG->List Own->Prop
 |f {lo}(h:HH vx vn vt vw q cl lo):xC x vx vn vt vw n ev now q cl .a lo
 |r {b1 b2 b3 b4 qm:Nat}{mk σ lm}(dH:cl=[.ptr b1 0,.ptr b2 0,.ptr b3 0,.ptr b4 0])(h:nD (x.b5+n) ev now qm σ lm)(ho:σ.over=false):xC x vx vn vt vw n ev now q cl σ (dA b1 b2 b3 b4 mk (.ptr qm 0) (.fn (.func 257) [] [.ptr vx 0]) true++([]++lm))
section
variable{B0 S:AH}{W:List Nat}{R lo:List Own}{ro:List aF}{m bl q vx:Nat}{y:Me}{rest cl:List AV}{x:Xc}{k c i key aw cu err:Int}{nn:Bool}{sv uv:AV}{L:List (List AV)}{vn vt vw:Nat}{n ev now t0 pr t3:Int}
theorem HI {σ}(h1:odd sv=false)(h2:sv.cells=[sv])(h3:AV.beq sv sv=true)(hs:(0<=x.b5/\x.b5<100000)/\(0<=n/\n<x.many/\x.many<100000)/\(0<=ev/\ev<=1099511627776)/\0<=now/\now<=1099511627776)(hy:y.gd)(h:xC x vx vn vt vw n ev now q cl σ lo)
  (H:Cx B0 W S (.obj q (.row (x.row k c sv uv i key aw nn cu err))::.sl sv 1 L::(lo++(ad m bl y rest++(.obj vx (.row [.ptr q 0])::.obj vn (.row [I n])::.obj vt (.row [I t0,I pr,I ev,I t3])::.obj vw (.row [I now])::R)))) ro):
  aG EM (.fn (.func 368) [] cl) [.ptr m 0] S λu S'=>∃ab,nX x k c q sv uv L i key aw nn cu err (zw (xC x vx vn vt vw n ev now q cl) gG.over 0 (σ.step (x.b5+n) ev now y) (ad m bl · rest) (.obj vx (.row [.ptr q 0])::.obj vn (.row [I n])::.obj vt (.row [I t0,I pr,I ev,I t3])::.obj vw (.row [I now])::R)) (tX gG.over 0 (σ.step (x.b5+n) ev now y) (ad m bl · rest) (.obj vx (.row [.ptr q 0])::.obj vn (.row [I n])::.obj vt (.row [I t0,I pr,I ev,I t3])::.obj vw (.row [I now])::R) (R4 sv L uv i key aw nn err)) u ab/\Cx B0 W S' ab ro:=by
 cases h with
 |f h=>
  cases h with
  |@mk b1 b2 b3 b4=>
   refine y1 H nY ?_;intros;next qm lm hm=>
   refine Vx.aO (own:=.obj q _::.sl sv 1 _::.obj b1 _::.obj b2 _::.obj b3 _::.obj b4 _::(lm++(ad m bl y rest++(.obj vx (.row [.ptr q 0])::.obj vn (.row [I n])::.obj vt (.row [I t0,I pr,I ev,I t3])::.obj vw (.row [I now])::R)))) HQ ?_;refine Vx.ck (A:=[_,_,_,_,_,_]) (λB W S H=>AL hs.2.2 hy hm H) λa' x' l' e hl=>?_;cases ho:a'.over
   .skip
    refine z1 ?_;exact bU e (.r rfl hl ho) ho HQ
   .obtain⟨w,er,rfl,rfl⟩:=hl.ep ho;refine z2 ?_ ?_<;>intros
    all_goals first
     |exact aD e rfl (.s h1 h2 h3) (Or.inl ⟨am,Qe.rfl⟩) HQ
     |exact aD e rfl .n (Or.inr ⟨am,Qn.rfl⟩) HQ
 |@r b1 b2 b3 b4 qm mk σ lm dH h ho=>
  subst dH;refine y1 H nY ?_;refine Vx.ck (A:=[_,_,_,_,_,_]) (λB W S H=>AL hs.2.2 hy h H) λa' x' l' e hl=>?_;cases ho:a'.over
  .skip
   refine z1 ?_;exact bU e (.r rfl hl ho) ho HQ
  .obtain⟨w,er,rfl,rfl⟩:=hl.ep ho;refine z2 ?_ ?_<;>intros
   all_goals first
    |exact aD e rfl (.s h1 h2 h3) (Or.inl ⟨am,Qe.rfl⟩) HQ
    |exact aD e rfl .n (Or.inr ⟨am,Qn.rfl⟩) HQ
end
def Qf (U:List (List AV))(uv:AV)(i key aw:Int)(nn:Bool)(e:Int):AV->List (List AV)->AV->Int->Int->Int->Bool->Int->Prop:=
 λaT L' ca i' aQ aR cT aP=>L'=U/\ca=uv/\i'=i/\aQ=key/\aR=aw/\cT=nn/\aP=e
theorem Qf.rfl {U sv uv}{i key aw:Int}{nn:Bool}{e:Int}:Qf U uv i key aw nn e sv U uv i key aw nn e:=⟨Eq.refl _,Eq.refl _,Eq.refl _,Eq.refl _,Eq.refl _,Eq.refl _,Eq.refl _⟩
instance z64:cA 269 where
theorem oG.ep {r}{v:Int}{q:Nat}{σ lo}(h:oG r v q σ lo)(ho:σ.over=true):∃er,σ=.d er/\lo=[.obj q (.row [B true,Np,I er])]:=by
 cases h with
 |s h Lq=>rw[Lq] at ho;cases ho
 |d=>exact⟨_,rfl,rfl⟩
def R5 (U:List (List AV))(sv:AV)(L:List (List AV))(uv:AV)(i key aw:Int)(nn:Bool)(err:Int):dy->AV->List (List AV)->AV->Int->Int->Int->Bool->Int->Prop
 |.d e=>λaT L' ca i' aQ aR cT aP=>(e=0/\Qe sv L uv i key aw nn err (dy.d e) aT L' ca i' aQ aR cT aP)\/(e≠0/\Qf U uv i key aw nn e aT L' ca i' aQ aR cT aP)
 |_=>λ_ _ _ _ _ _ _ _=>False
instance Yr:mP EM 363 "Step" 692:=⟨λ_=>by kernel_rfl⟩
instance Ys:wN EM 439 363:=⟨λ_=>by kernel_rfl⟩
instance z65 {n:Nat}[Mn n [274,277,278,276]]:cA n where
inductive DA (vx vn:Nat)(q:Nat):List AV->List Own->Prop
 |mk {b1 b2 b3 b4:Nat}:DA vx vn q [.ptr b1 0,.ptr b2 0,.ptr b3 0,.ptr b4 0] (dA b1 b2 b3 b4 (.fn (.func 274) [] [.ptr vx 0,.ptr vn 0]) Np (.fn (.func 277) [] [.ptr vx 0]) false++[])
inductive xD (x:Xc)(vx vn:Nat)(n i:Int)(q:Nat)(cl:List AV):dy->List Own->Prop
 |f {lo}(hi:0<=i/\i<65536)(h:DA vx vn q cl lo):xD x vx vn n i q cl .a lo
 |r {b1 b2 b3 b4 qm:Nat}{mk σ lm}(dH:cl=[.ptr b1 0,.ptr b2 0,.ptr b3 0,.ptr b4 0])(h:oG (x.ring (n%x.aI)) i qm σ lm)(ho:σ.over=false):xD x vx vn n i q cl σ (dA b1 b2 b3 b4 mk (.ptr qm 0) (.fn (.func 277) [] [.ptr vx 0]) true++([]++lm))
section
variable{B0 S:AH}{W:List Nat}{R lo:List Own}{ro:List aF}{m bl q vx:Nat}{y:Me}{rest cl:List AV}{x:Xc}{k c i key aw cu err:Int}{nn:Bool}{sv uv:AV}{L:List (List AV)}{vn:Nat}{n:Int}{U:List (List AV)}
theorem HJ {σ}(h1:odd sv=false)(h2:sv.cells=[sv])(h3:AV.beq sv sv=true)(hU:U.length<=64)(hn:0<=n)(hs:((0<=x.fZ/\x.fZ<4096)/\(1<=x.aI/\x.aI<=64)/\1<=x.room/\x.room<=16))(hr:(x.ring (n%x.aI)).ok)(hy:y.gd)(h:xD x vx vn n i q cl σ lo)
  (H:Cx B0 W S (.obj q (.row (x.row k c sv uv i key aw nn cu err))::.sl sv 1 L::(lo++(ad m bl y rest++(.sl uv 1 U::.obj vx (.row [.ptr q 0])::.obj vn (.row [I n])::R)))) ro):
  aG EM (.fn (.func 385) [] cl) [.ptr m 0] S λu S'=>∃ab,nX x k c q sv uv L i key aw nn cu err (zw (xD x vx vn n i q cl) dy.over 0 (σ.step (x.ring (n%x.aI)) i y) (ad m bl · rest) (.sl uv 1 U::.obj vx (.row [.ptr q 0])::.obj vn (.row [I n])::R)) (tX dy.over 0 (σ.step (x.ring (n%x.aI)) i y) (ad m bl · rest) (.sl uv 1 U::.obj vx (.row [.ptr q 0])::.obj vn (.row [I n])::R) (R5 U sv L uv i key aw nn err)) u ab/\Cx B0 W S' ab ro:=by
 have Jn:0<=n%x.aI:=Int.emod_nonneg _ am;have zu:n%x.aI<x.aI:=Int.emod_lt_of_pos _ am;cases h with
 |f hi h=>
  cases h with
  |@mk b1 b2 b3 b4=>
   refine y1 H nY ?_;intros;next qm lm hm=>
   refine Vx.aO (own:=.obj q _::.sl sv 1 _::.obj b1 _::.obj b2 _::.obj b3 _::.obj b4 _::(lm++(ad m bl y rest++(.sl uv 1 U::.obj vx (.row [.ptr q 0])::.obj vn (.row [I n])::R)))) HQ ?_;refine Vx.ck (A:=[_,_,_,_,_,_]) (λB W S H=>AW hr hy (by first|assumption|rfl) hm H) λa' x' l' e hl=>?_;cases ho:a'.over
   .skip
    refine z1 ?_;exact bU e (.r rfl hl ho) ho HQ
   .obtain⟨er,rfl,rfl⟩:=hl.ep ho;refine z2 ?_ ?_<;>intros
    all_goals first
     |exact aD e rfl (.s h1 h2 h3) (Or.inl ⟨am,Qe.rfl⟩) HQ
     |exact aD e rfl (.s ci ci ci) (Or.inr ⟨am,Qf.rfl⟩) HQ
 |@r b1 b2 b3 b4 qm mk σ lm dH h ho=>
  subst dH;refine y1 H nY ?_;refine Vx.ck (A:=[_,_,_,_,_,_]) (λB W S H=>AW hr hy (by first|assumption|rfl) h H) λa' x' l' e hl=>?_;cases ho:a'.over
  .skip
   refine z1 ?_;exact bU e (.r rfl hl ho) ho HQ
  .obtain⟨er,rfl,rfl⟩:=hl.ep ho;refine z2 ?_ ?_<;>intros
   all_goals first
    |exact aD e rfl (.s h1 h2 h3) (Or.inl ⟨am,Qe.rfl⟩) HQ
    |exact aD e rfl (.s ci ci ci) (Or.inr ⟨am,Qf.rfl⟩) HQ
end
theorem jB.ep {r}{q:Nat}{σ lo}(h:jB r q σ lo)(ho:σ.over=true):∃h v e,σ=.d h v e/\Me.au h/\(0<=v/\v<65536)/\lo=[.obj q (.row [I r.head,I r.tail,I r.eK,I r.size,Nf,B true,I e,U h,I v])]:=by
 cases h<;>first|(cases ho;done)|exact⟨_,_,_,rfl,ci,ci,rfl⟩
def NF (size:Int)(sv:AV)(L:List (List AV))(uv:AV)(key:Int)(nn:Bool)(err:Int):eA->AV->List (List AV)->AV->Int->Int->Int->Bool->Int->Prop
 |.d h v e=>λaT L' ca i' aQ aR cT aP=>(e=0/\v<size/\Qe sv L uv v key h nn err (eA.d h v e) aT L' ca i' aQ aR cT aP)\/(e=0/\size<=v/\Qn uv v key h nn 5 aT L' ca i' aQ aR cT aP)\/(e≠0/\Qn uv v key h nn 15 aT L' ca i' aQ aR cT aP)
 |_=>λ_ _ _ _ _ _ _ _=>False
instance Vu:mP EM 476 "Step" 703:=⟨λ_=>by kernel_rfl⟩
instance Vv:wN EM 439 476:=⟨λ_=>by kernel_rfl⟩
instance z66:cA 392 where
instance z67:cA 394 where
inductive Co (r:Rn)(q:Nat):List AV->List Own->Prop
 |mk {b1 b2 b3 b4 v1 v2:Nat}:Co r q [.ptr b1 0,.ptr b2 0,.ptr b3 0,.ptr b4 0] (dA b1 b2 b3 b4 (.fn (.func 392) [] [.ptr v2 0]) Np (.fn (.func 394) [] [.ptr v1 0]) false++[.obj v1 (.row [.ptr q 0]),.obj v2 (.row [I r.head,I r.tail,I r.eK,I r.size])])
inductive mj (x:Xc)(r:Rn)(q:Nat)(cl:List AV):eA->List Own->Prop
 |f {lo}(h:Co r q cl lo):mj x r q cl .a lo
 |r {b1 b2 b3 b4 qm v1 v2:Nat}{mk σ lm}(dH:cl=[.ptr b1 0,.ptr b2 0,.ptr b3 0,.ptr b4 0])(h:jB r qm σ lm)(ho:σ.over=false):mj x r q cl σ (dA b1 b2 b3 b4 mk (.ptr qm 0) (.fn (.func 394) [] [.ptr v1 0]) true++([.obj v1 (.row [.ptr q 0]),.obj v2 (.row [I r.head,I r.tail,I r.eK,I r.size])]++lm))
section
variable{B0 S:AH}{W:List Nat}{R lo:List Own}{ro:List aF}{m bl q vx:Nat}{y:Me}{rest cl:List AV}{x:Xc}{k c i key aw cu err:Int}{nn:Bool}{sv uv:AV}{L:List (List AV)}
theorem EI {σ}(h1:odd sv=false)(h2:sv.cells=[sv])(h3:AV.beq sv sv=true){r}(hr:r.ok)(hy:y.gd)(h:mj x r q cl σ lo)
  (H:Cx B0 W S (.obj q (.row (x.row k c sv uv i key aw nn cu err))::.sl sv 1 L::(lo++(ad m bl y rest++R))) ro):
  aG EM (.fn (.func 493) [] cl) [.ptr m 0] S λu S'=>∃ab,nX x k c q sv uv L i key aw nn cu err (zw (mj x r q cl) eA.over 0 (σ.step r y) (ad m bl · rest) R) (tX eA.over 0 (σ.step r y) (ad m bl · rest) R (NF x.j.f.size sv L uv key nn err)) u ab/\Cx B0 W S' ab ro:=by
 cases h with
 |f h=>
  cases h with
  |@mk b1 b2 b3 b4 v1 v2=>
   refine y1 H nY ?_;intros;next qm lm hm=>
   refine Vx.aO (own:=.obj q _::.sl sv 1 _::.obj b1 _::.obj b2 _::.obj b3 _::.obj b4 _::.obj v1 _::.obj v2 _::(lm++(ad m bl y rest++R))) HQ ?_;refine Vx.ck (A:=[_,_,_,_,_,_,_,_]) (λB W S H=>xt hr hy hm H) λa' x' l' e hl=>?_;cases ho:a'.over
   .skip
    refine z1 ?_;exact bU e (.r rfl hl ho) ho HQ
   .obtain⟨hh,hv,er,rfl,hhw,hvw,rfl⟩:=hl.ep ho;refine z3 ?_ ?_ ?_<;>intros
    all_goals first
     |exact aD e rfl (.s h1 h2 h3) (Or.inl ⟨am,am,Qe.rfl⟩) HQ
     |exact aD e rfl .n (Or.inr (Or.inl ⟨am,am,Qn.rfl⟩)) HQ
     |exact aD e rfl .n (Or.inr (Or.inr ⟨am,Qn.rfl⟩)) HQ
 |@r b1 b2 b3 b4 qm v1 v2 mk σ lm dH h ho=>
  subst dH;refine y1 H nY ?_;refine Vx.ck (A:=[_,_,_,_,_,_,_,_]) (λB W S H=>xt hr hy h H) λa' x' l' e hl=>?_;cases ho:a'.over
  .skip
   refine z1 ?_;exact bU e (.r rfl hl ho) ho HQ
  .obtain⟨hh,hv,er,rfl,hhw,hvw,rfl⟩:=hl.ep ho;refine z3 ?_ ?_ ?_<;>intros
   all_goals first
    |exact aD e rfl (.s h1 h2 h3) (Or.inl ⟨am,am,Qe.rfl⟩) HQ
    |exact aD e rfl .n (Or.inr (Or.inl ⟨am,am,Qn.rfl⟩)) HQ
    |exact aD e rfl .n (Or.inr (Or.inr ⟨am,Qn.rfl⟩)) HQ
end
theorem iL.ep {j}{i:Int}{q:Nat}{σ lo}(h:iL j i q σ lo)(ho:σ.over=true):∃w th,σ=.d w 0/\Me.au w/\lo=[.obj q (.row (j.row i w Nf th 0))]:=by
 cases h with
 |a=>cases ho
 |d hw=>exact⟨_,_,rfl,hw,rfl⟩
def Yt (sv:AV)(L:List (List AV))(uv:AV)(i aw:Int)(nn:Bool)(err:Int):bC->AV->List (List AV)->AV->Int->Int->Int->Bool->Int->Prop
 |.d w _=>λaT L' ca i' aQ aR cT aP=>Qe sv L uv i w aw nn err () aT L' ca i' aQ aR cT aP
 |_=>λ_ _ _ _ _ _ _ _=>False
instance abb:mP EM 481 "Step" 704:=⟨λ_=>by kernel_rfl⟩
instance abc:wN EM 439 481:=⟨λ_=>by kernel_rfl⟩
instance z68:cA 398 where
instance z69:cA 400 where
inductive Ka (q:Nat):List AV->List Own->Prop
 |mk {b1 b2 b3 b4 v1 v2:Nat}:Ka q [.ptr b1 0,.ptr b2 0,.ptr b3 0,.ptr b4 0] (dA b1 b2 b3 b4 (.fn (.func 398) [] [.ptr v1 0]) Np (.fn (.func 400) [] [.ptr v1 0,.ptr v2 0]) false++[.obj v1 (.row [.ptr q 0]),.obj v2 (.row [Nf])])
inductive EJ (x:Xc)(i:Int)(q:Nat)(cl:List AV):bC->List Own->Prop
 |f {lo}(hi:0<=i/\i<x.j.f.size)(h:Ka q cl lo):EJ x i q cl .a lo
 |r {b1 b2 b3 b4 qm v1 v2:Nat}{mk σ lm}(dH:cl=[.ptr b1 0,.ptr b2 0,.ptr b3 0,.ptr b4 0])(h:iL x.j i qm σ lm)(ho:σ.over=false):EJ x i q cl σ (dA b1 b2 b3 b4 mk (.ptr qm 0) (.fn (.func 400) [] [.ptr v1 0,.ptr v2 0]) true++([.obj v1 (.row [.ptr q 0]),.obj v2 (.row [Nf])]++lm))
section
variable{B0 S:AH}{W:List Nat}{R lo:List Own}{ro:List aF}{m bl q vx:Nat}{y:Me}{rest cl:List AV}{x:Xc}{k c i key aw cu err:Int}{nn:Bool}{sv uv:AV}{L:List (List AV)}
theorem Kb {σ}(h1:odd sv=false)(h2:sv.cells=[sv])(h3:AV.beq sv sv=true)(hs:x.j.ok)(hy:y.gd)(h:EJ x i q cl σ lo)
  (H:Cx B0 W S (.obj q (.row (x.row k c sv uv i key aw nn cu err))::.sl sv 1 L::(lo++(ad m bl y rest++R))) ro):
  aG EM (.fn (.func 496) [] cl) [.ptr m 0] S λu S'=>∃ab,nX x k c q sv uv L i key aw nn cu err (zw (EJ x i q cl) bC.over 0 (σ.stepOf x.j i y) (ad m bl · rest) R) (tX bC.over 0 (σ.stepOf x.j i y) (ad m bl · rest) R (Yt sv L uv i aw nn err)) u ab/\Cx B0 W S' ab ro:=by
 cases h with
 |f hi h=>
  cases h with
  |@mk b1 b2 b3 b4 v1 v2=>
   refine y1 H nY ?_;intros;next qm lm hm=>
   refine Vx.aO (own:=.obj q _::.sl sv 1 _::.obj b1 _::.obj b2 _::.obj b3 _::.obj b4 _::.obj v1 _::.obj v2 _::(lm++(ad m bl y rest++R))) HQ ?_;refine Vx.ck (A:=[_,_,_,_,_,_,_,_]) (λB W S H=>jb hs hy hm H) λa' x' l' e hl=>?_;cases ho:a'.over
   .skip
    refine z1 ?_;exact bU e (.r rfl hl ho) ho HQ
   .obtain⟨w,th,rfl,hw,rfl⟩:=hl.ep ho;simp only[Jb.row,lA,lB];refine z1 ?_;all_goals exact aD e rfl (.s h1 h2 h3) (Qe.rfl (a:=())) HQ
 |@r b1 b2 b3 b4 qm v1 v2 mk σ lm dH h ho=>
  subst dH;refine y1 H nY ?_;refine Vx.ck (A:=[_,_,_,_,_,_,_,_]) (λB W S H=>jb hs hy h H) λa' x' l' e hl=>?_;cases ho:a'.over
  .skip
   refine z1 ?_;exact bU e (.r rfl hl ho) ho HQ
  .obtain⟨w,th,rfl,hw,rfl⟩:=hl.ep ho;simp only[Jb.row,lA,lB];refine z1 ?_;all_goals exact aD e rfl (.s h1 h2 h3) (Qe.rfl (a:=())) HQ
end
instance getKey {w:Int}:VC EM (zF 402) [U w] (Me.au w) (.dh [.agg [I (if bY w then 0 else w/72057594037927936),I (if bY w then 0 else w/65536%1099511627776),I (if bY w then 0 else w%65536)],I (if bY w then 5 else 0)]):=.of rfl rfl λhw=>by
 show Zx EM false (Tryz.a402 _) _ _ _ _;refine z2 ?_ ?_<;>intros
 .next h=>
  have hb:bY w:=by unfold bY;omega
  simp only[if_pos hb];exact⟨trivial,rfl⟩
 .next h=>
  have hb:¬bY w:=by unfold bY;omega
  simp only[if_neg hb];exact⟨trivial,rfl⟩
def R6 (sv:AV)(L:List (List AV))(uv:AV)(i aw:Int)(nn:Bool)(err:Int):bC->AV->List (List AV)->AV->Int->Int->Int->Bool->Int->Prop
 |.d w _=>λaT L' ca i' aQ aR cT aP=>(¬bY w/\Qe sv L uv i w aw nn err () aT L' ca i' aQ aR cT aP)\/(bY w/\Qn uv i w aw nn 5 aT L' ca i' aQ aR cT aP)
 |_=>λ_ _ _ _ _ _ _ _=>False
def R7 (sv:AV)(L:List (List AV))(uv:AV)(i aw:Int)(nn:Bool)(err:Int):bC->AV->List (List AV)->AV->Int->Int->Int->Bool->Int->Prop
 |.d w _=>λaT L' ca i' aQ aR cT aP=>(¬bY w/\w%65536≠65535/\Qe sv L uv i w aw nn err () aT L' ca i' aQ aR cT aP)\/(¬bY w/\w%65536=65535/\Qn uv i w aw nn 12 aT L' ca i' aQ aR cT aP)\/(bY w/\Qn uv i w aw nn 5 aT L' ca i' aQ aR cT aP)
 |_=>λ_ _ _ _ _ _ _ _=>False
instance z70:cA 284 where
inductive DB (vx:Nat)(q:Nat):List AV->List Own->Prop
 |mk {b1 b2 b3 b4 v1 v2:Nat}:DB vx q [.ptr b1 0,.ptr b2 0,.ptr b3 0,.ptr b4 0] (dA b1 b2 b3 b4 (.fn (.func 398) [] [.ptr v1 0]) Np (.fn (.func 400) [] [.ptr v1 0,.ptr v2 0]) false++[.obj v1 (.row [.ptr q 0]),.obj v2 (.row [.fn (.func 284) [] [.ptr vx 0]])])
inductive qR (x:Xc)(vx:Nat)(i:Int)(q:Nat)(cl:List AV):bC->List Own->Prop
 |f {lo}(hi:0<=i/\i<x.j.f.size)(h:DB vx q cl lo):qR x vx i q cl .a lo
 |r {b1 b2 b3 b4 qm v1 v2:Nat}{mk σ lm}(dH:cl=[.ptr b1 0,.ptr b2 0,.ptr b3 0,.ptr b4 0])(h:iL x.j i qm σ lm)(ho:σ.over=false):qR x vx i q cl σ (dA b1 b2 b3 b4 mk (.ptr qm 0) (.fn (.func 400) [] [.ptr v1 0,.ptr v2 0]) true++([.obj v1 (.row [.ptr q 0]),.obj v2 (.row [.fn (.func 284) [] [.ptr vx 0]])]++lm))
section
variable{B0 S:AH}{W:List Nat}{R lo:List Own}{ro:List aF}{m bl q vx:Nat}{y:Me}{rest cl:List AV}{x:Xc}{k c i key aw cu err:Int}{nn:Bool}{sv uv:AV}{L:List (List AV)}
theorem HK {σ}(h1:odd sv=false)(h2:sv.cells=[sv])(h3:AV.beq sv sv=true)(hs:x.j.ok)(hy:y.gd)(h:qR x vx i q cl σ lo)
  (H:Cx B0 W S (.obj q (.row (x.row k c sv uv i key aw nn cu err))::.sl sv 1 L::(lo++(ad m bl y rest++(.obj vx (.row [.ptr q 0])::R)))) ro):
  aG EM (.fn (.func 496) [] cl) [.ptr m 0] S λu S'=>∃ab,nX x k c q sv uv L i key aw nn cu err (zw (qR x vx i q cl) bC.over 0 (σ.stepOf x.j i y) (ad m bl · rest) (.obj vx (.row [.ptr q 0])::R)) (tX bC.over 0 (σ.stepOf x.j i y) (ad m bl · rest) (.obj vx (.row [.ptr q 0])::R) (R6 sv L uv i aw nn err)) u ab/\Cx B0 W S' ab ro:=by
 cases h with
 |f hi h=>
  cases h with
  |@mk b1 b2 b3 b4 v1 v2=>
   refine y1 H nY ?_;intros;next qm lm hm=>
   refine Vx.aO (own:=.obj q _::.sl sv 1 _::.obj b1 _::.obj b2 _::.obj b3 _::.obj b4 _::.obj v1 _::.obj v2 _::(lm++(ad m bl y rest++(.obj vx (.row [.ptr q 0])::R)))) HQ ?_;refine Vx.ck (A:=[_,_,_,_,_,_,_,_]) (λB W S H=>jb hs hy hm H) λa' x' l' e hl=>?_;cases ho:a'.over
   .skip
    refine z1 ?_;exact bU e (.r rfl hl ho) ho HQ
   .obtain⟨w,th,rfl,hw,rfl⟩:=hl.ep ho;simp only[Jb.row,lA,lB];refine z2 ?_ ?_<;>intros
    all_goals by_cases hb:bY w
    all_goals by_cases hc:w%65536=65535
    all_goals first
     |(exfalso;simp only[if_pos hb] at*;omega)
     |(exfalso;simp only[if_neg hb] at*;omega)
     |exact aD e rfl (.s h1 h2 h3) (Or.inl ⟨hb,Qe.rfl (a:=())⟩) HQ
     |exact aD e rfl .n (Or.inr ⟨hb,Qn.rfl⟩) HQ
 |@r b1 b2 b3 b4 qm v1 v2 mk σ lm dH h ho=>
  subst dH;refine y1 H nY ?_;refine Vx.ck (A:=[_,_,_,_,_,_,_,_]) (λB W S H=>jb hs hy h H) λa' x' l' e hl=>?_;cases ho:a'.over
  .skip
   refine z1 ?_;exact bU e (.r rfl hl ho) ho HQ
  .obtain⟨w,th,rfl,hw,rfl⟩:=hl.ep ho;simp only[Jb.row,lA,lB];refine z2 ?_ ?_<;>intros
   all_goals by_cases hb:bY w
   all_goals by_cases hc:w%65536=65535
   all_goals first
    |(exfalso;simp only[if_pos hb] at*;omega)
    |(exfalso;simp only[if_neg hb] at*;omega)
    |exact aD e rfl (.s h1 h2 h3) (Or.inl ⟨hb,Qe.rfl (a:=())⟩) HQ
    |exact aD e rfl .n (Or.inr ⟨hb,Qn.rfl⟩) HQ
end
instance z71:cA 428 where
inductive HL (vx:Nat)(q:Nat):List AV->List Own->Prop
 |mk {b1 b2 b3 b4 v1 v2:Nat}:HL vx q [.ptr b1 0,.ptr b2 0,.ptr b3 0,.ptr b4 0] (dA b1 b2 b3 b4 (.fn (.func 398) [] [.ptr v1 0]) Np (.fn (.func 400) [] [.ptr v1 0,.ptr v2 0]) false++[.obj v1 (.row [.ptr q 0]),.obj v2 (.row [.fn (.func 428) [] [.ptr vx 0]])])
inductive qS (x:Xc)(vx:Nat)(i:Int)(q:Nat)(cl:List AV):bC->List Own->Prop
 |f {lo}(hi:0<=i/\i<x.j.f.size)(h:HL vx q cl lo):qS x vx i q cl .a lo
 |r {b1 b2 b3 b4 qm v1 v2:Nat}{mk σ lm}(dH:cl=[.ptr b1 0,.ptr b2 0,.ptr b3 0,.ptr b4 0])(h:iL x.j i qm σ lm)(ho:σ.over=false):qS x vx i q cl σ (dA b1 b2 b3 b4 mk (.ptr qm 0) (.fn (.func 400) [] [.ptr v1 0,.ptr v2 0]) true++([.obj v1 (.row [.ptr q 0]),.obj v2 (.row [.fn (.func 428) [] [.ptr vx 0]])]++lm))
section
variable{B0 S:AH}{W:List Nat}{R lo:List Own}{ro:List aF}{m bl q vx:Nat}{y:Me}{rest cl:List AV}{x:Xc}{k c i key aw cu err:Int}{nn:Bool}{sv uv:AV}{L:List (List AV)}
theorem HM {σ}(h1:odd sv=false)(h2:sv.cells=[sv])(h3:AV.beq sv sv=true)(hs:x.j.ok)(hy:y.gd)(h:qS x vx i q cl σ lo)
  (H:Cx B0 W S (.obj q (.row (x.row k c sv uv i key aw nn cu err))::.sl sv 1 L::(lo++(ad m bl y rest++(.obj vx (.row [.ptr q 0])::R)))) ro):
  aG EM (.fn (.func 496) [] cl) [.ptr m 0] S λu S'=>∃ab,nX x k c q sv uv L i key aw nn cu err (zw (qS x vx i q cl) bC.over 0 (σ.stepOf x.j i y) (ad m bl · rest) (.obj vx (.row [.ptr q 0])::R)) (tX bC.over 0 (σ.stepOf x.j i y) (ad m bl · rest) (.obj vx (.row [.ptr q 0])::R) (R7 sv L uv i aw nn err)) u ab/\Cx B0 W S' ab ro:=by
 cases h with
 |f hi h=>
  cases h with
  |@mk b1 b2 b3 b4 v1 v2=>
   refine y1 H nY ?_;intros;next qm lm hm=>
   refine Vx.aO (own:=.obj q _::.sl sv 1 _::.obj b1 _::.obj b2 _::.obj b3 _::.obj b4 _::.obj v1 _::.obj v2 _::(lm++(ad m bl y rest++(.obj vx (.row [.ptr q 0])::R)))) HQ ?_;refine Vx.ck (A:=[_,_,_,_,_,_,_,_]) (λB W S H=>jb hs hy hm H) λa' x' l' e hl=>?_;cases ho:a'.over
   .skip
    refine z1 ?_;exact bU e (.r rfl hl ho) ho HQ
   .obtain⟨w,th,rfl,hw,rfl⟩:=hl.ep ho;simp only[Jb.row,lA,lB];refine z3 ?_ ?_ ?_<;>intros
    all_goals by_cases hb:bY w
    all_goals by_cases hc:w%65536=65535
    all_goals first
     |(exfalso;simp only[if_pos hb] at*;omega)
     |(exfalso;simp only[if_neg hb] at*;omega)
     |exact aD e rfl (.s h1 h2 h3) (Or.inl ⟨hb,hc,Qe.rfl (a:=())⟩) HQ
     |exact aD e rfl .n (Or.inr (Or.inl ⟨hb,hc,Qn.rfl⟩)) HQ
     |exact aD e rfl .n (Or.inr (Or.inr ⟨hb,Qn.rfl⟩)) HQ
 |@r b1 b2 b3 b4 qm v1 v2 mk σ lm dH h ho=>
  subst dH;refine y1 H nY ?_;refine Vx.ck (A:=[_,_,_,_,_,_,_,_]) (λB W S H=>jb hs hy h H) λa' x' l' e hl=>?_;cases ho:a'.over
  .skip
   refine z1 ?_;exact bU e (.r rfl hl ho) ho HQ
  .obtain⟨w,th,rfl,hw,rfl⟩:=hl.ep ho;simp only[Jb.row,lA,lB];refine z3 ?_ ?_ ?_<;>intros
   all_goals by_cases hb:bY w
   all_goals by_cases hc:w%65536=65535
   all_goals first
    |(exfalso;simp only[if_pos hb] at*;omega)
    |(exfalso;simp only[if_neg hb] at*;omega)
    |exact aD e rfl (.s h1 h2 h3) (Or.inl ⟨hb,hc,Qe.rfl (a:=())⟩) HQ
    |exact aD e rfl .n (Or.inr (Or.inl ⟨hb,hc,Qn.rfl⟩)) HQ
    |exact aD e rfl .n (Or.inr (Or.inr ⟨hb,Qn.rfl⟩)) HQ
end
instance z72:cA 407 where
theorem iv.wV {t}{c key aq high:Int}{q:Nat}{b:Int}{σ lo}(h:iv t c key aq high q b σ lo):∃p vp er n ref lf,lo=.obj q (.row (t.rowP c p vp b er key aq high n ref))::lf:=by
 cases h<;>exact⟨_,_,_,_,_,_,rfl⟩
theorem iv.ep {t}{c key aq high:Int}{q:Nat}{b:Int}{σ lo}(h:iv t c key aq high q b σ lo)(ho:σ.over=true):∃p vp er n ref,σ=.d er/\lo=[.obj q (.row (t.rowP c p vp b er key aq high n ref)),.sl vp 1 []]:=by
 cases h<;>first|(cases ho;done)|exact⟨_,_,_,_,_,rfl,rfl⟩|(exfalso;simp_all[aW.over];done)
def R8 (U:List (List AV))(sv:AV)(L:List (List AV))(uv:AV)(i key aw:Int)(nn:Bool)(err:Int):aW->AV->List (List AV)->AV->Int->Int->Int->Bool->Int->Prop
 |.d e=>λaT L' ca i' aQ aR cT aP=>(e=0/\Qe sv L uv i key aw nn err () aT L' ca i' aQ aR cT aP)\/(e≠0/\Qf U uv i key aw nn e aT L' ca i' aQ aR cT aP)
 |_=>λ_ _ _ _ _ _ _ _=>False
instance Yu:mP EM 486 "Step" 706:=⟨λ_=>by kernel_rfl⟩
instance Yv:J0 EM 439 486:=⟨λ_=>by kernel_rfl⟩
instance Yw:mP EM 486 "By" 705:=⟨λ_=>by kernel_rfl⟩
instance z73 {n:Nat}[Mn n [705,286,404,406]]:cA n where
inductive DC (vx:Nat)(high:Int)(q:Nat):List AV->List Own->Prop
 |mk {b1 b2 b3 b4 v1 v2 v3:Nat}:DC vx high q [.ptr b1 0,.ptr b2 0,.ptr b3 0,.ptr b4 0] (dA b1 b2 b3 b4 (.fn (.func 404) [] [.ptr v1 0,.ptr v2 0,.ptr v3 0]) Np (.fn (.func 406) [] [.ptr v1 0]) false++[.obj v1 (.row [.ptr q 0]),.obj v2 (.row [.fn (.func 286) [] [.ptr vx 0]]),.obj v3 (.row [I high])])
inductive xE (x:Xc)(c i key high:Int)(vx:Nat)(q:Nat)(cl:List AV):aW->List Own->Prop
 |f {lo}(h:DC vx high q cl lo):xE x c i key high vx q cl (.p .a 0) lo
 |r {b1 b2 b3 b4 qm v1 v2 v3:Nat}{b:Int}{mk σ lm}(dH:cl=[.ptr b1 0,.ptr b2 0,.ptr b3 0,.ptr b4 0])(h:iv x.t c key i high qm b σ lm)(ho:σ.over=false):xE x c i key high vx q cl σ (dA b1 b2 b3 b4 mk (.ptr qm 0) (.fn (.func 406) [] [.ptr v1 0]) true++([.obj v1 (.row [.ptr q 0]),.obj v2 (.row [.fn (.func 286) [] [.ptr vx 0]]),.obj v3 (.row [I high])]++lm))
section
variable{B0 S:AH}{W:List Nat}{R lo:List Own}{ro:List aF}{m bl q vx:Nat}{y:Me}{rest cl:List AV}{x:Xc}{k c i key aw cu err:Int}{nn:Bool}{sv uv:AV}{L:List (List AV)}{high:Int}{U:List (List AV)}
theorem HN {σ}(h1:odd sv=false)(h2:sv.cells=[sv])(h3:AV.beq sv sv=true)(hU:U.length<=64)(hs:x.t.ok)(hc:0<=c/\c<x.t.l.e.ae)(hk:0<=key/\key<18446744073709551615)(tW:(0<=i/\i<=65534)/\1<=high/\high<=x.t.ht)(hy:y.gd)(h:xE x c i key high vx q cl σ lo)
  (H:Cx B0 W S (.obj q (.row (x.row k c sv uv i key aw nn cu err))::.sl sv 1 L::(lo++(ad m bl y rest++(.sl uv 1 U::.obj vx (.row [.ptr q 0])::R)))) ro):
  aG EM (.fn (.func 499) [] cl) [.ptr m 0] S λu S'=>∃ab,nX x k c q sv uv L i key aw nn cu err (zw (xE x c i key high vx q cl) aW.over (σ.cG x.t key) (σ.step x.t c key i high y) (ad m bl · rest) (.sl uv 1 U::.obj vx (.row [.ptr q 0])::R)) (tX aW.over (σ.cG x.t key) (σ.step x.t c key i high y) (ad m bl · rest) (.sl uv 1 U::.obj vx (.row [.ptr q 0])::R) (R8 U sv L uv i key aw nn err)) u ab/\Cx B0 W S' ab ro:=by
 have ND:((0<=x.t.nd/\x.t.nd<4096)/\(0<=x.t.hd/\x.t.hd<4096)/\(1<=x.t.ht/\x.t.ht<=4)/\1<=x.t.l.a.f.size/\x.t.l.a.f.size<=128)/\(0<=c/\c<x.t.l.e.ae)/\(0<=key/\key<18446744073709551615)/\(0<=i/\i<=65534)/\1<=high/\high<=x.t.ht:=by have aZ:=hs;unfold Tw.ok Lb.ok Ar.ok Sk.ok at aZ;exact⟨am,hc,hk,tW⟩
 cases h with
 |f h=>
  cases h with
  |@mk b1 b2 b3 b4 v1 v2 v3=>
   refine y1 H nY ?_;intros;next qm lm hm=>
   refine Vx.aO (own:=.obj q _::.sl sv 1 _::.obj b1 _::.obj b2 _::.obj b3 _::.obj b4 _::.obj v1 _::.obj v2 _::.obj v3 _::(lm++(ad m bl y rest++(.sl uv 1 U::.obj vx (.row [.ptr q 0])::R)))) HQ ?_;refine Vx.ck (A:=[_,_,_,_,_,_,_,_,_]) (λB W S H=>tV hs hc tW hy (by first|assumption|rfl) (by unfold Me.au;omega) hm H) λa' x' l' e hl=>?_;cases ho:a'.over
   .obtain⟨p,vp,er,n,ref,lf,rfl⟩:=hl.wV;refine z1 ?_;exact bU e (.r rfl hl ho) ho HQ
   .obtain⟨p,vp,er,n,ref,rfl,rfl⟩:=hl.ep ho;simp only[Tw.rowP,Tw.fJ,Tw.cs,Lb.cs,Ar.cs,Ep.cs,lA,lB];refine z2 ?_ ?_<;>intros
    all_goals first
     |exact aD e rfl (.s h1 h2 h3) (Or.inl ⟨am,Qe.rfl (a:=())⟩) HQ
     |exact aD e rfl (.s ci ci ci) (Or.inr ⟨am,Qf.rfl⟩) HQ
 |@r b1 b2 b3 b4 qm v1 v2 v3 b mk σ lm dH h ho=>
  subst dH;refine y1 H nY ?_;refine Vx.ck (A:=[_,_,_,_,_,_,_,_,_]) (λB W S H=>tV hs hc tW hy (by first|assumption|rfl) (by unfold Me.au;omega) h H) λa' x' l' e hl=>?_;cases ho:a'.over
  .obtain⟨p,vp,er,n,ref,lf,rfl⟩:=hl.wV;refine z1 ?_;exact bU e (.r rfl hl ho) ho HQ
  .obtain⟨p,vp,er,n,ref,rfl,rfl⟩:=hl.ep ho;simp only[Tw.rowP,Tw.fJ,Tw.cs,Lb.cs,Ar.cs,Ep.cs,lA,lB];refine z2 ?_ ?_<;>intros
   all_goals first
    |exact aD e rfl (.s h1 h2 h3) (Or.inl ⟨am,Qe.rfl (a:=())⟩) HQ
    |exact aD e rfl (.s ci ci ci) (Or.inr ⟨am,Qf.rfl⟩) HQ
end
inductive A6 (vx:Nat)(high:Int)(q:Nat):List AV->List Own->Prop
 |mk {b1 b2 b3 b4 v1 v2 v3:Nat}:A6 vx high q [.ptr b1 0,.ptr b2 0,.ptr b3 0,.ptr b4 0] (dA b1 b2 b3 b4 (.fn (.func 404) [] [.ptr v1 0,.ptr v2 0,.ptr v3 0]) Np (.fn (.func 406) [] [.ptr v1 0]) false++[.obj v1 (.row [.ptr q 0]),.obj v2 (.row [.fn (.func 425) [] [.ptr vx 0]]),.obj v3 (.row [I high])])
inductive xF (x:Xc)(c i key high:Int)(vx:Nat)(q:Nat)(cl:List AV):aW->List Own->Prop
 |f {lo}(h:A6 vx high q cl lo):xF x c i key high vx q cl (.p .a 0) lo
 |r {b1 b2 b3 b4 qm v1 v2 v3:Nat}{b:Int}{mk σ lm}(dH:cl=[.ptr b1 0,.ptr b2 0,.ptr b3 0,.ptr b4 0])(h:iv x.t c ((key+1)%18446744073709551616) i high qm b σ lm)(ho:σ.over=false):xF x c i key high vx q cl σ (dA b1 b2 b3 b4 mk (.ptr qm 0) (.fn (.func 406) [] [.ptr v1 0]) true++([.obj v1 (.row [.ptr q 0]),.obj v2 (.row [.fn (.func 425) [] [.ptr vx 0]]),.obj v3 (.row [I high])]++lm))
section
variable{B0 S:AH}{W:List Nat}{R lo:List Own}{ro:List aF}{m bl q vx:Nat}{y:Me}{rest cl:List AV}{x:Xc}{k c i key aw cu err:Int}{nn:Bool}{sv uv:AV}{L:List (List AV)}{high:Int}{U:List (List AV)}
theorem HO {σ}(h1:odd sv=false)(h2:sv.cells=[sv])(h3:AV.beq sv sv=true)(hU:U.length<=64)(hs:x.t.ok)(hc:0<=c/\c<x.t.l.e.ae)(hk:0<=((key+1)%18446744073709551616)/\((key+1)%18446744073709551616)<18446744073709551615)(tW:(0<=i/\i<=65534)/\1<=high/\high<=x.t.ht)(hy:y.gd)(h:xF x c i key high vx q cl σ lo)
  (H:Cx B0 W S (.obj q (.row (x.row k c sv uv i key aw nn cu err))::.sl sv 1 L::(lo++(ad m bl y rest++(.sl uv 1 U::.obj vx (.row [.ptr q 0])::R)))) ro):
  aG EM (.fn (.func 499) [] cl) [.ptr m 0] S λu S'=>∃ab,nX x k c q sv uv L i key aw nn cu err (zw (xF x c i key high vx q cl) aW.over (σ.cG x.t ((key+1)%18446744073709551616)) (σ.step x.t c ((key+1)%18446744073709551616) i high y) (ad m bl · rest) (.sl uv 1 U::.obj vx (.row [.ptr q 0])::R)) (tX aW.over (σ.cG x.t ((key+1)%18446744073709551616)) (σ.step x.t c ((key+1)%18446744073709551616) i high y) (ad m bl · rest) (.sl uv 1 U::.obj vx (.row [.ptr q 0])::R) (R8 U sv L uv i key aw nn err)) u ab/\Cx B0 W S' ab ro:=by
 have ND:((0<=x.t.nd/\x.t.nd<4096)/\(0<=x.t.hd/\x.t.hd<4096)/\(1<=x.t.ht/\x.t.ht<=4)/\1<=x.t.l.a.f.size/\x.t.l.a.f.size<=128)/\(0<=c/\c<x.t.l.e.ae)/\(0<=((key+1)%18446744073709551616)/\((key+1)%18446744073709551616)<18446744073709551615)/\(0<=i/\i<=65534)/\1<=high/\high<=x.t.ht:=by have aZ:=hs;unfold Tw.ok Lb.ok Ar.ok Sk.ok at aZ;exact⟨am,hc,hk,tW⟩
 cases h with
 |f h=>
  cases h with
  |@mk b1 b2 b3 b4 v1 v2 v3=>
   refine y1 H nY ?_;intros;next qm lm hm=>
   refine Vx.aO (own:=.obj q _::.sl sv 1 _::.obj b1 _::.obj b2 _::.obj b3 _::.obj b4 _::.obj v1 _::.obj v2 _::.obj v3 _::(lm++(ad m bl y rest++(.sl uv 1 U::.obj vx (.row [.ptr q 0])::R)))) HQ ?_;refine Vx.ck (A:=[_,_,_,_,_,_,_,_,_]) (λB W S H=>tV hs hc tW hy (by first|assumption|rfl) (by unfold Me.au;omega) hm H) λa' x' l' e hl=>?_;cases ho:a'.over
   .obtain⟨p,vp,er,n,ref,lf,rfl⟩:=hl.wV;refine z1 ?_;exact bU e (.r rfl hl ho) ho HQ
   .obtain⟨p,vp,er,n,ref,rfl,rfl⟩:=hl.ep ho;simp only[Tw.rowP,Tw.fJ,Tw.cs,Lb.cs,Ar.cs,Ep.cs,lA,lB];refine z2 ?_ ?_<;>intros
    all_goals first
     |exact aD e rfl (.s h1 h2 h3) (Or.inl ⟨am,Qe.rfl (a:=())⟩) HQ
     |exact aD e rfl (.s ci ci ci) (Or.inr ⟨am,Qf.rfl⟩) HQ
 |@r b1 b2 b3 b4 qm v1 v2 v3 b mk σ lm dH h ho=>
  subst dH;refine y1 H nY ?_;refine Vx.ck (A:=[_,_,_,_,_,_,_,_,_]) (λB W S H=>tV hs hc tW hy (by first|assumption|rfl) (by unfold Me.au;omega) h H) λa' x' l' e hl=>?_;cases ho:a'.over
  .obtain⟨p,vp,er,n,ref,lf,rfl⟩:=hl.wV;refine z1 ?_;exact bU e (.r rfl hl ho) ho HQ
  .obtain⟨p,vp,er,n,ref,rfl,rfl⟩:=hl.ep ho;simp only[Tw.rowP,Tw.fJ,Tw.cs,Lb.cs,Ar.cs,Ep.cs,lA,lB];refine z2 ?_ ?_<;>intros
   all_goals first
    |exact aD e rfl (.s h1 h2 h3) (Or.inl ⟨am,Qe.rfl (a:=())⟩) HQ
    |exact aD e rfl (.s ci ci ci) (Or.inr ⟨am,Qf.rfl⟩) HQ
end
instance z74:cA 517 where
theorem AX.wV {t}{c:Int}{q:Nat}{b:Int}{σ lo}(h:AX t c q b σ lo):∃p vp key aq e lf,lo=.obj q (.row (t.jC c p vp b 0 key aq e))::lf:=by
 cases h<;>exact⟨_,_,_,_,_,_,rfl⟩
theorem AX.ep {t}{c:Int}{q:Nat}{b:Int}{σ lo}(h:AX t c q b σ lo)(ho:σ.over=true):∃p vp key aq e,σ=.d key aq e/\lo=[.obj q (.row (t.jC c p vp b 0 key aq e)),.sl vp 1 []]:=by
 cases h<;>first|(cases ho;done)|exact⟨_,_,_,_,_,rfl,rfl⟩|(exfalso;simp_all[dQ.over];done)
def PkE (k size:Int)(sv:AV)(L:List (List AV))(uv:AV)(aw:Int)(nn:Bool)(err:Int):dQ->AV->List (List AV)->AV->Int->Int->Int->Bool->Int->Prop
 |.d key aq e=>λaT L' ca i' aQ aR cT aP=>(e=0/\0<=aq/\aq<size/\Qe sv L uv aq key aw nn err () aT L' ca i' aQ aR cT aP)\/(e=0/\(aq<0\/size<=aq)/\Qn uv aq key aw nn 5 aT L' ca i' aQ aR cT aP)\/(e≠0/\k=4/\Qn uv aq key aw true 0 aT L' ca i' aQ aR cT aP)\/(e≠0/\k≠4/\Qn uv aq key aw nn 15 aT L' ca i' aQ aR cT aP)
 |_=>λ_ _ _ _ _ _ _ _=>False
instance Yx:mP EM 501 "Step" 719:=⟨λ_=>by kernel_rfl⟩
instance Yy:J0 EM 439 501:=⟨λ_=>by kernel_rfl⟩
instance Yz:mP EM 501 "By" 718:=⟨λ_=>by kernel_rfl⟩
instance z75 {n:Nat}[Mn n [718,417,419]]:cA n where
inductive A7 (vx:Nat)(q:Nat):List AV->List Own->Prop
 |mk {b1 b2 b3 b4:Nat}:A7 vx q [.ptr b1 0,.ptr b2 0,.ptr b3 0,.ptr b4 0] (dA b1 b2 b3 b4 (.fn (.func 417) [] [.ptr vx 0]) Np (.fn (.func 419) [.ptr q 0] []) false++[])
inductive xG (x:Xc)(c:Int)(vx:Nat)(q:Nat)(cl:List AV):dQ->List Own->Prop
 |f {lo}(h:A7 vx q cl lo):xG x c vx q cl (.p .a) lo
 |r {b1 b2 b3 b4 qm:Nat}{b:Int}{mk σ lm}(dH:cl=[.ptr b1 0,.ptr b2 0,.ptr b3 0,.ptr b4 0])(h:AX x.t c qm b σ lm)(ho:σ.over=false):xG x c vx q cl σ (dA b1 b2 b3 b4 mk (.ptr qm 0) (.fn (.func 419) [.ptr q 0] []) true++([]++lm))
section
variable{B0 S:AH}{W:List Nat}{R lo:List Own}{ro:List aF}{m bl q vx:Nat}{y:Me}{rest cl:List AV}{x:Xc}{k c i key aw cu err:Int}{nn:Bool}{sv uv:AV}{L:List (List AV)}
theorem HP {σ}(h1:odd sv=false)(h2:sv.cells=[sv])(h3:AV.beq sv sv=true)(hs:x.t.ok)(hc:0<=c/\c<x.t.l.e.ae)(hy:y.gd)(h:xG x c vx q cl σ lo)
  (H:Cx B0 W S (.obj q (.row (x.row k c sv uv i key aw nn cu err))::.sl sv 1 L::(lo++(ad m bl y rest++(.obj vx (.row [.ptr q 0])::R)))) ro):
  aG EM (.fn (.func 510) [] cl) [.ptr m 0] S λu S'=>∃ab,nX x k c q sv uv L i key aw nn cu err (zw (xG x c vx q cl) dQ.over σ.cG (σ.step x.t c false y) (ad m bl · rest) (.obj vx (.row [.ptr q 0])::R)) (tX dQ.over σ.cG (σ.step x.t c false y) (ad m bl · rest) (.obj vx (.row [.ptr q 0])::R) (PkE k x.j.f.size sv L uv aw nn err)) u ab/\Cx B0 W S' ab ro:=by
 have ND:((0<=x.t.nd/\x.t.nd<4096)/\(0<=x.t.hd/\x.t.hd<4096)/\(1<=x.t.ht/\x.t.ht<=4)/\1<=x.t.l.a.f.size/\x.t.l.a.f.size<=128)/\0<=c/\c<x.t.l.e.ae:=by have aZ:=hs;unfold Tw.ok Lb.ok Ar.ok Sk.ok at aZ;exact⟨am,hc⟩
 cases h with
 |f h=>
  cases h with
  |@mk b1 b2 b3 b4=>
   refine y1 H nY ?_;intros;next qm lm hm=>
   refine Vx.aO (own:=.obj q _::.sl sv 1 _::.obj b1 _::.obj b2 _::.obj b3 _::.obj b4 _::(lm++(ad m bl y rest++(.obj vx (.row [.ptr q 0])::R)))) HQ ?_;refine Vx.ck (A:=[_,_,_,_,_,_]) (λB W S H=>AY hs hc hy (by first|assumption|rfl) hm H) λa' x' l' e hl=>?_;cases ho:a'.over
   .obtain⟨p,vp,ky,aq,er,lf,rfl⟩:=hl.wV;refine z1 ?_;exact bU e (.r rfl hl ho) ho HQ
   .obtain⟨p,vp,ky,aq,er,rfl,rfl⟩:=hl.ep ho;simp only[Tw.jC,Tw.fJ,Tw.cs,Lb.cs,Ar.cs,Ep.cs,lA,lB]
    (repeat' first|constructor|exact ZQ|intro _)
    all_goals apply zL
    all_goals first
     |exact aD e rfl (.s h1 h2 h3) (Or.inl ⟨am,am,am,Qe.rfl (a:=())⟩) HQ
     |exact aD e rfl .n (Or.inr (Or.inl ⟨am,am,Qn.rfl⟩)) HQ
     |exact aD e rfl .n (Or.inr (Or.inr (Or.inl ⟨am,am,Qn.rfl⟩))) HQ
     |exact aD e rfl .n (Or.inr (Or.inr (Or.inr ⟨am,am,Qn.rfl⟩))) HQ
 |@r b1 b2 b3 b4 qm b mk σ lm dH h ho=>
  subst dH;refine y1 H nY ?_;refine Vx.ck (A:=[_,_,_,_,_,_]) (λB W S H=>AY hs hc hy (by first|assumption|rfl) h H) λa' x' l' e hl=>?_;cases ho:a'.over
  .obtain⟨p,vp,ky,aq,er,lf,rfl⟩:=hl.wV;refine z1 ?_;exact bU e (.r rfl hl ho) ho HQ
  .obtain⟨p,vp,ky,aq,er,rfl,rfl⟩:=hl.ep ho;simp only[Tw.jC,Tw.fJ,Tw.cs,Lb.cs,Ar.cs,Ep.cs,lA,lB]
   (repeat' first|constructor|exact ZQ|intro _)
   all_goals apply zL
   all_goals first
    |exact aD e rfl (.s h1 h2 h3) (Or.inl ⟨am,am,am,Qe.rfl (a:=())⟩) HQ
    |exact aD e rfl .n (Or.inr (Or.inl ⟨am,am,Qn.rfl⟩)) HQ
    |exact aD e rfl .n (Or.inr (Or.inr (Or.inl ⟨am,am,Qn.rfl⟩))) HQ
    |exact aD e rfl .n (Or.inr (Or.inr (Or.inr ⟨am,am,Qn.rfl⟩))) HQ
end
end Go.cI
