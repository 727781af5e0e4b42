/- Contracts. Conditions: in each theorem. -/
import Derived.Test.YtdfgboafnklioaaGreatM20
set_option linter.all false
set_option maxRecDepth 100000
set_option maxHeartbeats 4000000
namespace Go.cO
open Go.Proofs
def Qn (uv:AV)(i key au:Int)(nn:Bool)(e:Int):AV->List (List AV)->AV->Int->Int->Int->Bool->Int->Prop:=
 λaP L' cq i' aM aN c_ aL=>aP=Ns/\L'=[]/\cq=uv/\i'=i/\aM=key/\aN=au/\c_=nn/\aL=e
theorem Qn.rfl {uv}{i key au:Int}{nn:Bool}{e:Int}:Qn uv i key au nn e Ns [] uv i key au nn e:=⟨Eq.refl _,Eq.refl _,Eq.refl _,Eq.refl _,Eq.refl _,Eq.refl _,Eq.refl _,Eq.refl _⟩
instance z62:cH 259 where
theorem nT.eG {a e n:Int}{q:Nat}{σ lo}(h:nT a e n q σ lo)(ho:σ.over=true):∃w er,σ=.d er/\lo=[.obj q (.row [B true,I a,U e,U n,U w,Nf,I er])]:=by
 cases h<;>first|(cases ho;done)|exact⟨_,_,rfl,rfl⟩
def Sb (sv:AV)(L:List (List AV))(uv:AV)(i key au:Int)(nn:Bool)(err:Int):eE->AV->List (List AV)->AV->Int->Int->Int->Bool->Int->Prop
 |.d e=>λaP L' cq i' aM aN c_ aL=>(e=0/\Qe sv L uv i key au nn err (eE.d e) aP L' cq i' aM aN c_ aL)\/(e≠0/\Qn uv i key au nn e aP L' cq i' aM aN c_ aL)
 |_=>λ_ _ _ _ _ _ _ _=>False
instance Yc:m9 EM 349 "Step" 687:=⟨λ_=>by kernel_rfl⟩
instance Yd:wy EM 439 349:=⟨λ_=>by kernel_rfl⟩
instance z63 {n:Nat}[Mn n [255,257,258]]:cH n where
inductive HE (vx vn vt vw:Nat)(q:Nat):List AV->List Own->Prop
 |mk {b1 b2 b3 b4:Nat}:HE vx vn vt vw q [.ptr b1 0,.ptr b2 0,.ptr b3 0,.ptr b4 0] (dI b1 b2 b3 b4 (.fn (.func 255) [] [.ptr vx 0,.ptr vn 0,.ptr vt 0,.ptr vw 0]) Np (.fn (.func 257) [] [.ptr vx 0]) false++[])
inductive xk (x:Xc)(vx vn vt vw:Nat)(n ev now:Int)(q:Nat)(cl:List AV):eE->List Own->Prop
 |f {lo}(h:HE vx vn vt vw q cl lo):xk x vx vn vt vw n ev now q cl .a lo
 |r {b1 b2 b3 b4 qm:Nat}{mk σ lm}(dc:cl=[.ptr b1 0,.ptr b2 0,.ptr b3 0,.ptr b4 0])(h:nT (x.cn+n) ev now qm σ lm)(ho:σ.over=false):xk x vx vn vt vw n ev now q cl σ (dI b1 b2 b3 b4 mk (.ptr qm 0) (.fn (.func 257) [] [.ptr vx 0]) true++([]++lm))
section
variable{B0 S:AH}{W:List Nat}{R lo:List Own}{ro:List aB}{m bl q vx:Nat}{y:Me}{rest cl:List AV}{x:Xc}{k c i key au cE err:Int}{nn:Bool}{sv uv:AV}{L:List (List AV)}{vn vt vw:Nat}{n ev now t0 pr t3:Int}
theorem HF {σ}(h1:odd sv=false)(h2:sv.cells=[sv])(h3:AV.beq sv sv=true)(hs:(0<=x.cn/\x.cn<100000)/\(0<=n/\n<x.many/\x.many<100000)/\(0<=ev/\ev<=1099511627776)/\0<=now/\now<=1099511627776)(hy:y.gd)(h:xk x vx vn vt vw n ev now q cl σ lo)
  (H:Cx B0 W S (.obj q (.row (x.row k c sv uv i key au nn cE err))::.sl sv 1 L::(lo++(ad m bl y rest++(.obj vx (.row [.ptr q 0])::.obj vn (.row [I n])::.obj vt (.row [I t0,I pr,I ev,I t3])::.obj vw (.row [I now])::R)))) ro):
  aG EM (.fn (.func 368) [] cl) [.ptr m 0] S λu S'=>∃ab,oA x k c q sv uv L i key au nn cE err (zd (xk x vx vn vt vw n ev now q cl) eE.over 0 (σ.step (x.cn+n) ev now y) (ad m bl · rest) (.obj vx (.row [.ptr q 0])::.obj vn (.row [I n])::.obj vt (.row [I t0,I pr,I ev,I t3])::.obj vw (.row [I now])::R)) (tR eE.over 0 (σ.step (x.cn+n) ev now y) (ad m bl · rest) (.obj vx (.row [.ptr q 0])::.obj vn (.row [I n])::.obj vt (.row [I t0,I pr,I ev,I t3])::.obj vw (.row [I now])::R) (Sb sv L uv i key au nn err)) u ab/\Cx B0 W S' ab ro:=by
 cases h with
 |f h=>
  cases h with
  |@mk b1 b2 b3 b4=>
   refine y1 H oB ?_;intros;next qm lm hm=>
   refine Vx.bB (own:=.obj q _::.sl sv 1 _::.obj b1 _::.obj b2 _::.obj b3 _::.obj b4 _::(lm++(ad m bl y rest++(.obj vx (.row [.ptr q 0])::.obj vn (.row [I n])::.obj vt (.row [I t0,I pr,I ev,I t3])::.obj vw (.row [I now])::R)))) HQ ?_;refine Vx.cC (A:=[_,_,_,_,_,_]) (λB W S H=>Aq hs.2.2 hy hm H) λa' x' l' e hl=>?_;cases ho:a'.over
   .skip
    refine z1 ?_;exact bX e (.r rfl hl ho) ho HQ
   .obtain⟨w,er,rfl,rfl⟩:=hl.eG ho;refine z2 ?_ ?_<;>intros
    all_goals first
     |exact aC e rfl (.s h1 h2 h3) (Or.inl ⟨am,Qe.rfl⟩) HQ
     |exact aC e rfl .n (Or.inr ⟨am,Qn.rfl⟩) HQ
 |@r b1 b2 b3 b4 qm mk σ lm dc h ho=>
  subst dc;refine y1 H oB ?_;refine Vx.cC (A:=[_,_,_,_,_,_]) (λB W S H=>Aq hs.2.2 hy h H) λa' x' l' e hl=>?_;cases ho:a'.over
  .skip
   refine z1 ?_;exact bX e (.r rfl hl ho) ho HQ
  .obtain⟨w,er,rfl,rfl⟩:=hl.eG ho;refine z2 ?_ ?_<;>intros
   all_goals first
    |exact aC e rfl (.s h1 h2 h3) (Or.inl ⟨am,Qe.rfl⟩) HQ
    |exact aC e rfl .n (Or.inr ⟨am,Qn.rfl⟩) HQ
end
def Qf (U:List (List AV))(uv:AV)(i key au:Int)(nn:Bool)(e:Int):AV->List (List AV)->AV->Int->Int->Int->Bool->Int->Prop:=
 λaP L' cq i' aM aN c_ aL=>L'=U/\cq=uv/\i'=i/\aM=key/\aN=au/\c_=nn/\aL=e
theorem Qf.rfl {U sv uv}{i key au:Int}{nn:Bool}{e:Int}:Qf U uv i key au nn e sv U uv i key au nn e:=⟨Eq.refl _,Eq.refl _,Eq.refl _,Eq.refl _,Eq.refl _,Eq.refl _,Eq.refl _⟩
instance z64:cH 269 where
theorem o7.eG {r}{v:Int}{q:Nat}{σ lo}(h:o7 r v q σ lo)(ho:σ.over=true):∃er,σ=.d er/\lo=[.obj q (.row [B true,Np,I er])]:=by
 cases h with
 |s h Li=>rw[Li] at ho;cases ho
 |d=>exact⟨_,rfl,rfl⟩
def Sc (U:List (List AV))(sv:AV)(L:List (List AV))(uv:AV)(i key au:Int)(nn:Bool)(err:Int):b7->AV->List (List AV)->AV->Int->Int->Int->Bool->Int->Prop
 |.d e=>λaP L' cq i' aM aN c_ aL=>(e=0/\Qe sv L uv i key au nn err (b7.d e) aP L' cq i' aM aN c_ aL)\/(e≠0/\Qf U uv i key au nn e aP L' cq i' aM aN c_ aL)
 |_=>λ_ _ _ _ _ _ _ _=>False
instance Ye:m9 EM 363 "Step" 692:=⟨λ_=>by kernel_rfl⟩
instance Yf:wy EM 439 363:=⟨λ_=>by kernel_rfl⟩
instance z65 {n:Nat}[Mn n [274,277,278,276]]:cH n where
inductive Du (vx vn:Nat)(q:Nat):List AV->List Own->Prop
 |mk {b1 b2 b3 b4:Nat}:Du vx vn q [.ptr b1 0,.ptr b2 0,.ptr b3 0,.ptr b4 0] (dI b1 b2 b3 b4 (.fn (.func 274) [] [.ptr vx 0,.ptr vn 0]) Np (.fn (.func 277) [] [.ptr vx 0]) false++[])
inductive xl (x:Xc)(vx vn:Nat)(n i:Int)(q:Nat)(cl:List AV):b7->List Own->Prop
 |f {lo}(hi:0<=i/\i<65536)(h:Du vx vn q cl lo):xl x vx vn n i q cl .a lo
 |r {b1 b2 b3 b4 qm:Nat}{mk σ lm}(dc:cl=[.ptr b1 0,.ptr b2 0,.ptr b3 0,.ptr b4 0])(h:o7 (x.ring (n%x.aJ)) i qm σ lm)(ho:σ.over=false):xl x vx vn n i q cl σ (dI b1 b2 b3 b4 mk (.ptr qm 0) (.fn (.func 277) [] [.ptr vx 0]) true++([]++lm))
section
variable{B0 S:AH}{W:List Nat}{R lo:List Own}{ro:List aB}{m bl q vx:Nat}{y:Me}{rest cl:List AV}{x:Xc}{k c i key au cE err:Int}{nn:Bool}{sv uv:AV}{L:List (List AV)}{vn:Nat}{n:Int}{U:List (List AV)}
theorem HG {σ}(h1:odd sv=false)(h2:sv.cells=[sv])(h3:AV.beq sv sv=true)(hU:U.length<=64)(hn:0<=n)(hs:((0<=x.iW/\x.iW<4096)/\(1<=x.aJ/\x.aJ<=64)/\1<=x.room/\x.room<=16))(hr:(x.ring (n%x.aJ)).ok)(hy:y.gd)(h:xl x vx vn n i q cl σ lo)
  (H:Cx B0 W S (.obj q (.row (x.row k c sv uv i key au nn cE err))::.sl sv 1 L::(lo++(ad m bl y rest++(.sl uv 1 U::.obj vx (.row [.ptr q 0])::.obj vn (.row [I n])::R)))) ro):
  aG EM (.fn (.func 385) [] cl) [.ptr m 0] S λu S'=>∃ab,oA x k c q sv uv L i key au nn cE err (zd (xl x vx vn n i q cl) b7.over 0 (σ.step (x.ring (n%x.aJ)) i y) (ad m bl · rest) (.sl uv 1 U::.obj vx (.row [.ptr q 0])::.obj vn (.row [I n])::R)) (tR b7.over 0 (σ.step (x.ring (n%x.aJ)) i y) (ad m bl · rest) (.sl uv 1 U::.obj vx (.row [.ptr q 0])::.obj vn (.row [I n])::R) (Sc U sv L uv i key au nn err)) u ab/\Cx B0 W S' ab ro:=by
 have Jl:0<=n%x.aJ:=Int.emod_nonneg _ am;have Fm:n%x.aJ<x.aJ:=Int.emod_lt_of_pos _ am;cases h with
 |f hi h=>
  cases h with
  |@mk b1 b2 b3 b4=>
   refine y1 H oB ?_;intros;next qm lm hm=>
   refine Vx.bB (own:=.obj q _::.sl sv 1 _::.obj b1 _::.obj b2 _::.obj b3 _::.obj b4 _::(lm++(ad m bl y rest++(.sl uv 1 U::.obj vx (.row [.ptr q 0])::.obj vn (.row [I n])::R)))) HQ ?_;refine Vx.cC (A:=[_,_,_,_,_,_]) (λB W S H=>Az hr hy (by first|assumption|rfl) hm H) λa' x' l' e hl=>?_;cases ho:a'.over
   .skip
    refine z1 ?_;exact bX e (.r rfl hl ho) ho HQ
   .obtain⟨er,rfl,rfl⟩:=hl.eG ho;refine z2 ?_ ?_<;>intros
    all_goals first
     |exact aC e rfl (.s h1 h2 h3) (Or.inl ⟨am,Qe.rfl⟩) HQ
     |exact aC e rfl (.s ci ci ci) (Or.inr ⟨am,Qf.rfl⟩) HQ
 |@r b1 b2 b3 b4 qm mk σ lm dc h ho=>
  subst dc;refine y1 H oB ?_;refine Vx.cC (A:=[_,_,_,_,_,_]) (λB W S H=>Az hr hy (by first|assumption|rfl) h H) λa' x' l' e hl=>?_;cases ho:a'.over
  .skip
   refine z1 ?_;exact bX e (.r rfl hl ho) ho HQ
  .obtain⟨er,rfl,rfl⟩:=hl.eG ho;refine z2 ?_ ?_<;>intros
   all_goals first
    |exact aC e rfl (.s h1 h2 h3) (Or.inl ⟨am,Qe.rfl⟩) HQ
    |exact aC e rfl (.s ci ci ci) (Or.inr ⟨am,Qf.rfl⟩) HQ
end
theorem j_.eG {r}{q:Nat}{σ lo}(h:j_ r q σ lo)(ho:σ.over=true):∃h v e,σ=.d h v e/\Me.ar h/\(0<=v/\v<65536)/\lo=[.obj q (.row [I r.head,I r.tail,I r.eY,I r.size,Nf,B true,I e,U h,I v])]:=by
 cases h<;>first|(cases ho;done)|exact⟨_,_,_,rfl,ci,ci,rfl⟩
def Nw (size:Int)(sv:AV)(L:List (List AV))(uv:AV)(key:Int)(nn:Bool)(err:Int):eM->AV->List (List AV)->AV->Int->Int->Int->Bool->Int->Prop
 |.d h v e=>λaP L' cq i' aM aN c_ aL=>(e=0/\v<size/\Qe sv L uv v key h nn err (eM.d h v e) aP L' cq i' aM aN c_ aL)\/(e=0/\size<=v/\Qn uv v key h nn 5 aP L' cq i' aM aN c_ aL)\/(e≠0/\Qn uv v key h nn 15 aP L' cq i' aM aN c_ aL)
 |_=>λ_ _ _ _ _ _ _ _=>False
instance Vu:m9 EM 476 "Step" 703:=⟨λ_=>by kernel_rfl⟩
instance Vv:wy EM 439 476:=⟨λ_=>by kernel_rfl⟩
instance z66:cH 392 where
instance z67:cH 394 where
inductive Cb (r:Rn)(q:Nat):List AV->List Own->Prop
 |mk {b1 b2 b3 b4 v1 v2:Nat}:Cb r q [.ptr b1 0,.ptr b2 0,.ptr b3 0,.ptr b4 0] (dI b1 b2 b3 b4 (.fn (.func 392) [] [.ptr v2 0]) Np (.fn (.func 394) [] [.ptr v1 0]) false++[.obj v1 (.row [.ptr q 0]),.obj v2 (.row [I r.head,I r.tail,I r.eY,I r.size])])
inductive mG (x:Xc)(r:Rn)(q:Nat)(cl:List AV):eM->List Own->Prop
 |f {lo}(h:Cb r q cl lo):mG x r q cl .a lo
 |r {b1 b2 b3 b4 qm v1 v2:Nat}{mk σ lm}(dc:cl=[.ptr b1 0,.ptr b2 0,.ptr b3 0,.ptr b4 0])(h:j_ r qm σ lm)(ho:σ.over=false):mG x r q cl σ (dI b1 b2 b3 b4 mk (.ptr qm 0) (.fn (.func 394) [] [.ptr v1 0]) true++([.obj v1 (.row [.ptr q 0]),.obj v2 (.row [I r.head,I r.tail,I r.eY,I r.size])]++lm))
section
variable{B0 S:AH}{W:List Nat}{R lo:List Own}{ro:List aB}{m bl q vx:Nat}{y:Me}{rest cl:List AV}{x:Xc}{k c i key au cE err:Int}{nn:Bool}{sv uv:AV}{L:List (List AV)}
theorem Ew {σ}(h1:odd sv=false)(h2:sv.cells=[sv])(h3:AV.beq sv sv=true){r}(hr:r.ok)(hy:y.gd)(h:mG x r q cl σ lo)
  (H:Cx B0 W S (.obj q (.row (x.row k c sv uv i key au nn cE err))::.sl sv 1 L::(lo++(ad m bl y rest++R))) ro):
  aG EM (.fn (.func 493) [] cl) [.ptr m 0] S λu S'=>∃ab,oA x k c q sv uv L i key au nn cE err (zd (mG x r q cl) eM.over 0 (σ.step r y) (ad m bl · rest) R) (tR eM.over 0 (σ.step r y) (ad m bl · rest) R (Nw x.j.f.size sv L uv key nn err)) u ab/\Cx B0 W S' ab ro:=by
 cases h with
 |f h=>
  cases h with
  |@mk b1 b2 b3 b4 v1 v2=>
   refine y1 H oB ?_;intros;next qm lm hm=>
   refine Vx.bB (own:=.obj q _::.sl sv 1 _::.obj b1 _::.obj b2 _::.obj b3 _::.obj b4 _::.obj v1 _::.obj v2 _::(lm++(ad m bl y rest++R))) HQ ?_;refine Vx.cC (A:=[_,_,_,_,_,_,_,_]) (λB W S H=>xd hr hy hm H) λa' x' l' e hl=>?_;cases ho:a'.over
   .skip
    refine z1 ?_;exact bX e (.r rfl hl ho) ho HQ
   .obtain⟨hh,hv,er,rfl,hhw,hvw,rfl⟩:=hl.eG ho;refine z3 ?_ ?_ ?_<;>intros
    all_goals first
     |exact aC e rfl (.s h1 h2 h3) (Or.inl ⟨am,am,Qe.rfl⟩) HQ
     |exact aC e rfl .n (Or.inr (Or.inl ⟨am,am,Qn.rfl⟩)) HQ
     |exact aC e rfl .n (Or.inr (Or.inr ⟨am,Qn.rfl⟩)) HQ
 |@r b1 b2 b3 b4 qm v1 v2 mk σ lm dc h ho=>
  subst dc;refine y1 H oB ?_;refine Vx.cC (A:=[_,_,_,_,_,_,_,_]) (λB W S H=>xd hr hy h H) λa' x' l' e hl=>?_;cases ho:a'.over
  .skip
   refine z1 ?_;exact bX e (.r rfl hl ho) ho HQ
  .obtain⟨hh,hv,er,rfl,hhw,hvw,rfl⟩:=hl.eG ho;refine z3 ?_ ?_ ?_<;>intros
   all_goals first
    |exact aC e rfl (.s h1 h2 h3) (Or.inl ⟨am,am,Qe.rfl⟩) HQ
    |exact aC e rfl .n (Or.inr (Or.inl ⟨am,am,Qn.rfl⟩)) HQ
    |exact aC e rfl .n (Or.inr (Or.inr ⟨am,Qn.rfl⟩)) HQ
end
theorem je.eG {j}{i:Int}{q:Nat}{σ lo}(h:je j i q σ lo)(ho:σ.over=true):∃w th,σ=.d w 0/\Me.ar w/\lo=[.obj q (.row (j.row i w Nf th 0))]:=by
 cases h with
 |a=>cases ho
 |d hw=>exact⟨_,_,rfl,hw,rfl⟩
def Yg (sv:AV)(L:List (List AV))(uv:AV)(i au:Int)(nn:Bool)(err:Int):bF->AV->List (List AV)->AV->Int->Int->Int->Bool->Int->Prop
 |.d w _=>λaP L' cq i' aM aN c_ aL=>Qe sv L uv i w au nn err () aP L' cq i' aM aN c_ aL
 |_=>λ_ _ _ _ _ _ _ _=>False
instance aa9:m9 EM 481 "Step" 704:=⟨λ_=>by kernel_rfl⟩
instance aba:wy EM 439 481:=⟨λ_=>by kernel_rfl⟩
instance z68:cH 398 where
instance z69:cH 400 where
inductive J3 (q:Nat):List AV->List Own->Prop
 |mk {b1 b2 b3 b4 v1 v2:Nat}:J3 q [.ptr b1 0,.ptr b2 0,.ptr b3 0,.ptr b4 0] (dI b1 b2 b3 b4 (.fn (.func 398) [] [.ptr v1 0]) Np (.fn (.func 400) [] [.ptr v1 0,.ptr v2 0]) false++[.obj v1 (.row [.ptr q 0]),.obj v2 (.row [Nf])])
inductive Ey (x:Xc)(i:Int)(q:Nat)(cl:List AV):bF->List Own->Prop
 |f {lo}(hi:0<=i/\i<x.j.f.size)(h:J3 q cl lo):Ey x i q cl .a lo
 |r {b1 b2 b3 b4 qm v1 v2:Nat}{mk σ lm}(dc:cl=[.ptr b1 0,.ptr b2 0,.ptr b3 0,.ptr b4 0])(h:je x.j i qm σ lm)(ho:σ.over=false):Ey x i q cl σ (dI b1 b2 b3 b4 mk (.ptr qm 0) (.fn (.func 400) [] [.ptr v1 0,.ptr v2 0]) true++([.obj v1 (.row [.ptr q 0]),.obj v2 (.row [Nf])]++lm))
section
variable{B0 S:AH}{W:List Nat}{R lo:List Own}{ro:List aB}{m bl q vx:Nat}{y:Me}{rest cl:List AV}{x:Xc}{k c i key au cE err:Int}{nn:Bool}{sv uv:AV}{L:List (List AV)}
theorem J4 {σ}(h1:odd sv=false)(h2:sv.cells=[sv])(h3:AV.beq sv sv=true)(hs:x.j.ok)(hy:y.gd)(h:Ey x i q cl σ lo)
  (H:Cx B0 W S (.obj q (.row (x.row k c sv uv i key au nn cE err))::.sl sv 1 L::(lo++(ad m bl y rest++R))) ro):
  aG EM (.fn (.func 496) [] cl) [.ptr m 0] S λu S'=>∃ab,oA x k c q sv uv L i key au nn cE err (zd (Ey x i q cl) bF.over 0 (σ.stepOf x.j i y) (ad m bl · rest) R) (tR bF.over 0 (σ.stepOf x.j i y) (ad m bl · rest) R (Yg sv L uv i au nn err)) u ab/\Cx B0 W S' ab ro:=by
 cases h with
 |f hi h=>
  cases h with
  |@mk b1 b2 b3 b4 v1 v2=>
   refine y1 H oB ?_;intros;next qm lm hm=>
   refine Vx.bB (own:=.obj q _::.sl sv 1 _::.obj b1 _::.obj b2 _::.obj b3 _::.obj b4 _::.obj v1 _::.obj v2 _::(lm++(ad m bl y rest++R))) HQ ?_;refine Vx.cC (A:=[_,_,_,_,_,_,_,_]) (λB W S H=>jJ hs hy hm H) λa' x' l' e hl=>?_;cases ho:a'.over
   .skip
    refine z1 ?_;exact bX e (.r rfl hl ho) ho HQ
   .obtain⟨w,th,rfl,hw,rfl⟩:=hl.eG ho;simp only[Jb.row,lA,lB];refine z1 ?_;all_goals exact aC e rfl (.s h1 h2 h3) (Qe.rfl (a:=())) HQ
 |@r b1 b2 b3 b4 qm v1 v2 mk σ lm dc h ho=>
  subst dc;refine y1 H oB ?_;refine Vx.cC (A:=[_,_,_,_,_,_,_,_]) (λB W S H=>jJ hs hy h H) λa' x' l' e hl=>?_;cases ho:a'.over
  .skip
   refine z1 ?_;exact bX e (.r rfl hl ho) ho HQ
  .obtain⟨w,th,rfl,hw,rfl⟩:=hl.eG ho;simp only[Jb.row,lA,lB];refine z1 ?_;all_goals exact aC e rfl (.s h1 h2 h3) (Qe.rfl (a:=())) HQ
end
instance getKey {w:Int}:VC EM (zF 402) [U w] (Me.ar w) (.dD [.agg [I (if b_ w then 0 else w/72057594037927936),I (if b_ w then 0 else w/65536%1099511627776),I (if b_ w then 0 else w%65536)],I (if b_ w then 5 else 0)]):=.of rfl rfl λhw=>by
 show Zx EM false (Tryz.a402 _) _ _ _ _;refine z2 ?_ ?_<;>intros
 .next h=>
  have hb:b_ w:=by unfold b_;omega
  simp only[if_pos hb];exact⟨trivial,rfl⟩
 .next h=>
  have hb:¬b_ w:=by unfold b_;omega
  simp only[if_neg hb];exact⟨trivial,rfl⟩
def Se (sv:AV)(L:List (List AV))(uv:AV)(i au:Int)(nn:Bool)(err:Int):bF->AV->List (List AV)->AV->Int->Int->Int->Bool->Int->Prop
 |.d w _=>λaP L' cq i' aM aN c_ aL=>(¬b_ w/\Qe sv L uv i w au nn err () aP L' cq i' aM aN c_ aL)\/(b_ w/\Qn uv i w au nn 5 aP L' cq i' aM aN c_ aL)
 |_=>λ_ _ _ _ _ _ _ _=>False
def Sf (sv:AV)(L:List (List AV))(uv:AV)(i au:Int)(nn:Bool)(err:Int):bF->AV->List (List AV)->AV->Int->Int->Int->Bool->Int->Prop
 |.d w _=>λaP L' cq i' aM aN c_ aL=>(¬b_ w/\w%65536≠65535/\Qe sv L uv i w au nn err () aP L' cq i' aM aN c_ aL)\/(¬b_ w/\w%65536=65535/\Qn uv i w au nn 12 aP L' cq i' aM aN c_ aL)\/(b_ w/\Qn uv i w au nn 5 aP L' cq i' aM aN c_ aL)
 |_=>λ_ _ _ _ _ _ _ _=>False
instance z70:cH 284 where
inductive Dv (vx:Nat)(q:Nat):List AV->List Own->Prop
 |mk {b1 b2 b3 b4 v1 v2:Nat}:Dv vx q [.ptr b1 0,.ptr b2 0,.ptr b3 0,.ptr b4 0] (dI b1 b2 b3 b4 (.fn (.func 398) [] [.ptr v1 0]) Np (.fn (.func 400) [] [.ptr v1 0,.ptr v2 0]) false++[.obj v1 (.row [.ptr q 0]),.obj v2 (.row [.fn (.func 284) [] [.ptr vx 0]])])
inductive q8 (x:Xc)(vx:Nat)(i:Int)(q:Nat)(cl:List AV):bF->List Own->Prop
 |f {lo}(hi:0<=i/\i<x.j.f.size)(h:Dv vx q cl lo):q8 x vx i q cl .a lo
 |r {b1 b2 b3 b4 qm v1 v2:Nat}{mk σ lm}(dc:cl=[.ptr b1 0,.ptr b2 0,.ptr b3 0,.ptr b4 0])(h:je x.j i qm σ lm)(ho:σ.over=false):q8 x vx i q cl σ (dI b1 b2 b3 b4 mk (.ptr qm 0) (.fn (.func 400) [] [.ptr v1 0,.ptr v2 0]) true++([.obj v1 (.row [.ptr q 0]),.obj v2 (.row [.fn (.func 284) [] [.ptr vx 0]])]++lm))
section
variable{B0 S:AH}{W:List Nat}{R lo:List Own}{ro:List aB}{m bl q vx:Nat}{y:Me}{rest cl:List AV}{x:Xc}{k c i key au cE err:Int}{nn:Bool}{sv uv:AV}{L:List (List AV)}
theorem HH {σ}(h1:odd sv=false)(h2:sv.cells=[sv])(h3:AV.beq sv sv=true)(hs:x.j.ok)(hy:y.gd)(h:q8 x vx i q cl σ lo)
  (H:Cx B0 W S (.obj q (.row (x.row k c sv uv i key au nn cE err))::.sl sv 1 L::(lo++(ad m bl y rest++(.obj vx (.row [.ptr q 0])::R)))) ro):
  aG EM (.fn (.func 496) [] cl) [.ptr m 0] S λu S'=>∃ab,oA x k c q sv uv L i key au nn cE err (zd (q8 x vx i q cl) bF.over 0 (σ.stepOf x.j i y) (ad m bl · rest) (.obj vx (.row [.ptr q 0])::R)) (tR bF.over 0 (σ.stepOf x.j i y) (ad m bl · rest) (.obj vx (.row [.ptr q 0])::R) (Se sv L uv i au nn err)) u ab/\Cx B0 W S' ab ro:=by
 cases h with
 |f hi h=>
  cases h with
  |@mk b1 b2 b3 b4 v1 v2=>
   refine y1 H oB ?_;intros;next qm lm hm=>
   refine Vx.bB (own:=.obj q _::.sl sv 1 _::.obj b1 _::.obj b2 _::.obj b3 _::.obj b4 _::.obj v1 _::.obj v2 _::(lm++(ad m bl y rest++(.obj vx (.row [.ptr q 0])::R)))) HQ ?_;refine Vx.cC (A:=[_,_,_,_,_,_,_,_]) (λB W S H=>jJ hs hy hm H) λa' x' l' e hl=>?_;cases ho:a'.over
   .skip
    refine z1 ?_;exact bX e (.r rfl hl ho) ho HQ
   .obtain⟨w,th,rfl,hw,rfl⟩:=hl.eG ho;simp only[Jb.row,lA,lB];refine z2 ?_ ?_<;>intros
    all_goals by_cases hb:b_ w
    all_goals by_cases hc:w%65536=65535
    all_goals first
     |(exfalso;simp only[if_pos hb] at*;omega)
     |(exfalso;simp only[if_neg hb] at*;omega)
     |exact aC e rfl (.s h1 h2 h3) (Or.inl ⟨hb,Qe.rfl (a:=())⟩) HQ
     |exact aC e rfl .n (Or.inr ⟨hb,Qn.rfl⟩) HQ
 |@r b1 b2 b3 b4 qm v1 v2 mk σ lm dc h ho=>
  subst dc;refine y1 H oB ?_;refine Vx.cC (A:=[_,_,_,_,_,_,_,_]) (λB W S H=>jJ hs hy h H) λa' x' l' e hl=>?_;cases ho:a'.over
  .skip
   refine z1 ?_;exact bX e (.r rfl hl ho) ho HQ
  .obtain⟨w,th,rfl,hw,rfl⟩:=hl.eG ho;simp only[Jb.row,lA,lB];refine z2 ?_ ?_<;>intros
   all_goals by_cases hb:b_ w
   all_goals by_cases hc:w%65536=65535
   all_goals first
    |(exfalso;simp only[if_pos hb] at*;omega)
    |(exfalso;simp only[if_neg hb] at*;omega)
    |exact aC e rfl (.s h1 h2 h3) (Or.inl ⟨hb,Qe.rfl (a:=())⟩) HQ
    |exact aC e rfl .n (Or.inr ⟨hb,Qn.rfl⟩) HQ
end
instance z71:cH 428 where
inductive HI (vx:Nat)(q:Nat):List AV->List Own->Prop
 |mk {b1 b2 b3 b4 v1 v2:Nat}:HI vx q [.ptr b1 0,.ptr b2 0,.ptr b3 0,.ptr b4 0] (dI b1 b2 b3 b4 (.fn (.func 398) [] [.ptr v1 0]) Np (.fn (.func 400) [] [.ptr v1 0,.ptr v2 0]) false++[.obj v1 (.row [.ptr q 0]),.obj v2 (.row [.fn (.func 428) [] [.ptr vx 0]])])
inductive q9 (x:Xc)(vx:Nat)(i:Int)(q:Nat)(cl:List AV):bF->List Own->Prop
 |f {lo}(hi:0<=i/\i<x.j.f.size)(h:HI vx q cl lo):q9 x vx i q cl .a lo
 |r {b1 b2 b3 b4 qm v1 v2:Nat}{mk σ lm}(dc:cl=[.ptr b1 0,.ptr b2 0,.ptr b3 0,.ptr b4 0])(h:je x.j i qm σ lm)(ho:σ.over=false):q9 x vx i q cl σ (dI b1 b2 b3 b4 mk (.ptr qm 0) (.fn (.func 400) [] [.ptr v1 0,.ptr v2 0]) true++([.obj v1 (.row [.ptr q 0]),.obj v2 (.row [.fn (.func 428) [] [.ptr vx 0]])]++lm))
section
variable{B0 S:AH}{W:List Nat}{R lo:List Own}{ro:List aB}{m bl q vx:Nat}{y:Me}{rest cl:List AV}{x:Xc}{k c i key au cE err:Int}{nn:Bool}{sv uv:AV}{L:List (List AV)}
theorem HJ {σ}(h1:odd sv=false)(h2:sv.cells=[sv])(h3:AV.beq sv sv=true)(hs:x.j.ok)(hy:y.gd)(h:q9 x vx i q cl σ lo)
  (H:Cx B0 W S (.obj q (.row (x.row k c sv uv i key au nn cE err))::.sl sv 1 L::(lo++(ad m bl y rest++(.obj vx (.row [.ptr q 0])::R)))) ro):
  aG EM (.fn (.func 496) [] cl) [.ptr m 0] S λu S'=>∃ab,oA x k c q sv uv L i key au nn cE err (zd (q9 x vx i q cl) bF.over 0 (σ.stepOf x.j i y) (ad m bl · rest) (.obj vx (.row [.ptr q 0])::R)) (tR bF.over 0 (σ.stepOf x.j i y) (ad m bl · rest) (.obj vx (.row [.ptr q 0])::R) (Sf sv L uv i au nn err)) u ab/\Cx B0 W S' ab ro:=by
 cases h with
 |f hi h=>
  cases h with
  |@mk b1 b2 b3 b4 v1 v2=>
   refine y1 H oB ?_;intros;next qm lm hm=>
   refine Vx.bB (own:=.obj q _::.sl sv 1 _::.obj b1 _::.obj b2 _::.obj b3 _::.obj b4 _::.obj v1 _::.obj v2 _::(lm++(ad m bl y rest++(.obj vx (.row [.ptr q 0])::R)))) HQ ?_;refine Vx.cC (A:=[_,_,_,_,_,_,_,_]) (λB W S H=>jJ hs hy hm H) λa' x' l' e hl=>?_;cases ho:a'.over
   .skip
    refine z1 ?_;exact bX e (.r rfl hl ho) ho HQ
   .obtain⟨w,th,rfl,hw,rfl⟩:=hl.eG ho;simp only[Jb.row,lA,lB];refine z3 ?_ ?_ ?_<;>intros
    all_goals by_cases hb:b_ w
    all_goals by_cases hc:w%65536=65535
    all_goals first
     |(exfalso;simp only[if_pos hb] at*;omega)
     |(exfalso;simp only[if_neg hb] at*;omega)
     |exact aC e rfl (.s h1 h2 h3) (Or.inl ⟨hb,hc,Qe.rfl (a:=())⟩) HQ
     |exact aC e rfl .n (Or.inr (Or.inl ⟨hb,hc,Qn.rfl⟩)) HQ
     |exact aC e rfl .n (Or.inr (Or.inr ⟨hb,Qn.rfl⟩)) HQ
 |@r b1 b2 b3 b4 qm v1 v2 mk σ lm dc h ho=>
  subst dc;refine y1 H oB ?_;refine Vx.cC (A:=[_,_,_,_,_,_,_,_]) (λB W S H=>jJ hs hy h H) λa' x' l' e hl=>?_;cases ho:a'.over
  .skip
   refine z1 ?_;exact bX e (.r rfl hl ho) ho HQ
  .obtain⟨w,th,rfl,hw,rfl⟩:=hl.eG ho;simp only[Jb.row,lA,lB];refine z3 ?_ ?_ ?_<;>intros
   all_goals by_cases hb:b_ w
   all_goals by_cases hc:w%65536=65535
   all_goals first
    |(exfalso;simp only[if_pos hb] at*;omega)
    |(exfalso;simp only[if_neg hb] at*;omega)
    |exact aC e rfl (.s h1 h2 h3) (Or.inl ⟨hb,hc,Qe.rfl (a:=())⟩) HQ
    |exact aC e rfl .n (Or.inr (Or.inl ⟨hb,hc,Qn.rfl⟩)) HQ
    |exact aC e rfl .n (Or.inr (Or.inr ⟨hb,Qn.rfl⟩)) HQ
end
instance z72:cH 407 where
theorem iX.wG {t}{c key aq high:Int}{q:Nat}{b:Int}{σ lo}(h:iX t c key aq high q b σ lo):∃p vp er n ref lf,lo=.obj q (.row (t.rowP c p vp b er key aq high n ref))::lf:=by
 cases h<;>exact⟨_,_,_,_,_,_,rfl⟩
theorem iX.eG {t}{c key aq high:Int}{q:Nat}{b:Int}{σ lo}(h:iX t c key aq high q b σ lo)(ho:σ.over=true):∃p vp er n ref,σ=.d er/\lo=[.obj q (.row (t.rowP c p vp b er key aq high n ref)),.sl vp 1 []]:=by
 cases h<;>first|(cases ho;done)|exact⟨_,_,_,_,_,rfl,rfl⟩|(exfalso;simp_all[aI.over];done)
def Sg (U:List (List AV))(sv:AV)(L:List (List AV))(uv:AV)(i key au:Int)(nn:Bool)(err:Int):aI->AV->List (List AV)->AV->Int->Int->Int->Bool->Int->Prop
 |.d e=>λaP L' cq i' aM aN c_ aL=>(e=0/\Qe sv L uv i key au nn err () aP L' cq i' aM aN c_ aL)\/(e≠0/\Qf U uv i key au nn e aP L' cq i' aM aN c_ aL)
 |_=>λ_ _ _ _ _ _ _ _=>False
instance Yh:m9 EM 486 "Step" 706:=⟨λ_=>by kernel_rfl⟩
instance Yi:JS EM 439 486:=⟨λ_=>by kernel_rfl⟩
instance Yj:m9 EM 486 "By" 705:=⟨λ_=>by kernel_rfl⟩
instance z73 {n:Nat}[Mn n [705,286,404,406]]:cH n where
inductive Dw (vx:Nat)(high:Int)(q:Nat):List AV->List Own->Prop
 |mk {b1 b2 b3 b4 v1 v2 v3:Nat}:Dw vx high q [.ptr b1 0,.ptr b2 0,.ptr b3 0,.ptr b4 0] (dI b1 b2 b3 b4 (.fn (.func 404) [] [.ptr v1 0,.ptr v2 0,.ptr v3 0]) Np (.fn (.func 406) [] [.ptr v1 0]) false++[.obj v1 (.row [.ptr q 0]),.obj v2 (.row [.fn (.func 286) [] [.ptr vx 0]]),.obj v3 (.row [I high])])
inductive xm (x:Xc)(c i key high:Int)(vx:Nat)(q:Nat)(cl:List AV):aI->List Own->Prop
 |f {lo}(h:Dw vx high q cl lo):xm x c i key high vx q cl (.p .a 0) lo
 |r {b1 b2 b3 b4 qm v1 v2 v3:Nat}{b:Int}{mk σ lm}(dc:cl=[.ptr b1 0,.ptr b2 0,.ptr b3 0,.ptr b4 0])(h:iX x.t c key i high qm b σ lm)(ho:σ.over=false):xm x c i key high vx q cl σ (dI b1 b2 b3 b4 mk (.ptr qm 0) (.fn (.func 406) [] [.ptr v1 0]) true++([.obj v1 (.row [.ptr q 0]),.obj v2 (.row [.fn (.func 286) [] [.ptr vx 0]]),.obj v3 (.row [I high])]++lm))
section
variable{B0 S:AH}{W:List Nat}{R lo:List Own}{ro:List aB}{m bl q vx:Nat}{y:Me}{rest cl:List AV}{x:Xc}{k c i key au cE err:Int}{nn:Bool}{sv uv:AV}{L:List (List AV)}{high:Int}{U:List (List AV)}
theorem HK {σ}(h1:odd sv=false)(h2:sv.cells=[sv])(h3:AV.beq sv sv=true)(hU:U.length<=64)(hs:x.t.ok)(hc:0<=c/\c<x.t.l.e.ah)(hk:0<=key/\key<18446744073709551615)(tQ:(0<=i/\i<=65534)/\1<=high/\high<=x.t.ht)(hy:y.gd)(h:xm x c i key high vx q cl σ lo)
  (H:Cx B0 W S (.obj q (.row (x.row k c sv uv i key au nn cE err))::.sl sv 1 L::(lo++(ad m bl y rest++(.sl uv 1 U::.obj vx (.row [.ptr q 0])::R)))) ro):
  aG EM (.fn (.func 499) [] cl) [.ptr m 0] S λu S'=>∃ab,oA x k c q sv uv L i key au nn cE err (zd (xm x c i key high vx q cl) aI.over (σ.cM x.t key) (σ.step x.t c key i high y) (ad m bl · rest) (.sl uv 1 U::.obj vx (.row [.ptr q 0])::R)) (tR aI.over (σ.cM x.t key) (σ.step x.t c key i high y) (ad m bl · rest) (.sl uv 1 U::.obj vx (.row [.ptr q 0])::R) (Sg U sv L uv i key au nn err)) u ab/\Cx B0 W S' ab ro:=by
 have Nv:((0<=x.t.nd/\x.t.nd<4096)/\(0<=x.t.hd/\x.t.hd<4096)/\(1<=x.t.ht/\x.t.ht<=4)/\1<=x.t.l.a.f.size/\x.t.l.a.f.size<=128)/\(0<=c/\c<x.t.l.e.ah)/\(0<=key/\key<18446744073709551615)/\(0<=i/\i<=65534)/\1<=high/\high<=x.t.ht:=by have bt:=hs;unfold Tw.ok Lb.ok Ar.ok Sk.ok at bt;exact⟨am,hc,hk,tQ⟩
 cases h with
 |f h=>
  cases h with
  |@mk b1 b2 b3 b4 v1 v2 v3=>
   refine y1 H oB ?_;intros;next qm lm hm=>
   refine Vx.bB (own:=.obj q _::.sl sv 1 _::.obj b1 _::.obj b2 _::.obj b3 _::.obj b4 _::.obj v1 _::.obj v2 _::.obj v3 _::(lm++(ad m bl y rest++(.sl uv 1 U::.obj vx (.row [.ptr q 0])::R)))) HQ ?_;refine Vx.cC (A:=[_,_,_,_,_,_,_,_,_]) (λB W S H=>tO hs hc tQ hy (by first|assumption|rfl) (by unfold Me.ar;omega) hm H) λa' x' l' e hl=>?_;cases ho:a'.over
   .obtain⟨p,vp,er,n,ref,lf,rfl⟩:=hl.wG;refine z1 ?_;exact bX e (.r rfl hl ho) ho HQ
   .obtain⟨p,vp,er,n,ref,rfl,rfl⟩:=hl.eG ho;simp only[Tw.rowP,Tw.pS,Tw.cs,Lb.cs,Ar.cs,Ep.cs,lA,lB];refine z2 ?_ ?_<;>intros
    all_goals first
     |exact aC e rfl (.s h1 h2 h3) (Or.inl ⟨am,Qe.rfl (a:=())⟩) HQ
     |exact aC e rfl (.s ci ci ci) (Or.inr ⟨am,Qf.rfl⟩) HQ
 |@r b1 b2 b3 b4 qm v1 v2 v3 b mk σ lm dc h ho=>
  subst dc;refine y1 H oB ?_;refine Vx.cC (A:=[_,_,_,_,_,_,_,_,_]) (λB W S H=>tO hs hc tQ hy (by first|assumption|rfl) (by unfold Me.ar;omega) h H) λa' x' l' e hl=>?_;cases ho:a'.over
  .obtain⟨p,vp,er,n,ref,lf,rfl⟩:=hl.wG;refine z1 ?_;exact bX e (.r rfl hl ho) ho HQ
  .obtain⟨p,vp,er,n,ref,rfl,rfl⟩:=hl.eG ho;simp only[Tw.rowP,Tw.pS,Tw.cs,Lb.cs,Ar.cs,Ep.cs,lA,lB];refine z2 ?_ ?_<;>intros
   all_goals first
    |exact aC e rfl (.s h1 h2 h3) (Or.inl ⟨am,Qe.rfl (a:=())⟩) HQ
    |exact aC e rfl (.s ci ci ci) (Or.inr ⟨am,Qf.rfl⟩) HQ
end
inductive AL (vx:Nat)(high:Int)(q:Nat):List AV->List Own->Prop
 |mk {b1 b2 b3 b4 v1 v2 v3:Nat}:AL vx high q [.ptr b1 0,.ptr b2 0,.ptr b3 0,.ptr b4 0] (dI b1 b2 b3 b4 (.fn (.func 404) [] [.ptr v1 0,.ptr v2 0,.ptr v3 0]) Np (.fn (.func 406) [] [.ptr v1 0]) false++[.obj v1 (.row [.ptr q 0]),.obj v2 (.row [.fn (.func 425) [] [.ptr vx 0]]),.obj v3 (.row [I high])])
inductive xn (x:Xc)(c i key high:Int)(vx:Nat)(q:Nat)(cl:List AV):aI->List Own->Prop
 |f {lo}(h:AL vx high q cl lo):xn x c i key high vx q cl (.p .a 0) lo
 |r {b1 b2 b3 b4 qm v1 v2 v3:Nat}{b:Int}{mk σ lm}(dc:cl=[.ptr b1 0,.ptr b2 0,.ptr b3 0,.ptr b4 0])(h:iX x.t c ((key+1)%18446744073709551616) i high qm b σ lm)(ho:σ.over=false):xn x c i key high vx q cl σ (dI b1 b2 b3 b4 mk (.ptr qm 0) (.fn (.func 406) [] [.ptr v1 0]) true++([.obj v1 (.row [.ptr q 0]),.obj v2 (.row [.fn (.func 425) [] [.ptr vx 0]]),.obj v3 (.row [I high])]++lm))
section
variable{B0 S:AH}{W:List Nat}{R lo:List Own}{ro:List aB}{m bl q vx:Nat}{y:Me}{rest cl:List AV}{x:Xc}{k c i key au cE err:Int}{nn:Bool}{sv uv:AV}{L:List (List AV)}{high:Int}{U:List (List AV)}
theorem HL {σ}(h1:odd sv=false)(h2:sv.cells=[sv])(h3:AV.beq sv sv=true)(hU:U.length<=64)(hs:x.t.ok)(hc:0<=c/\c<x.t.l.e.ah)(hk:0<=((key+1)%18446744073709551616)/\((key+1)%18446744073709551616)<18446744073709551615)(tQ:(0<=i/\i<=65534)/\1<=high/\high<=x.t.ht)(hy:y.gd)(h:xn x c i key high vx q cl σ lo)
  (H:Cx B0 W S (.obj q (.row (x.row k c sv uv i key au nn cE err))::.sl sv 1 L::(lo++(ad m bl y rest++(.sl uv 1 U::.obj vx (.row [.ptr q 0])::R)))) ro):
  aG EM (.fn (.func 499) [] cl) [.ptr m 0] S λu S'=>∃ab,oA x k c q sv uv L i key au nn cE err (zd (xn x c i key high vx q cl) aI.over (σ.cM x.t ((key+1)%18446744073709551616)) (σ.step x.t c ((key+1)%18446744073709551616) i high y) (ad m bl · rest) (.sl uv 1 U::.obj vx (.row [.ptr q 0])::R)) (tR aI.over (σ.cM x.t ((key+1)%18446744073709551616)) (σ.step x.t c ((key+1)%18446744073709551616) i high y) (ad m bl · rest) (.sl uv 1 U::.obj vx (.row [.ptr q 0])::R) (Sg U sv L uv i key au nn err)) u ab/\Cx B0 W S' ab ro:=by
 have Nv:((0<=x.t.nd/\x.t.nd<4096)/\(0<=x.t.hd/\x.t.hd<4096)/\(1<=x.t.ht/\x.t.ht<=4)/\1<=x.t.l.a.f.size/\x.t.l.a.f.size<=128)/\(0<=c/\c<x.t.l.e.ah)/\(0<=((key+1)%18446744073709551616)/\((key+1)%18446744073709551616)<18446744073709551615)/\(0<=i/\i<=65534)/\1<=high/\high<=x.t.ht:=by have bt:=hs;unfold Tw.ok Lb.ok Ar.ok Sk.ok at bt;exact⟨am,hc,hk,tQ⟩
 cases h with
 |f h=>
  cases h with
  |@mk b1 b2 b3 b4 v1 v2 v3=>
   refine y1 H oB ?_;intros;next qm lm hm=>
   refine Vx.bB (own:=.obj q _::.sl sv 1 _::.obj b1 _::.obj b2 _::.obj b3 _::.obj b4 _::.obj v1 _::.obj v2 _::.obj v3 _::(lm++(ad m bl y rest++(.sl uv 1 U::.obj vx (.row [.ptr q 0])::R)))) HQ ?_;refine Vx.cC (A:=[_,_,_,_,_,_,_,_,_]) (λB W S H=>tO hs hc tQ hy (by first|assumption|rfl) (by unfold Me.ar;omega) hm H) λa' x' l' e hl=>?_;cases ho:a'.over
   .obtain⟨p,vp,er,n,ref,lf,rfl⟩:=hl.wG;refine z1 ?_;exact bX e (.r rfl hl ho) ho HQ
   .obtain⟨p,vp,er,n,ref,rfl,rfl⟩:=hl.eG ho;simp only[Tw.rowP,Tw.pS,Tw.cs,Lb.cs,Ar.cs,Ep.cs,lA,lB];refine z2 ?_ ?_<;>intros
    all_goals first
     |exact aC e rfl (.s h1 h2 h3) (Or.inl ⟨am,Qe.rfl (a:=())⟩) HQ
     |exact aC e rfl (.s ci ci ci) (Or.inr ⟨am,Qf.rfl⟩) HQ
 |@r b1 b2 b3 b4 qm v1 v2 v3 b mk σ lm dc h ho=>
  subst dc;refine y1 H oB ?_;refine Vx.cC (A:=[_,_,_,_,_,_,_,_,_]) (λB W S H=>tO hs hc tQ hy (by first|assumption|rfl) (by unfold Me.ar;omega) h H) λa' x' l' e hl=>?_;cases ho:a'.over
  .obtain⟨p,vp,er,n,ref,lf,rfl⟩:=hl.wG;refine z1 ?_;exact bX e (.r rfl hl ho) ho HQ
  .obtain⟨p,vp,er,n,ref,rfl,rfl⟩:=hl.eG ho;simp only[Tw.rowP,Tw.pS,Tw.cs,Lb.cs,Ar.cs,Ep.cs,lA,lB];refine z2 ?_ ?_<;>intros
   all_goals first
    |exact aC e rfl (.s h1 h2 h3) (Or.inl ⟨am,Qe.rfl (a:=())⟩) HQ
    |exact aC e rfl (.s ci ci ci) (Or.inr ⟨am,Qf.rfl⟩) HQ
end
instance z74:cH 517 where
theorem AA.wG {t}{c:Int}{q:Nat}{b:Int}{σ lo}(h:AA t c q b σ lo):∃p vp key aq e lf,lo=.obj q (.row (t.ka c p vp b 0 key aq e))::lf:=by
 cases h<;>exact⟨_,_,_,_,_,_,rfl⟩
theorem AA.eG {t}{c:Int}{q:Nat}{b:Int}{σ lo}(h:AA t c q b σ lo)(ho:σ.over=true):∃p vp key aq e,σ=.d key aq e/\lo=[.obj q (.row (t.ka c p vp b 0 key aq e)),.sl vp 1 []]:=by
 cases h<;>first|(cases ho;done)|exact⟨_,_,_,_,_,rfl,rfl⟩|(exfalso;simp_all[dY.over];done)
def PkE (k size:Int)(sv:AV)(L:List (List AV))(uv:AV)(au:Int)(nn:Bool)(err:Int):dY->AV->List (List AV)->AV->Int->Int->Int->Bool->Int->Prop
 |.d key aq e=>λaP L' cq i' aM aN c_ aL=>(e=0/\0<=aq/\aq<size/\Qe sv L uv aq key au nn err () aP L' cq i' aM aN c_ aL)\/(e=0/\(aq<0\/size<=aq)/\Qn uv aq key au nn 5 aP L' cq i' aM aN c_ aL)\/(e≠0/\k=4/\Qn uv aq key au true 0 aP L' cq i' aM aN c_ aL)\/(e≠0/\k≠4/\Qn uv aq key au nn 15 aP L' cq i' aM aN c_ aL)
 |_=>λ_ _ _ _ _ _ _ _=>False
instance Yk:m9 EM 501 "Step" 719:=⟨λ_=>by kernel_rfl⟩
instance Yl:JS EM 439 501:=⟨λ_=>by kernel_rfl⟩
instance Ym:m9 EM 501 "By" 718:=⟨λ_=>by kernel_rfl⟩
instance z75 {n:Nat}[Mn n [718,417,419]]:cH n where
inductive AM (vx:Nat)(q:Nat):List AV->List Own->Prop
 |mk {b1 b2 b3 b4:Nat}:AM vx q [.ptr b1 0,.ptr b2 0,.ptr b3 0,.ptr b4 0] (dI b1 b2 b3 b4 (.fn (.func 417) [] [.ptr vx 0]) Np (.fn (.func 419) [.ptr q 0] []) false++[])
inductive xo (x:Xc)(c:Int)(vx:Nat)(q:Nat)(cl:List AV):dY->List Own->Prop
 |f {lo}(h:AM vx q cl lo):xo x c vx q cl (.p .a) lo
 |r {b1 b2 b3 b4 qm:Nat}{b:Int}{mk σ lm}(dc:cl=[.ptr b1 0,.ptr b2 0,.ptr b3 0,.ptr b4 0])(h:AA x.t c qm b σ lm)(ho:σ.over=false):xo x c vx q cl σ (dI b1 b2 b3 b4 mk (.ptr qm 0) (.fn (.func 419) [.ptr q 0] []) true++([]++lm))
section
variable{B0 S:AH}{W:List Nat}{R lo:List Own}{ro:List aB}{m bl q vx:Nat}{y:Me}{rest cl:List AV}{x:Xc}{k c i key au cE err:Int}{nn:Bool}{sv uv:AV}{L:List (List AV)}
theorem HM {σ}(h1:odd sv=false)(h2:sv.cells=[sv])(h3:AV.beq sv sv=true)(hs:x.t.ok)(hc:0<=c/\c<x.t.l.e.ah)(hy:y.gd)(h:xo x c vx q cl σ lo)
  (H:Cx B0 W S (.obj q (.row (x.row k c sv uv i key au nn cE err))::.sl sv 1 L::(lo++(ad m bl y rest++(.obj vx (.row [.ptr q 0])::R)))) ro):
  aG EM (.fn (.func 510) [] cl) [.ptr m 0] S λu S'=>∃ab,oA x k c q sv uv L i key au nn cE err (zd (xo x c vx q cl) dY.over σ.cM (σ.step x.t c false y) (ad m bl · rest) (.obj vx (.row [.ptr q 0])::R)) (tR dY.over σ.cM (σ.step x.t c false y) (ad m bl · rest) (.obj vx (.row [.ptr q 0])::R) (PkE k x.j.f.size sv L uv au nn err)) u ab/\Cx B0 W S' ab ro:=by
 have Nv:((0<=x.t.nd/\x.t.nd<4096)/\(0<=x.t.hd/\x.t.hd<4096)/\(1<=x.t.ht/\x.t.ht<=4)/\1<=x.t.l.a.f.size/\x.t.l.a.f.size<=128)/\0<=c/\c<x.t.l.e.ah:=by have bt:=hs;unfold Tw.ok Lb.ok Ar.ok Sk.ok at bt;exact⟨am,hc⟩
 cases h with
 |f h=>
  cases h with
  |@mk b1 b2 b3 b4=>
   refine y1 H oB ?_;intros;next qm lm hm=>
   refine Vx.bB (own:=.obj q _::.sl sv 1 _::.obj b1 _::.obj b2 _::.obj b3 _::.obj b4 _::(lm++(ad m bl y rest++(.obj vx (.row [.ptr q 0])::R)))) HQ ?_;refine Vx.cC (A:=[_,_,_,_,_,_]) (λB W S H=>AB hs hc hy (by first|assumption|rfl) hm H) λa' x' l' e hl=>?_;cases ho:a'.over
   .obtain⟨p,vp,ky,aq,er,lf,rfl⟩:=hl.wG;refine z1 ?_;exact bX e (.r rfl hl ho) ho HQ
   .obtain⟨p,vp,ky,aq,er,rfl,rfl⟩:=hl.eG ho;simp only[Tw.ka,Tw.pS,Tw.cs,Lb.cs,Ar.cs,Ep.cs,lA,lB]
    (repeat' first|constructor|exact ZQ|intro _)
    all_goals apply zL
    all_goals first
     |exact aC e rfl (.s h1 h2 h3) (Or.inl ⟨am,am,am,Qe.rfl (a:=())⟩) HQ
     |exact aC e rfl .n (Or.inr (Or.inl ⟨am,am,Qn.rfl⟩)) HQ
     |exact aC e rfl .n (Or.inr (Or.inr (Or.inl ⟨am,am,Qn.rfl⟩))) HQ
     |exact aC e rfl .n (Or.inr (Or.inr (Or.inr ⟨am,am,Qn.rfl⟩))) HQ
 |@r b1 b2 b3 b4 qm b mk σ lm dc h ho=>
  subst dc;refine y1 H oB ?_;refine Vx.cC (A:=[_,_,_,_,_,_]) (λB W S H=>AB hs hc hy (by first|assumption|rfl) h H) λa' x' l' e hl=>?_;cases ho:a'.over
  .obtain⟨p,vp,ky,aq,er,lf,rfl⟩:=hl.wG;refine z1 ?_;exact bX e (.r rfl hl ho) ho HQ
  .obtain⟨p,vp,ky,aq,er,rfl,rfl⟩:=hl.eG ho;simp only[Tw.ka,Tw.pS,Tw.cs,Lb.cs,Ar.cs,Ep.cs,lA,lB]
   (repeat' first|constructor|exact ZQ|intro _)
   all_goals apply zL
   all_goals first
    |exact aC e rfl (.s h1 h2 h3) (Or.inl ⟨am,am,am,Qe.rfl (a:=())⟩) HQ
    |exact aC e rfl .n (Or.inr (Or.inl ⟨am,am,Qn.rfl⟩)) HQ
    |exact aC e rfl .n (Or.inr (Or.inr (Or.inl ⟨am,am,Qn.rfl⟩))) HQ
    |exact aC e rfl .n (Or.inr (Or.inr (Or.inr ⟨am,am,Qn.rfl⟩))) HQ
end
end Go.cO
