/- Contracts of functions, over the abstract machine. Conditions: stated in each theorem. -/
import Derived.Test.YtdfgboafnklioaaGreatM20
set_option linter.all false
set_option maxRecDepth 100000
set_option maxHeartbeats 4000000
namespace Go.cY
open Go.Proofs
section
def Qn (uv:AV)(i key au:Int)(nn:Bool)(e:Int):AV→List (List AV)→AV→Int→Int→Int→Bool→Int→Prop:=
 fun aM L' b7 i' aI aJ cJ aF=>aM=Ns∧L'=[]∧b7=uv∧i'=i∧aI=key∧aJ=au∧cJ=nn∧aF=e
theorem Qn.rfl {uv}{i key au:Int}{nn:Bool}{e:Int}:Qn uv i key au nn e Ns [] uv i key au nn e:=⟨Eq.refl _,Eq.refl _,Eq.refl _,Eq.refl _,Eq.refl _,Eq.refl _,Eq.refl _,Eq.refl _⟩
instance z53:cF 259 where
theorem mZ.dY {a e n:Int}{q:Nat}{σ lo}(h:mZ a e n q σ lo)(ho:σ.over=true):∃w er,σ=.d er∧lo=[.obj q (.row [B true,I a,U e,U n,U w,Nf,I er])]:=by
 cases h<;>first|(cases ho;done)|exact⟨_,_,rfl,rfl⟩
def Ps (sv:AV)(L:List (List AV))(uv:AV)(i key au:Int)(nn:Bool)(err:Int):iF→AV→List (List AV)→AV→Int→Int→Int→Bool→Int→Prop
 |.d e=>fun aM L' b7 i' aI aJ cJ aF=>(e=0∧Qe sv L uv i key au nn err (iF.d e) aM L' b7 i' aI aJ cJ aF)∨(e≠0∧Qn uv i key au nn e aM L' b7 i' aI aJ cJ aF)
 |_=>fun _ _ _ _ _ _ _ _=>False
instance Vf:mi EM 349 "Step" 687:=⟨fun _=>by kernel_rfl⟩
instance Vg:va EM 439 349:=⟨fun _=>by kernel_rfl⟩
instance z54 {n:Nat}[Mn n [255,257,258]]:cF n where
inductive Gb (vx vn vt vw:Nat)(q:Nat):List AV→List Own→Prop
 |mk {b1 b2 b3 b4:Nat}:Gb vx vn vt vw q [.ptr b1 0,.ptr b2 0,.ptr b3 0,.ptr b4 0] (dp b1 b2 b3 b4 (.fn (.func 255) [] [.ptr vx 0,.ptr vn 0,.ptr vt 0,.ptr vw 0]) Np (.fn (.func 257) [] [.ptr vx 0]) false++[])
inductive wk (x:Xc)(vx vn vt vw:Nat)(n ev now:Int)(q:Nat)(cl:List AV):iF→List Own→Prop
 |f {lo}(h:Gb vx vn vt vw q cl lo):wk x vx vn vt vw n ev now q cl .a lo
 |r {b1 b2 b3 b4 qm:Nat}{mk σ lm}(dw:cl=[.ptr b1 0,.ptr b2 0,.ptr b3 0,.ptr b4 0])(h:mZ (x.b9+n) ev now qm σ lm)(ho:σ.over=false):wk x vx vn vt vw n ev now q cl σ (dp b1 b2 b3 b4 mk (.ptr qm 0) (.fn (.func 257) [] [.ptr vx 0]) true++([]++lm))
section
variable{B0 S:AH}{W:List Nat}{R lo:List Own}{ro:List aQ}{m bl q vx:Nat}{y:Me}{rest cl:List AV}{x:Xc}{k c i key au cn err:Int}{nn:Bool}{sv uv:AV}{L:List (List AV)}{vn vt vw:Nat}{n ev now t0 pr t3:Int}
theorem Gc {σ}(h1:ep sv=false)(h2:sv.cells=[sv])(h3:AV.beq sv sv=true)(hs:(0≤x.b9∧x.b9<100000)∧(0≤n∧n<x.many∧x.many<100000)∧(0≤ev∧ev≤1099511627776)∧0≤now∧now≤1099511627776)(hy:y.gd)(h:wk x vx vn vt vw n ev now q cl σ lo)
  (H:Cx B0 W S (.obj q (.row (x.row k c sv uv i key au nn cn err))::.sl sv 1 L::(lo++(ad m bl y rest++(.obj vx (.row [.ptr q 0])::.obj vn (.row [I n])::.obj vt (.row [I t0,I pr,I ev,I t3])::.obj vw (.row [I now])::R)))) ro):
  aO EM (.fn (.func 368) [] cl) [.ptr m 0] S fun u S'=>∃ab,nF x k c q sv uv L i key au nn cn err (xY (wk x vx vn vt vw n ev now q cl) iF.over 0 (σ.step (x.b9+n) ev now y) (ad m bl · rest) (.obj vx (.row [.ptr q 0])::.obj vn (.row [I n])::.obj vt (.row [I t0,I pr,I ev,I t3])::.obj vw (.row [I now])::R)) (sC iF.over 0 (σ.step (x.b9+n) ev now y) (ad m bl · rest) (.obj vx (.row [.ptr q 0])::.obj vn (.row [I n])::.obj vt (.row [I t0,I pr,I ev,I t3])::.obj vw (.row [I now])::R) (Ps sv L uv i key au nn err)) u ab∧Cx B0 W S' ab ro:=by
 cases h with
 |f h=>
  cases h with
  |@mk b1 b2 b3 b4=>
   refine Vx.fm H nG (b:=Tryz.a368) ?_;(repeat' first|constructor|exact ZQ|intro _);all_goals apply zL
   next qm lm hm=>
   refine Vx.cb (own:=.obj q _::.sl sv 1 _::.obj b1 _::.obj b2 _::.obj b3 _::.obj b4 _::(lm++(ad m bl y rest++(.obj vx (.row [.ptr q 0])::.obj vn (.row [I n])::.obj vt (.row [I t0,I pr,I ev,I t3])::.obj vw (.row [I now])::R)))) HQ ?_
   refine Vx.cf (A:=[_,_,_,_,_,_]) (fun B W S H=>yZ hs.2.2 hy hm H) fun a' x' l' e hl=>?_
   cases ho:a'.over
   ·skip
    (repeat' first|constructor|exact ZQ|intro _)
    all_goals apply zL
    exact bP e (.r rfl hl ho) ho HQ
   ·obtain⟨w,er,rfl,rfl⟩:=hl.dY ho
    (repeat' first|constructor|exact ZQ|intro _)
    all_goals apply zL
    all_goals first
     |exact aB e rfl (.s h1 h2 h3) (Or.inl ⟨by omega,Qe.rfl⟩) HQ
     |exact aB e rfl .n (Or.inr ⟨by omega,Qn.rfl⟩) HQ
 |@r b1 b2 b3 b4 qm mk σ lm dw h ho=>
  subst dw
  refine Vx.fm H nG (b:=Tryz.a368) ?_;(repeat' first|constructor|exact ZQ|intro _);all_goals apply zL
  refine Vx.cf (A:=[_,_,_,_,_,_]) (fun B W S H=>yZ hs.2.2 hy h H) fun a' x' l' e hl=>?_
  cases ho:a'.over
  ·skip
   (repeat' first|constructor|exact ZQ|intro _)
   all_goals apply zL
   exact bP e (.r rfl hl ho) ho HQ
  ·obtain⟨w,er,rfl,rfl⟩:=hl.dY ho
   (repeat' first|constructor|exact ZQ|intro _)
   all_goals apply zL
   all_goals first
    |exact aB e rfl (.s h1 h2 h3) (Or.inl ⟨by omega,Qe.rfl⟩) HQ
    |exact aB e rfl .n (Or.inr ⟨by omega,Qn.rfl⟩) HQ
end
def Qf (U:List (List AV))(uv:AV)(i key au:Int)(nn:Bool)(e:Int):AV→List (List AV)→AV→Int→Int→Int→Bool→Int→Prop:=
 fun aM L' b7 i' aI aJ cJ aF=>L'=U∧b7=uv∧i'=i∧aI=key∧aJ=au∧cJ=nn∧aF=e
theorem Qf.rfl {U sv uv}{i key au:Int}{nn:Bool}{e:Int}:Qf U uv i key au nn e sv U uv i key au nn e:=⟨Eq.refl _,Eq.refl _,Eq.refl _,Eq.refl _,Eq.refl _,Eq.refl _,Eq.refl _⟩
instance z55:cF 269 where
theorem nY.dY {r}{v:Int}{q:Nat}{σ lo}(h:nY r v q σ lo)(ho:σ.over=true):∃er,σ=.d er∧lo=[.obj q (.row [B true,Np,I er])]:=by
 cases h with
 |s h Jh=>rw[Jh] at ho;cases ho
 |d=>exact⟨_,rfl,rfl⟩
def Pt (U:List (List AV))(sv:AV)(L:List (List AV))(uv:AV)(i key au:Int)(nn:Bool)(err:Int):dj→AV→List (List AV)→AV→Int→Int→Int→Bool→Int→Prop
 |.d e=>fun aM L' b7 i' aI aJ cJ aF=>(e=0∧Qe sv L uv i key au nn err (dj.d e) aM L' b7 i' aI aJ cJ aF)∨(e≠0∧Qf U uv i key au nn e aM L' b7 i' aI aJ cJ aF)
 |_=>fun _ _ _ _ _ _ _ _=>False
instance Vh:mi EM 363 "Step" 692:=⟨fun _=>by kernel_rfl⟩
instance Vi:va EM 439 363:=⟨fun _=>by kernel_rfl⟩
instance z56 {n:Nat}[Mn n [274,277,278,276]]:cF n where
inductive Cc (vx vn:Nat)(q:Nat):List AV→List Own→Prop
 |mk {b1 b2 b3 b4:Nat}:Cc vx vn q [.ptr b1 0,.ptr b2 0,.ptr b3 0,.ptr b4 0] (dp b1 b2 b3 b4 (.fn (.func 274) [] [.ptr vx 0,.ptr vn 0]) Np (.fn (.func 277) [] [.ptr vx 0]) false++[])
inductive wm (x:Xc)(vx vn:Nat)(n i:Int)(q:Nat)(cl:List AV):dj→List Own→Prop
 |f {lo}(hi:0≤i∧i<65536)(h:Cc vx vn q cl lo):wm x vx vn n i q cl .a lo
 |r {b1 b2 b3 b4 qm:Nat}{mk σ lm}(dw:cl=[.ptr b1 0,.ptr b2 0,.ptr b3 0,.ptr b4 0])(h:nY (x.ring (n%x.aH)) i qm σ lm)(ho:σ.over=false):wm x vx vn n i q cl σ (dp b1 b2 b3 b4 mk (.ptr qm 0) (.fn (.func 277) [] [.ptr vx 0]) true++([]++lm))
section
variable{B0 S:AH}{W:List Nat}{R lo:List Own}{ro:List aQ}{m bl q vx:Nat}{y:Me}{rest cl:List AV}{x:Xc}{k c i key au cn err:Int}{nn:Bool}{sv uv:AV}{L:List (List AV)}{vn:Nat}{n:Int}{U:List (List AV)}
theorem Ge {σ}(h1:ep sv=false)(h2:sv.cells=[sv])(h3:AV.beq sv sv=true)(hU:U.length≤64)(hn:0≤n)(hs:((0≤x.iB∧x.iB<4096)∧(1≤x.aH∧x.aH≤64)∧1≤x.room∧x.room≤16))(hr:(x.ring (n%x.aH)).ok)(hy:y.gd)(h:wm x vx vn n i q cl σ lo)
  (H:Cx B0 W S (.obj q (.row (x.row k c sv uv i key au nn cn err))::.sl sv 1 L::(lo++(ad m bl y rest++(.sl uv 1 U::.obj vx (.row [.ptr q 0])::.obj vn (.row [I n])::R)))) ro):
  aO EM (.fn (.func 385) [] cl) [.ptr m 0] S fun u S'=>∃ab,nF x k c q sv uv L i key au nn cn err (xY (wm x vx vn n i q cl) dj.over 0 (σ.step (x.ring (n%x.aH)) i y) (ad m bl · rest) (.sl uv 1 U::.obj vx (.row [.ptr q 0])::.obj vn (.row [I n])::R)) (sC dj.over 0 (σ.step (x.ring (n%x.aH)) i y) (ad m bl · rest) (.sl uv 1 U::.obj vx (.row [.ptr q 0])::.obj vn (.row [I n])::R) (Pt U sv L uv i key au nn err)) u ab∧Cx B0 W S' ab ro:=by
 have Ho:0≤n%x.aH:=Int.emod_nonneg _ (by omega)
 have DK:n%x.aH<x.aH:=Int.emod_lt_of_pos _ (by omega)
 cases h with
 |f hi h=>
  cases h with
  |@mk b1 b2 b3 b4=>
   refine Vx.fm H nG (b:=Tryz.a385) ?_;(repeat' first|constructor|exact ZQ|intro _);all_goals apply zL
   next qm lm hm=>
   refine Vx.cb (own:=.obj q _::.sl sv 1 _::.obj b1 _::.obj b2 _::.obj b3 _::.obj b4 _::(lm++(ad m bl y rest++(.sl uv 1 U::.obj vx (.row [.ptr q 0])::.obj vn (.row [I n])::R)))) HQ ?_
   refine Vx.cf (A:=[_,_,_,_,_,_]) (fun B W S H=>zb hr hy (by first|assumption|rfl) hm H) fun a' x' l' e hl=>?_
   cases ho:a'.over
   ·skip
    (repeat' first|constructor|exact ZQ|intro _)
    all_goals apply zL
    exact bP e (.r rfl hl ho) ho HQ
   ·obtain⟨er,rfl,rfl⟩:=hl.dY ho
    (repeat' first|constructor|exact ZQ|intro _)
    all_goals apply zL
    all_goals first
     |exact aB e rfl (.s h1 h2 h3) (Or.inl ⟨by omega,Qe.rfl⟩) HQ
     |exact aB e rfl (.s (by assumption) (by assumption) (by assumption)) (Or.inr ⟨by omega,Qf.rfl⟩) HQ
 |@r b1 b2 b3 b4 qm mk σ lm dw h ho=>
  subst dw
  refine Vx.fm H nG (b:=Tryz.a385) ?_;(repeat' first|constructor|exact ZQ|intro _);all_goals apply zL
  refine Vx.cf (A:=[_,_,_,_,_,_]) (fun B W S H=>zb hr hy (by first|assumption|rfl) h H) fun a' x' l' e hl=>?_
  cases ho:a'.over
  ·skip
   (repeat' first|constructor|exact ZQ|intro _)
   all_goals apply zL
   exact bP e (.r rfl hl ho) ho HQ
  ·obtain⟨er,rfl,rfl⟩:=hl.dY ho
   (repeat' first|constructor|exact ZQ|intro _)
   all_goals apply zL
   all_goals first
    |exact aB e rfl (.s h1 h2 h3) (Or.inl ⟨by omega,Qe.rfl⟩) HQ
    |exact aB e rfl (.s (by assumption) (by assumption) (by assumption)) (Or.inr ⟨by omega,Qf.rfl⟩) HQ
end
theorem ji.dY {r}{q:Nat}{σ lo}(h:ji r q σ lo)(ho:σ.over=true):∃h v e,σ=.d h v e∧Me.ar h∧(0≤v∧v<65536)∧lo=[.obj q (.row [I r.head,I r.tail,I r.eE,I r.size,Nf,B true,I e,U h,I v])]:=by
 cases h<;>first|(cases ho;done)|exact⟨_,_,_,rfl,by assumption,by assumption,rfl⟩
def Lc (size:Int)(sv:AV)(L:List (List AV))(uv:AV)(key:Int)(nn:Bool)(err:Int):fj→AV→List (List AV)→AV→Int→Int→Int→Bool→Int→Prop
 |.d h v e=>fun aM L' b7 i' aI aJ cJ aF=>(e=0∧v<size∧Qe sv L uv v key h nn err (fj.d h v e) aM L' b7 i' aI aJ cJ aF)∨(e=0∧size≤v∧Qn uv v key h nn 5 aM L' b7 i' aI aJ cJ aF)∨(e≠0∧Qn uv v key h nn 15 aM L' b7 i' aI aJ cJ aF)
 |_=>fun _ _ _ _ _ _ _ _=>False
instance Sd:mi EM 476 "Step" 703:=⟨fun _=>by kernel_rfl⟩
instance Se:va EM 439 476:=⟨fun _=>by kernel_rfl⟩
instance z57:cF 392 where
instance z58:cF 394 where
inductive AT (r:Rn)(q:Nat):List AV→List Own→Prop
 |mk {b1 b2 b3 b4 v1 v2:Nat}:AT r q [.ptr b1 0,.ptr b2 0,.ptr b3 0,.ptr b4 0] (dp b1 b2 b3 b4 (.fn (.func 392) [] [.ptr v2 0]) Np (.fn (.func 394) [] [.ptr v1 0]) false++[.obj v1 (.row [.ptr q 0]),.obj v2 (.row [I r.head,I r.tail,I r.eE,I r.size])])
inductive lP (x:Xc)(r:Rn)(q:Nat)(cl:List AV):fj→List Own→Prop
 |f {lo}(h:AT r q cl lo):lP x r q cl .a lo
 |r {b1 b2 b3 b4 qm v1 v2:Nat}{mk σ lm}(dw:cl=[.ptr b1 0,.ptr b2 0,.ptr b3 0,.ptr b4 0])(h:ji r qm σ lm)(ho:σ.over=false):lP x r q cl σ (dp b1 b2 b3 b4 mk (.ptr qm 0) (.fn (.func 394) [] [.ptr v1 0]) true++([.obj v1 (.row [.ptr q 0]),.obj v2 (.row [I r.head,I r.tail,I r.eE,I r.size])]++lm))
section
variable{B0 S:AH}{W:List Nat}{R lo:List Own}{ro:List aQ}{m bl q vx:Nat}{y:Me}{rest cl:List AV}{x:Xc}{k c i key au cn err:Int}{nn:Bool}{sv uv:AV}{L:List (List AV)}
theorem Da {σ}(h1:ep sv=false)(h2:sv.cells=[sv])(h3:AV.beq sv sv=true){r}(hr:r.ok)(hy:y.gd)(h:lP x r q cl σ lo)
  (H:Cx B0 W S (.obj q (.row (x.row k c sv uv i key au nn cn err))::.sl sv 1 L::(lo++(ad m bl y rest++R))) ro):
  aO EM (.fn (.func 493) [] cl) [.ptr m 0] S fun u S'=>∃ab,nF x k c q sv uv L i key au nn cn err (xY (lP x r q cl) fj.over 0 (σ.step r y) (ad m bl · rest) R) (sC fj.over 0 (σ.step r y) (ad m bl · rest) R (Lc x.j.f.size sv L uv key nn err)) u ab∧Cx B0 W S' ab ro:=by
 cases h with
 |f h=>
  cases h with
  |@mk b1 b2 b3 b4 v1 v2=>
   refine Vx.fm H nG (b:=Tryz.a493) ?_;(repeat' first|constructor|exact ZQ|intro _);all_goals apply zL
   next qm lm hm=>
   refine Vx.cb (own:=.obj q _::.sl sv 1 _::.obj b1 _::.obj b2 _::.obj b3 _::.obj b4 _::.obj v1 _::.obj v2 _::(lm++(ad m bl y rest++R))) HQ ?_
   refine Vx.cf (A:=[_,_,_,_,_,_,_,_]) (fun B W S H=>wb hr hy hm H) fun a' x' l' e hl=>?_
   cases ho:a'.over
   ·skip
    (repeat' first|constructor|exact ZQ|intro _)
    all_goals apply zL
    exact bP e (.r rfl hl ho) ho HQ
   ·obtain⟨hh,hv,er,rfl,ZK,ZN,rfl⟩:=hl.dY ho
    (repeat' first|constructor|exact ZQ|intro _)
    all_goals apply zL
    all_goals first
     |exact aB e rfl (.s h1 h2 h3) (Or.inl ⟨by omega,by omega,Qe.rfl⟩) HQ
     |exact aB e rfl .n (Or.inr (Or.inl ⟨by omega,by omega,Qn.rfl⟩)) HQ
     |exact aB e rfl .n (Or.inr (Or.inr ⟨by omega,Qn.rfl⟩)) HQ
 |@r b1 b2 b3 b4 qm v1 v2 mk σ lm dw h ho=>
  subst dw
  refine Vx.fm H nG (b:=Tryz.a493) ?_;(repeat' first|constructor|exact ZQ|intro _);all_goals apply zL
  refine Vx.cf (A:=[_,_,_,_,_,_,_,_]) (fun B W S H=>wb hr hy h H) fun a' x' l' e hl=>?_
  cases ho:a'.over
  ·skip
   (repeat' first|constructor|exact ZQ|intro _)
   all_goals apply zL
   exact bP e (.r rfl hl ho) ho HQ
  ·obtain⟨hh,hv,er,rfl,ZK,ZN,rfl⟩:=hl.dY ho
   (repeat' first|constructor|exact ZQ|intro _)
   all_goals apply zL
   all_goals first
    |exact aB e rfl (.s h1 h2 h3) (Or.inl ⟨by omega,by omega,Qe.rfl⟩) HQ
    |exact aB e rfl .n (Or.inr (Or.inl ⟨by omega,by omega,Qn.rfl⟩)) HQ
    |exact aB e rfl .n (Or.inr (Or.inr ⟨by omega,Qn.rfl⟩)) HQ
end
theorem iC.dY {j}{i:Int}{q:Nat}{σ lo}(h:iC j i q σ lo)(ho:σ.over=true):∃w th,σ=.d w 0∧Me.ar w∧lo=[.obj q (.row (j.row i w Nf th 0))]:=by
 cases h with
 |a=>cases ho
 |d hw=>exact⟨_,_,rfl,hw,rfl⟩
def Vj (sv:AV)(L:List (List AV))(uv:AV)(i au:Int)(nn:Bool)(err:Int):bO→AV→List (List AV)→AV→Int→Int→Int→Bool→Int→Prop
 |.d w _=>fun aM L' b7 i' aI aJ cJ aF=>Qe sv L uv i w au nn err () aM L' b7 i' aI aJ cJ aF
 |_=>fun _ _ _ _ _ _ _ _=>False
instance XB:mi EM 481 "Step" 704:=⟨fun _=>by kernel_rfl⟩
instance XC:va EM 439 481:=⟨fun _=>by kernel_rfl⟩
instance z59:cF 398 where
instance z60:cF 400 where
inductive H_ (q:Nat):List AV→List Own→Prop
 |mk {b1 b2 b3 b4 v1 v2:Nat}:H_ q [.ptr b1 0,.ptr b2 0,.ptr b3 0,.ptr b4 0] (dp b1 b2 b3 b4 (.fn (.func 398) [] [.ptr v1 0]) Np (.fn (.func 400) [] [.ptr v1 0,.ptr v2 0]) false++[.obj v1 (.row [.ptr q 0]),.obj v2 (.row [Nf])])
inductive Db (x:Xc)(i:Int)(q:Nat)(cl:List AV):bO→List Own→Prop
 |f {lo}(hi:0≤i∧i<x.j.f.size)(h:H_ q cl lo):Db x i q cl .a lo
 |r {b1 b2 b3 b4 qm v1 v2:Nat}{mk σ lm}(dw:cl=[.ptr b1 0,.ptr b2 0,.ptr b3 0,.ptr b4 0])(h:iC x.j i qm σ lm)(ho:σ.over=false):Db x i q cl σ (dp b1 b2 b3 b4 mk (.ptr qm 0) (.fn (.func 400) [] [.ptr v1 0,.ptr v2 0]) true++([.obj v1 (.row [.ptr q 0]),.obj v2 (.row [Nf])]++lm))
section
variable{B0 S:AH}{W:List Nat}{R lo:List Own}{ro:List aQ}{m bl q vx:Nat}{y:Me}{rest cl:List AV}{x:Xc}{k c i key au cn err:Int}{nn:Bool}{sv uv:AV}{L:List (List AV)}
theorem Ia {σ}(h1:ep sv=false)(h2:sv.cells=[sv])(h3:AV.beq sv sv=true)(hs:x.j.ok)(hy:y.gd)(h:Db x i q cl σ lo)
  (H:Cx B0 W S (.obj q (.row (x.row k c sv uv i key au nn cn err))::.sl sv 1 L::(lo++(ad m bl y rest++R))) ro):
  aO EM (.fn (.func 496) [] cl) [.ptr m 0] S fun u S'=>∃ab,nF x k c q sv uv L i key au nn cn err (xY (Db x i q cl) bO.over 0 (σ.stepOf x.j i y) (ad m bl · rest) R) (sC bO.over 0 (σ.stepOf x.j i y) (ad m bl · rest) R (Vj sv L uv i au nn err)) u ab∧Cx B0 W S' ab ro:=by
 cases h with
 |f hi h=>
  cases h with
  |@mk b1 b2 b3 b4 v1 v2=>
   refine Vx.fm H nG (b:=Tryz.a496) ?_;(repeat' first|constructor|exact ZQ|intro _);all_goals apply zL
   next qm lm hm=>
   refine Vx.cb (own:=.obj q _::.sl sv 1 _::.obj b1 _::.obj b2 _::.obj b3 _::.obj b4 _::.obj v1 _::.obj v2 _::(lm++(ad m bl y rest++R))) HQ ?_
   refine Vx.cf (A:=[_,_,_,_,_,_,_,_]) (fun B W S H=>iV hs hy hm H) fun a' x' l' e hl=>?_
   cases ho:a'.over
   ·skip
    (repeat' first|constructor|exact ZQ|intro _)
    all_goals apply zL
    exact bP e (.r rfl hl ho) ho HQ
   ·obtain⟨w,th,rfl,hw,rfl⟩:=hl.dY ho
    simp only[Jb.row,lA,lB]
    (repeat' first|constructor|exact ZQ|intro _)
    all_goals apply zL
    all_goals exact aB e rfl (.s h1 h2 h3) (Qe.rfl (a:=())) HQ
 |@r b1 b2 b3 b4 qm v1 v2 mk σ lm dw h ho=>
  subst dw
  refine Vx.fm H nG (b:=Tryz.a496) ?_;(repeat' first|constructor|exact ZQ|intro _);all_goals apply zL
  refine Vx.cf (A:=[_,_,_,_,_,_,_,_]) (fun B W S H=>iV hs hy h H) fun a' x' l' e hl=>?_
  cases ho:a'.over
  ·skip
   (repeat' first|constructor|exact ZQ|intro _)
   all_goals apply zL
   exact bP e (.r rfl hl ho) ho HQ
  ·obtain⟨w,th,rfl,hw,rfl⟩:=hl.dY ho
   simp only[Jb.row,lA,lB]
   (repeat' first|constructor|exact ZQ|intro _)
   all_goals apply zL
   all_goals exact aB e rfl (.s h1 h2 h3) (Qe.rfl (a:=())) HQ
end
instance getKey {w:Int}:VC EM (zF 402) [U w] (Me.ar w) (.cP [.agg [I (if bU w then 0 else w/72057594037927936),I (if bU w then 0 else w/65536%1099511627776),I (if bU w then 0 else w%65536)],I (if bU w then 5 else 0)]):=.of rfl rfl fun hw=>by
 show Zx EM false (Tryz.a402 _) _ _ _ _
 (repeat' first|constructor|exact ZQ|intro _)
 all_goals apply zL
 ·next h=>
  have hb:bU w:=by unfold bU;omega
  simp only[if_pos hb]
  exact⟨trivial,rfl⟩
 ·next h=>
  have hb:¬bU w:=by unfold bU;omega
  simp only[if_neg hb]
  exact⟨trivial,rfl⟩
def Pu (sv:AV)(L:List (List AV))(uv:AV)(i au:Int)(nn:Bool)(err:Int):bO→AV→List (List AV)→AV→Int→Int→Int→Bool→Int→Prop
 |.d w _=>fun aM L' b7 i' aI aJ cJ aF=>(¬bU w∧Qe sv L uv i w au nn err () aM L' b7 i' aI aJ cJ aF)∨(bU w∧Qn uv i w au nn 5 aM L' b7 i' aI aJ cJ aF)
 |_=>fun _ _ _ _ _ _ _ _=>False
def Pv (sv:AV)(L:List (List AV))(uv:AV)(i au:Int)(nn:Bool)(err:Int):bO→AV→List (List AV)→AV→Int→Int→Int→Bool→Int→Prop
 |.d w _=>fun aM L' b7 i' aI aJ cJ aF=>(¬bU w∧w%65536≠65535∧Qe sv L uv i w au nn err () aM L' b7 i' aI aJ cJ aF)∨(¬bU w∧w%65536=65535∧Qn uv i w au nn 12 aM L' b7 i' aI aJ cJ aF)∨(bU w∧Qn uv i w au nn 5 aM L' b7 i' aI aJ cJ aF)
 |_=>fun _ _ _ _ _ _ _ _=>False
instance z61:cF 284 where
inductive Cd (vx:Nat)(q:Nat):List AV→List Own→Prop
 |mk {b1 b2 b3 b4 v1 v2:Nat}:Cd vx q [.ptr b1 0,.ptr b2 0,.ptr b3 0,.ptr b4 0] (dp b1 b2 b3 b4 (.fn (.func 398) [] [.ptr v1 0]) Np (.fn (.func 400) [] [.ptr v1 0,.ptr v2 0]) false++[.obj v1 (.row [.ptr q 0]),.obj v2 (.row [.fn (.func 284) [] [.ptr vx 0]])])
inductive pX (x:Xc)(vx:Nat)(i:Int)(q:Nat)(cl:List AV):bO→List Own→Prop
 |f {lo}(hi:0≤i∧i<x.j.f.size)(h:Cd vx q cl lo):pX x vx i q cl .a lo
 |r {b1 b2 b3 b4 qm v1 v2:Nat}{mk σ lm}(dw:cl=[.ptr b1 0,.ptr b2 0,.ptr b3 0,.ptr b4 0])(h:iC x.j i qm σ lm)(ho:σ.over=false):pX x vx i q cl σ (dp b1 b2 b3 b4 mk (.ptr qm 0) (.fn (.func 400) [] [.ptr v1 0,.ptr v2 0]) true++([.obj v1 (.row [.ptr q 0]),.obj v2 (.row [.fn (.func 284) [] [.ptr vx 0]])]++lm))
section
variable{B0 S:AH}{W:List Nat}{R lo:List Own}{ro:List aQ}{m bl q vx:Nat}{y:Me}{rest cl:List AV}{x:Xc}{k c i key au cn err:Int}{nn:Bool}{sv uv:AV}{L:List (List AV)}
theorem Gf {σ}(h1:ep sv=false)(h2:sv.cells=[sv])(h3:AV.beq sv sv=true)(hs:x.j.ok)(hy:y.gd)(h:pX x vx i q cl σ lo)
  (H:Cx B0 W S (.obj q (.row (x.row k c sv uv i key au nn cn err))::.sl sv 1 L::(lo++(ad m bl y rest++(.obj vx (.row [.ptr q 0])::R)))) ro):
  aO EM (.fn (.func 496) [] cl) [.ptr m 0] S fun u S'=>∃ab,nF x k c q sv uv L i key au nn cn err (xY (pX x vx i q cl) bO.over 0 (σ.stepOf x.j i y) (ad m bl · rest) (.obj vx (.row [.ptr q 0])::R)) (sC bO.over 0 (σ.stepOf x.j i y) (ad m bl · rest) (.obj vx (.row [.ptr q 0])::R) (Pu sv L uv i au nn err)) u ab∧Cx B0 W S' ab ro:=by
 cases h with
 |f hi h=>
  cases h with
  |@mk b1 b2 b3 b4 v1 v2=>
   refine Vx.fm H nG (b:=Tryz.a496) ?_;(repeat' first|constructor|exact ZQ|intro _);all_goals apply zL
   next qm lm hm=>
   refine Vx.cb (own:=.obj q _::.sl sv 1 _::.obj b1 _::.obj b2 _::.obj b3 _::.obj b4 _::.obj v1 _::.obj v2 _::(lm++(ad m bl y rest++(.obj vx (.row [.ptr q 0])::R)))) HQ ?_
   refine Vx.cf (A:=[_,_,_,_,_,_,_,_]) (fun B W S H=>iV hs hy hm H) fun a' x' l' e hl=>?_
   cases ho:a'.over
   ·skip
    (repeat' first|constructor|exact ZQ|intro _)
    all_goals apply zL
    exact bP e (.r rfl hl ho) ho HQ
   ·obtain⟨w,th,rfl,hw,rfl⟩:=hl.dY ho
    simp only[Jb.row,lA,lB]
    (repeat' first|constructor|exact ZQ|intro _)
    all_goals apply zL
    all_goals by_cases hb:bU w
    all_goals by_cases hc:w%65536=65535
    all_goals first
     |(exfalso;simp only[if_pos hb] at*;omega)
     |(exfalso;simp only[if_neg hb] at*;omega)
     |exact aB e rfl (.s h1 h2 h3) (Or.inl ⟨hb,Qe.rfl (a:=())⟩) HQ
     |exact aB e rfl .n (Or.inr ⟨hb,Qn.rfl⟩) HQ
 |@r b1 b2 b3 b4 qm v1 v2 mk σ lm dw h ho=>
  subst dw
  refine Vx.fm H nG (b:=Tryz.a496) ?_;(repeat' first|constructor|exact ZQ|intro _);all_goals apply zL
  refine Vx.cf (A:=[_,_,_,_,_,_,_,_]) (fun B W S H=>iV hs hy h H) fun a' x' l' e hl=>?_
  cases ho:a'.over
  ·skip
   (repeat' first|constructor|exact ZQ|intro _)
   all_goals apply zL
   exact bP e (.r rfl hl ho) ho HQ
  ·obtain⟨w,th,rfl,hw,rfl⟩:=hl.dY ho
   simp only[Jb.row,lA,lB]
   (repeat' first|constructor|exact ZQ|intro _)
   all_goals apply zL
   all_goals by_cases hb:bU w
   all_goals by_cases hc:w%65536=65535
   all_goals first
    |(exfalso;simp only[if_pos hb] at*;omega)
    |(exfalso;simp only[if_neg hb] at*;omega)
    |exact aB e rfl (.s h1 h2 h3) (Or.inl ⟨hb,Qe.rfl (a:=())⟩) HQ
    |exact aB e rfl .n (Or.inr ⟨hb,Qn.rfl⟩) HQ
end
instance z62:cF 428 where
inductive Gg (vx:Nat)(q:Nat):List AV→List Own→Prop
 |mk {b1 b2 b3 b4 v1 v2:Nat}:Gg vx q [.ptr b1 0,.ptr b2 0,.ptr b3 0,.ptr b4 0] (dp b1 b2 b3 b4 (.fn (.func 398) [] [.ptr v1 0]) Np (.fn (.func 400) [] [.ptr v1 0,.ptr v2 0]) false++[.obj v1 (.row [.ptr q 0]),.obj v2 (.row [.fn (.func 428) [] [.ptr vx 0]])])
inductive pY (x:Xc)(vx:Nat)(i:Int)(q:Nat)(cl:List AV):bO→List Own→Prop
 |f {lo}(hi:0≤i∧i<x.j.f.size)(h:Gg vx q cl lo):pY x vx i q cl .a lo
 |r {b1 b2 b3 b4 qm v1 v2:Nat}{mk σ lm}(dw:cl=[.ptr b1 0,.ptr b2 0,.ptr b3 0,.ptr b4 0])(h:iC x.j i qm σ lm)(ho:σ.over=false):pY x vx i q cl σ (dp b1 b2 b3 b4 mk (.ptr qm 0) (.fn (.func 400) [] [.ptr v1 0,.ptr v2 0]) true++([.obj v1 (.row [.ptr q 0]),.obj v2 (.row [.fn (.func 428) [] [.ptr vx 0]])]++lm))
section
variable{B0 S:AH}{W:List Nat}{R lo:List Own}{ro:List aQ}{m bl q vx:Nat}{y:Me}{rest cl:List AV}{x:Xc}{k c i key au cn err:Int}{nn:Bool}{sv uv:AV}{L:List (List AV)}
theorem Gh {σ}(h1:ep sv=false)(h2:sv.cells=[sv])(h3:AV.beq sv sv=true)(hs:x.j.ok)(hy:y.gd)(h:pY x vx i q cl σ lo)
  (H:Cx B0 W S (.obj q (.row (x.row k c sv uv i key au nn cn err))::.sl sv 1 L::(lo++(ad m bl y rest++(.obj vx (.row [.ptr q 0])::R)))) ro):
  aO EM (.fn (.func 496) [] cl) [.ptr m 0] S fun u S'=>∃ab,nF x k c q sv uv L i key au nn cn err (xY (pY x vx i q cl) bO.over 0 (σ.stepOf x.j i y) (ad m bl · rest) (.obj vx (.row [.ptr q 0])::R)) (sC bO.over 0 (σ.stepOf x.j i y) (ad m bl · rest) (.obj vx (.row [.ptr q 0])::R) (Pv sv L uv i au nn err)) u ab∧Cx B0 W S' ab ro:=by
 cases h with
 |f hi h=>
  cases h with
  |@mk b1 b2 b3 b4 v1 v2=>
   refine Vx.fm H nG (b:=Tryz.a496) ?_;(repeat' first|constructor|exact ZQ|intro _);all_goals apply zL
   next qm lm hm=>
   refine Vx.cb (own:=.obj q _::.sl sv 1 _::.obj b1 _::.obj b2 _::.obj b3 _::.obj b4 _::.obj v1 _::.obj v2 _::(lm++(ad m bl y rest++(.obj vx (.row [.ptr q 0])::R)))) HQ ?_
   refine Vx.cf (A:=[_,_,_,_,_,_,_,_]) (fun B W S H=>iV hs hy hm H) fun a' x' l' e hl=>?_
   cases ho:a'.over
   ·skip
    (repeat' first|constructor|exact ZQ|intro _)
    all_goals apply zL
    exact bP e (.r rfl hl ho) ho HQ
   ·obtain⟨w,th,rfl,hw,rfl⟩:=hl.dY ho
    simp only[Jb.row,lA,lB]
    (repeat' first|constructor|exact ZQ|intro _)
    all_goals apply zL
    all_goals by_cases hb:bU w
    all_goals by_cases hc:w%65536=65535
    all_goals first
     |(exfalso;simp only[if_pos hb] at*;omega)
     |(exfalso;simp only[if_neg hb] at*;omega)
     |exact aB e rfl (.s h1 h2 h3) (Or.inl ⟨hb,hc,Qe.rfl (a:=())⟩) HQ
     |exact aB e rfl .n (Or.inr (Or.inl ⟨hb,hc,Qn.rfl⟩)) HQ
     |exact aB e rfl .n (Or.inr (Or.inr ⟨hb,Qn.rfl⟩)) HQ
 |@r b1 b2 b3 b4 qm v1 v2 mk σ lm dw h ho=>
  subst dw
  refine Vx.fm H nG (b:=Tryz.a496) ?_;(repeat' first|constructor|exact ZQ|intro _);all_goals apply zL
  refine Vx.cf (A:=[_,_,_,_,_,_,_,_]) (fun B W S H=>iV hs hy h H) fun a' x' l' e hl=>?_
  cases ho:a'.over
  ·skip
   (repeat' first|constructor|exact ZQ|intro _)
   all_goals apply zL
   exact bP e (.r rfl hl ho) ho HQ
  ·obtain⟨w,th,rfl,hw,rfl⟩:=hl.dY ho
   simp only[Jb.row,lA,lB]
   (repeat' first|constructor|exact ZQ|intro _)
   all_goals apply zL
   all_goals by_cases hb:bU w
   all_goals by_cases hc:w%65536=65535
   all_goals first
    |(exfalso;simp only[if_pos hb] at*;omega)
    |(exfalso;simp only[if_neg hb] at*;omega)
    |exact aB e rfl (.s h1 h2 h3) (Or.inl ⟨hb,hc,Qe.rfl (a:=())⟩) HQ
    |exact aB e rfl .n (Or.inr (Or.inl ⟨hb,hc,Qn.rfl⟩)) HQ
    |exact aB e rfl .n (Or.inr (Or.inr ⟨hb,Qn.rfl⟩)) HQ
end
end
section
instance z63:cF 407 where
theorem ic.vq {t}{c key aq high:Int}{q:Nat}{b:Int}{σ lo}(h:ic t c key aq high q b σ lo):∃p vp er n ref lf,lo=.obj q (.row (t.ga c p vp b er key aq high n ref))::lf:=by
 cases h<;>exact⟨_,_,_,_,_,_,rfl⟩
theorem ic.dY {t}{c key aq high:Int}{q:Nat}{b:Int}{σ lo}(h:ic t c key aq high q b σ lo)(ho:σ.over=true):∃p vp er n ref,σ=.d er∧lo=[.obj q (.row (t.ga c p vp b er key aq high n ref)),.sl vp 1 []]:=by
 cases h<;>first|(cases ho;done)|exact⟨_,_,_,_,_,rfl,rfl⟩|(exfalso;simp_all[aV.over];done)
def Pw (U:List (List AV))(sv:AV)(L:List (List AV))(uv:AV)(i key au:Int)(nn:Bool)(err:Int):aV→AV→List (List AV)→AV→Int→Int→Int→Bool→Int→Prop
 |.d e=>fun aM L' b7 i' aI aJ cJ aF=>(e=0∧Qe sv L uv i key au nn err () aM L' b7 i' aI aJ cJ aF)∨(e≠0∧Qf U uv i key au nn e aM L' b7 i' aI aJ cJ aF)
 |_=>fun _ _ _ _ _ _ _ _=>False
instance Vk:mi EM 486 "Step" 706:=⟨fun _=>by kernel_rfl⟩
instance Vl:HW EM 439 486:=⟨fun _=>by kernel_rfl⟩
instance Vm:mi EM 486 "By" 705:=⟨fun _=>by kernel_rfl⟩
instance z64 {n:Nat}[Mn n [705,286,404,406]]:cF n where
inductive Ce (vx:Nat)(high:Int)(q:Nat):List AV→List Own→Prop
 |mk {b1 b2 b3 b4 v1 v2 v3:Nat}:Ce vx high q [.ptr b1 0,.ptr b2 0,.ptr b3 0,.ptr b4 0] (dp b1 b2 b3 b4 (.fn (.func 404) [] [.ptr v1 0,.ptr v2 0,.ptr v3 0]) Np (.fn (.func 406) [] [.ptr v1 0]) false++[.obj v1 (.row [.ptr q 0]),.obj v2 (.row [.fn (.func 286) [] [.ptr vx 0]]),.obj v3 (.row [I high])])
inductive wo (x:Xc)(c i key high:Int)(vx:Nat)(q:Nat)(cl:List AV):aV→List Own→Prop
 |f {lo}(h:Ce vx high q cl lo):wo x c i key high vx q cl (.p .a 0) lo
 |r {b1 b2 b3 b4 qm v1 v2 v3:Nat}{b:Int}{mk σ lm}(dw:cl=[.ptr b1 0,.ptr b2 0,.ptr b3 0,.ptr b4 0])(h:ic x.t c key i high qm b σ lm)(ho:σ.over=false):wo x c i key high vx q cl σ (dp b1 b2 b3 b4 mk (.ptr qm 0) (.fn (.func 406) [] [.ptr v1 0]) true++([.obj v1 (.row [.ptr q 0]),.obj v2 (.row [.fn (.func 286) [] [.ptr vx 0]]),.obj v3 (.row [I high])]++lm))
section
variable{B0 S:AH}{W:List Nat}{R lo:List Own}{ro:List aQ}{m bl q vx:Nat}{y:Me}{rest cl:List AV}{x:Xc}{k c i key au cn err:Int}{nn:Bool}{sv uv:AV}{L:List (List AV)}{high:Int}{U:List (List AV)}
theorem Gi {σ}(h1:ep sv=false)(h2:sv.cells=[sv])(h3:AV.beq sv sv=true)(hU:U.length≤64)(hs:x.t.ok)(hc:0≤c∧c<x.t.l.e.ah)(hk:0≤key∧key<18446744073709551615)(sB:(0≤i∧i≤65534)∧1≤high∧high≤x.t.ht)(hy:y.gd)(h:wo x c i key high vx q cl σ lo)
  (H:Cx B0 W S (.obj q (.row (x.row k c sv uv i key au nn cn err))::.sl sv 1 L::(lo++(ad m bl y rest++(.sl uv 1 U::.obj vx (.row [.ptr q 0])::R)))) ro):
  aO EM (.fn (.func 499) [] cl) [.ptr m 0] S fun u S'=>∃ab,nF x k c q sv uv L i key au nn cn err (xY (wo x c i key high vx q cl) aV.over (σ.cz x.t key) (σ.step x.t c key i high y) (ad m bl · rest) (.sl uv 1 U::.obj vx (.row [.ptr q 0])::R)) (sC aV.over (σ.cz x.t key) (σ.step x.t c key i high y) (ad m bl · rest) (.sl uv 1 U::.obj vx (.row [.ptr q 0])::R) (Pw U sv L uv i key au nn err)) u ab∧Cx B0 W S' ab ro:=by
 have La:((0≤x.t.nd∧x.t.nd<4096)∧(0≤x.t.hd∧x.t.hd<4096)∧(1≤x.t.ht∧x.t.ht≤4)∧1≤x.t.l.a.f.size∧x.t.l.a.f.size≤128)∧(0≤c∧c<x.t.l.e.ah)∧(0≤key∧key<18446744073709551615)∧(0≤i∧i≤65534)∧1≤high∧high≤x.t.ht:=by
  have bn:=hs
  unfold Tw.ok Lb.ok Ar.ok Sk.ok at bn
  exact⟨by omega,hc,hk,sB⟩
 cases h with
 |f h=>
  cases h with
  |@mk b1 b2 b3 b4 v1 v2 v3=>
   refine Vx.fm H nG (b:=Tryz.a499) ?_;(repeat' first|constructor|exact ZQ|intro _);all_goals apply zL
   next qm lm hm=>
   refine Vx.cb (own:=.obj q _::.sl sv 1 _::.obj b1 _::.obj b2 _::.obj b3 _::.obj b4 _::.obj v1 _::.obj v2 _::.obj v3 _::(lm++(ad m bl y rest++(.sl uv 1 U::.obj vx (.row [.ptr q 0])::R)))) HQ ?_
   refine Vx.cf (A:=[_,_,_,_,_,_,_,_,_]) (fun B W S H=>sA hs hc sB hy (by first|assumption|rfl) (by unfold Me.ar;omega) hm H) fun a' x' l' e hl=>?_
   cases ho:a'.over
   ·obtain⟨p,vp,er,n,ref,lf,rfl⟩:=hl.vq
    (repeat' first|constructor|exact ZQ|intro _)
    all_goals apply zL
    exact bP e (.r rfl hl ho) ho HQ
   ·obtain⟨p,vp,er,n,ref,rfl,rfl⟩:=hl.dY ho
    simp only[Tw.ga,Tw.qI,Tw.cs,Lb.cs,Ar.cs,Ep.cs,lA,lB]
    (repeat' first|constructor|exact ZQ|intro _)
    all_goals apply zL
    all_goals first
     |exact aB e rfl (.s h1 h2 h3) (Or.inl ⟨by omega,Qe.rfl (a:=())⟩) HQ
     |exact aB e rfl (.s (by assumption) (by assumption) (by assumption)) (Or.inr ⟨by omega,Qf.rfl⟩) HQ
 |@r b1 b2 b3 b4 qm v1 v2 v3 b mk σ lm dw h ho=>
  subst dw
  refine Vx.fm H nG (b:=Tryz.a499) ?_;(repeat' first|constructor|exact ZQ|intro _);all_goals apply zL
  refine Vx.cf (A:=[_,_,_,_,_,_,_,_,_]) (fun B W S H=>sA hs hc sB hy (by first|assumption|rfl) (by unfold Me.ar;omega) h H) fun a' x' l' e hl=>?_
  cases ho:a'.over
  ·obtain⟨p,vp,er,n,ref,lf,rfl⟩:=hl.vq
   (repeat' first|constructor|exact ZQ|intro _)
   all_goals apply zL
   exact bP e (.r rfl hl ho) ho HQ
  ·obtain⟨p,vp,er,n,ref,rfl,rfl⟩:=hl.dY ho
   simp only[Tw.ga,Tw.qI,Tw.cs,Lb.cs,Ar.cs,Ep.cs,lA,lB]
   (repeat' first|constructor|exact ZQ|intro _)
   all_goals apply zL
   all_goals first
    |exact aB e rfl (.s h1 h2 h3) (Or.inl ⟨by omega,Qe.rfl (a:=())⟩) HQ
    |exact aB e rfl (.s (by assumption) (by assumption) (by assumption)) (Or.inr ⟨by omega,Qf.rfl⟩) HQ
end
inductive zl (vx:Nat)(high:Int)(q:Nat):List AV→List Own→Prop
 |mk {b1 b2 b3 b4 v1 v2 v3:Nat}:zl vx high q [.ptr b1 0,.ptr b2 0,.ptr b3 0,.ptr b4 0] (dp b1 b2 b3 b4 (.fn (.func 404) [] [.ptr v1 0,.ptr v2 0,.ptr v3 0]) Np (.fn (.func 406) [] [.ptr v1 0]) false++[.obj v1 (.row [.ptr q 0]),.obj v2 (.row [.fn (.func 425) [] [.ptr vx 0]]),.obj v3 (.row [I high])])
inductive wq (x:Xc)(c i key high:Int)(vx:Nat)(q:Nat)(cl:List AV):aV→List Own→Prop
 |f {lo}(h:zl vx high q cl lo):wq x c i key high vx q cl (.p .a 0) lo
 |r {b1 b2 b3 b4 qm v1 v2 v3:Nat}{b:Int}{mk σ lm}(dw:cl=[.ptr b1 0,.ptr b2 0,.ptr b3 0,.ptr b4 0])(h:ic x.t c ((key+1)%18446744073709551616) i high qm b σ lm)(ho:σ.over=false):wq x c i key high vx q cl σ (dp b1 b2 b3 b4 mk (.ptr qm 0) (.fn (.func 406) [] [.ptr v1 0]) true++([.obj v1 (.row [.ptr q 0]),.obj v2 (.row [.fn (.func 425) [] [.ptr vx 0]]),.obj v3 (.row [I high])]++lm))
section
variable{B0 S:AH}{W:List Nat}{R lo:List Own}{ro:List aQ}{m bl q vx:Nat}{y:Me}{rest cl:List AV}{x:Xc}{k c i key au cn err:Int}{nn:Bool}{sv uv:AV}{L:List (List AV)}{high:Int}{U:List (List AV)}
theorem Gj {σ}(h1:ep sv=false)(h2:sv.cells=[sv])(h3:AV.beq sv sv=true)(hU:U.length≤64)(hs:x.t.ok)(hc:0≤c∧c<x.t.l.e.ah)(hk:0≤((key+1)%18446744073709551616)∧((key+1)%18446744073709551616)<18446744073709551615)(sB:(0≤i∧i≤65534)∧1≤high∧high≤x.t.ht)(hy:y.gd)(h:wq x c i key high vx q cl σ lo)
  (H:Cx B0 W S (.obj q (.row (x.row k c sv uv i key au nn cn err))::.sl sv 1 L::(lo++(ad m bl y rest++(.sl uv 1 U::.obj vx (.row [.ptr q 0])::R)))) ro):
  aO EM (.fn (.func 499) [] cl) [.ptr m 0] S fun u S'=>∃ab,nF x k c q sv uv L i key au nn cn err (xY (wq x c i key high vx q cl) aV.over (σ.cz x.t ((key+1)%18446744073709551616)) (σ.step x.t c ((key+1)%18446744073709551616) i high y) (ad m bl · rest) (.sl uv 1 U::.obj vx (.row [.ptr q 0])::R)) (sC aV.over (σ.cz x.t ((key+1)%18446744073709551616)) (σ.step x.t c ((key+1)%18446744073709551616) i high y) (ad m bl · rest) (.sl uv 1 U::.obj vx (.row [.ptr q 0])::R) (Pw U sv L uv i key au nn err)) u ab∧Cx B0 W S' ab ro:=by
 have La:((0≤x.t.nd∧x.t.nd<4096)∧(0≤x.t.hd∧x.t.hd<4096)∧(1≤x.t.ht∧x.t.ht≤4)∧1≤x.t.l.a.f.size∧x.t.l.a.f.size≤128)∧(0≤c∧c<x.t.l.e.ah)∧(0≤((key+1)%18446744073709551616)∧((key+1)%18446744073709551616)<18446744073709551615)∧(0≤i∧i≤65534)∧1≤high∧high≤x.t.ht:=by
  have bn:=hs
  unfold Tw.ok Lb.ok Ar.ok Sk.ok at bn
  exact⟨by omega,hc,hk,sB⟩
 cases h with
 |f h=>
  cases h with
  |@mk b1 b2 b3 b4 v1 v2 v3=>
   refine Vx.fm H nG (b:=Tryz.a499) ?_;(repeat' first|constructor|exact ZQ|intro _);all_goals apply zL
   next qm lm hm=>
   refine Vx.cb (own:=.obj q _::.sl sv 1 _::.obj b1 _::.obj b2 _::.obj b3 _::.obj b4 _::.obj v1 _::.obj v2 _::.obj v3 _::(lm++(ad m bl y rest++(.sl uv 1 U::.obj vx (.row [.ptr q 0])::R)))) HQ ?_
   refine Vx.cf (A:=[_,_,_,_,_,_,_,_,_]) (fun B W S H=>sA hs hc sB hy (by first|assumption|rfl) (by unfold Me.ar;omega) hm H) fun a' x' l' e hl=>?_
   cases ho:a'.over
   ·obtain⟨p,vp,er,n,ref,lf,rfl⟩:=hl.vq
    (repeat' first|constructor|exact ZQ|intro _)
    all_goals apply zL
    exact bP e (.r rfl hl ho) ho HQ
   ·obtain⟨p,vp,er,n,ref,rfl,rfl⟩:=hl.dY ho
    simp only[Tw.ga,Tw.qI,Tw.cs,Lb.cs,Ar.cs,Ep.cs,lA,lB]
    (repeat' first|constructor|exact ZQ|intro _)
    all_goals apply zL
    all_goals first
     |exact aB e rfl (.s h1 h2 h3) (Or.inl ⟨by omega,Qe.rfl (a:=())⟩) HQ
     |exact aB e rfl (.s (by assumption) (by assumption) (by assumption)) (Or.inr ⟨by omega,Qf.rfl⟩) HQ
 |@r b1 b2 b3 b4 qm v1 v2 v3 b mk σ lm dw h ho=>
  subst dw
  refine Vx.fm H nG (b:=Tryz.a499) ?_;(repeat' first|constructor|exact ZQ|intro _);all_goals apply zL
  refine Vx.cf (A:=[_,_,_,_,_,_,_,_,_]) (fun B W S H=>sA hs hc sB hy (by first|assumption|rfl) (by unfold Me.ar;omega) h H) fun a' x' l' e hl=>?_
  cases ho:a'.over
  ·obtain⟨p,vp,er,n,ref,lf,rfl⟩:=hl.vq
   (repeat' first|constructor|exact ZQ|intro _)
   all_goals apply zL
   exact bP e (.r rfl hl ho) ho HQ
  ·obtain⟨p,vp,er,n,ref,rfl,rfl⟩:=hl.dY ho
   simp only[Tw.ga,Tw.qI,Tw.cs,Lb.cs,Ar.cs,Ep.cs,lA,lB]
   (repeat' first|constructor|exact ZQ|intro _)
   all_goals apply zL
   all_goals first
    |exact aB e rfl (.s h1 h2 h3) (Or.inl ⟨by omega,Qe.rfl (a:=())⟩) HQ
    |exact aB e rfl (.s (by assumption) (by assumption) (by assumption)) (Or.inr ⟨by omega,Qf.rfl⟩) HQ
end
instance z65:cF 517 where
theorem zd.vq {t}{c:Int}{q:Nat}{b:Int}{σ lo}(h:zd t c q b σ lo):∃p vp key aq e lf,lo=.obj q (.row (t.jj c p vp b 0 key aq e))::lf:=by
 cases h<;>exact⟨_,_,_,_,_,_,rfl⟩
theorem zd.dY {t}{c:Int}{q:Nat}{b:Int}{σ lo}(h:zd t c q b σ lo)(ho:σ.over=true):∃p vp key aq e,σ=.d key aq e∧lo=[.obj q (.row (t.jj c p vp b 0 key aq e)),.sl vp 1 []]:=by
 cases h<;>first|(cases ho;done)|exact⟨_,_,_,_,_,rfl,rfl⟩|(exfalso;simp_all[dK.over];done)
def ZO (k size:Int)(sv:AV)(L:List (List AV))(uv:AV)(au:Int)(nn:Bool)(err:Int):dK→AV→List (List AV)→AV→Int→Int→Int→Bool→Int→Prop
 |.d key aq e=>fun aM L' b7 i' aI aJ cJ aF=>(e=0∧0≤aq∧aq<size∧Qe sv L uv aq key au nn err () aM L' b7 i' aI aJ cJ aF)∨(e=0∧(aq<0∨size≤aq)∧Qn uv aq key au nn 5 aM L' b7 i' aI aJ cJ aF)∨(e≠0∧k=4∧Qn uv aq key au true 0 aM L' b7 i' aI aJ cJ aF)∨(e≠0∧k≠4∧Qn uv aq key au nn 15 aM L' b7 i' aI aJ cJ aF)
 |_=>fun _ _ _ _ _ _ _ _=>False
instance Vn:mi EM 501 "Step" 719:=⟨fun _=>by kernel_rfl⟩
instance Vo:HW EM 439 501:=⟨fun _=>by kernel_rfl⟩
instance Vp:mi EM 501 "By" 718:=⟨fun _=>by kernel_rfl⟩
instance z66 {n:Nat}[Mn n [718,417,419]]:cF n where
inductive zm (vx:Nat)(q:Nat):List AV→List Own→Prop
 |mk {b1 b2 b3 b4:Nat}:zm vx q [.ptr b1 0,.ptr b2 0,.ptr b3 0,.ptr b4 0] (dp b1 b2 b3 b4 (.fn (.func 417) [] [.ptr vx 0]) Np (.fn (.func 419) [.ptr q 0] []) false++[])
inductive wt (x:Xc)(c:Int)(vx:Nat)(q:Nat)(cl:List AV):dK→List Own→Prop
 |f {lo}(h:zm vx q cl lo):wt x c vx q cl (.p .a) lo
 |r {b1 b2 b3 b4 qm:Nat}{b:Int}{mk σ lm}(dw:cl=[.ptr b1 0,.ptr b2 0,.ptr b3 0,.ptr b4 0])(h:zd x.t c qm b σ lm)(ho:σ.over=false):wt x c vx q cl σ (dp b1 b2 b3 b4 mk (.ptr qm 0) (.fn (.func 419) [.ptr q 0] []) true++([]++lm))
section
variable{B0 S:AH}{W:List Nat}{R lo:List Own}{ro:List aQ}{m bl q vx:Nat}{y:Me}{rest cl:List AV}{x:Xc}{k c i key au cn err:Int}{nn:Bool}{sv uv:AV}{L:List (List AV)}
theorem Gk {σ}(h1:ep sv=false)(h2:sv.cells=[sv])(h3:AV.beq sv sv=true)(hs:x.t.ok)(hc:0≤c∧c<x.t.l.e.ah)(hy:y.gd)(h:wt x c vx q cl σ lo)
  (H:Cx B0 W S (.obj q (.row (x.row k c sv uv i key au nn cn err))::.sl sv 1 L::(lo++(ad m bl y rest++(.obj vx (.row [.ptr q 0])::R)))) ro):
  aO EM (.fn (.func 510) [] cl) [.ptr m 0] S fun u S'=>∃ab,nF x k c q sv uv L i key au nn cn err (xY (wt x c vx q cl) dK.over σ.cz (σ.step x.t c false y) (ad m bl · rest) (.obj vx (.row [.ptr q 0])::R)) (sC dK.over σ.cz (σ.step x.t c false y) (ad m bl · rest) (.obj vx (.row [.ptr q 0])::R) (ZO k x.j.f.size sv L uv au nn err)) u ab∧Cx B0 W S' ab ro:=by
 have La:((0≤x.t.nd∧x.t.nd<4096)∧(0≤x.t.hd∧x.t.hd<4096)∧(1≤x.t.ht∧x.t.ht≤4)∧1≤x.t.l.a.f.size∧x.t.l.a.f.size≤128)∧0≤c∧c<x.t.l.e.ah:=by
  have bn:=hs
  unfold Tw.ok Lb.ok Ar.ok Sk.ok at bn
  exact⟨by omega,hc⟩
 cases h with
 |f h=>
  cases h with
  |@mk b1 b2 b3 b4=>
   refine Vx.fm H nG (b:=Tryz.a510) ?_;(repeat' first|constructor|exact ZQ|intro _);all_goals apply zL
   next qm lm hm=>
   refine Vx.cb (own:=.obj q _::.sl sv 1 _::.obj b1 _::.obj b2 _::.obj b3 _::.obj b4 _::(lm++(ad m bl y rest++(.obj vx (.row [.ptr q 0])::R)))) HQ ?_
   refine Vx.cf (A:=[_,_,_,_,_,_]) (fun B W S H=>ze hs hc hy (by first|assumption|rfl) hm H) fun a' x' l' e hl=>?_
   cases ho:a'.over
   ·obtain⟨p,vp,ky,aq,er,lf,rfl⟩:=hl.vq
    (repeat' first|constructor|exact ZQ|intro _)
    all_goals apply zL
    exact bP e (.r rfl hl ho) ho HQ
   ·obtain⟨p,vp,ky,aq,er,rfl,rfl⟩:=hl.dY ho
    simp only[Tw.jj,Tw.qI,Tw.cs,Lb.cs,Ar.cs,Ep.cs,lA,lB]
    (repeat' first|constructor|exact ZQ|intro _)
    all_goals apply zL
    all_goals first
     |exact aB e rfl (.s h1 h2 h3) (Or.inl ⟨by omega,by omega,by omega,Qe.rfl (a:=())⟩) HQ
     |exact aB e rfl .n (Or.inr (Or.inl ⟨by omega,by omega,Qn.rfl⟩)) HQ
     |exact aB e rfl .n (Or.inr (Or.inr (Or.inl ⟨by omega,by omega,Qn.rfl⟩))) HQ
     |exact aB e rfl .n (Or.inr (Or.inr (Or.inr ⟨by omega,by omega,Qn.rfl⟩))) HQ
 |@r b1 b2 b3 b4 qm b mk σ lm dw h ho=>
  subst dw
  refine Vx.fm H nG (b:=Tryz.a510) ?_;(repeat' first|constructor|exact ZQ|intro _);all_goals apply zL
  refine Vx.cf (A:=[_,_,_,_,_,_]) (fun B W S H=>ze hs hc hy (by first|assumption|rfl) h H) fun a' x' l' e hl=>?_
  cases ho:a'.over
  ·obtain⟨p,vp,ky,aq,er,lf,rfl⟩:=hl.vq
   (repeat' first|constructor|exact ZQ|intro _)
   all_goals apply zL
   exact bP e (.r rfl hl ho) ho HQ
  ·obtain⟨p,vp,ky,aq,er,rfl,rfl⟩:=hl.dY ho
   simp only[Tw.jj,Tw.qI,Tw.cs,Lb.cs,Ar.cs,Ep.cs,lA,lB]
   (repeat' first|constructor|exact ZQ|intro _)
   all_goals apply zL
   all_goals first
    |exact aB e rfl (.s h1 h2 h3) (Or.inl ⟨by omega,by omega,by omega,Qe.rfl (a:=())⟩) HQ
    |exact aB e rfl .n (Or.inr (Or.inl ⟨by omega,by omega,Qn.rfl⟩)) HQ
    |exact aB e rfl .n (Or.inr (Or.inr (Or.inl ⟨by omega,by omega,Qn.rfl⟩))) HQ
    |exact aB e rfl .n (Or.inr (Or.inr (Or.inr ⟨by omega,by omega,Qn.rfl⟩))) HQ
end
end
end Go.cY
