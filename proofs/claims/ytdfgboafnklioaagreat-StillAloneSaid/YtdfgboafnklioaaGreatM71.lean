/- Contracts of functions, over the abstract machine. Conditions: stated in each theorem. -/
import Derived.Test.YtdfgboafnklioaaGreatM70
set_option linter.all false
set_option maxRecDepth 100000
set_option maxHeartbeats 4000000
namespace Go.cY
open Go.Proofs
section
instance aan:cF 364 where
instance aao:cF 165 where
section
variable{B0 S:AH}{W:List Nat}{R R0:List Own}{ro:List aQ}{m:Nat}{y:Me}{vm:AV}
theorem IJ {a b c:Int}(hs:(Sk.mk a b c).ok)(hy:y.gd)(hn:y.n≤1000000000000000)(H:Cx B0 W S (aj m vm y++R) ro):
  aO EM (zF 166) [.agg [I a,I b,I c],.ptr m 0] S fun u S'=>∃ab,(u=uv∧ab=aj m vm ((Sk.mk a b c).fill y)++R)∧Cx B0 W S' ab ro:=by
 have bn:=hs
 unfold Sk.ok at bn
 dsimp only at bn
 unfold Sk.fill
 dsimp only
 have hg:=Gd.st (a:=a) (w:=1) (by unfold Me.ar;omega) y hy (by omega)
 have CV:(y.st a 1).n≤y.n+1:=hg.2.1
 have g1:(y.st a 1).gd:=hg.1
 have uA:∀i:Nat,i≤c.toNat→(rep (fun i y=>y.st (b+i) (if(i:Int)+1=c then 0 else i+2)) i (y.st a 1)).gd:=fun i hi=>(Gd.rep (c:=1) (by omega) i (fun j hj=>Gd.st (by unfold Me.ar;split<;>omega)) (y.st a 1) hg.1 (by omega)).1
 obtain⟨N,rfl⟩:∃N:Nat,c=N+1:=⟨(c-1).toNat,by omega⟩
 refine Vx.fm H rfl (b:=Tryz.a166) ?_
 (repeat' first|constructor|exact ZQ|intro _)
 all_goals apply zL
 (first|refine Vx.forM (C:=fun l=>_::l) (mm:=(aj m vm)) (f:=(fun i y=>y.st (b+i) (if(i:Int)+1=((N:Int)+1) then 0 else i+2))) (Int.toNat (N:Int)) (fun i=>[I (i:Int)]) ?_ ?_|refine Vx.forM (C:=fun l=>_::_::l) (mm:=(aj m vm)) (f:=(fun i y=>y.st (b+i) (if(i:Int)+1=((N:Int)+1) then 0 else i+2))) (Int.toNat (N:Int)) (fun i=>[I (i:Int)]) ?_ ?_|refine Vx.forM (C:=fun l=>_::_::_::l) (mm:=(aj m vm)) (f:=(fun i y=>y.st (b+i) (if(i:Int)+1=((N:Int)+1) then 0 else i+2))) (Int.toNat (N:Int)) (fun i=>[I (i:Int)]) ?_ ?_|refine Vx.forM (C:=fun l=>_::_::_::_::l) (mm:=(aj m vm)) (f:=(fun i y=>y.st (b+i) (if(i:Int)+1=((N:Int)+1) then 0 else i+2))) (Int.toNat (N:Int)) (fun i=>[I (i:Int)]) ?_ ?_|refine Vx.forM (C:=fun l=>_::_::_::_::_::l) (mm:=(aj m vm)) (f:=(fun i y=>y.st (b+i) (if(i:Int)+1=((N:Int)+1) then 0 else i+2))) (Int.toNat (N:Int)) (fun i=>[I (i:Int)]) ?_ ?_|refine Vx.forM (C:=fun l=>_::_::_::_::_::_::l) (mm:=(aj m vm)) (f:=(fun i y=>y.st (b+i) (if(i:Int)+1=((N:Int)+1) then 0 else i+2))) (Int.toNat (N:Int)) (fun i=>[I (i:Int)]) ?_ ?_)
 ·intro i hi gX
  have hi:i<N:=by simpa using hi
  have kT:=uA i (by omega)
  have e1:((i:Int)+2)=(if(i:Int)+1=((N:Int)+1) then 0 else(i:Int)+2):=(if_neg (by omega)).symm
  (repeat' first|constructor|exact ZQ|intro _)
  all_goals apply zL
  all_goals(first|exact gX|(rw[show((i:Int)+2)%18446744073709551616=(if(i:Int)+1=((N:Int)+1) then 0 else(i:Int)+2) by rw[if_neg (by omega)];omega];exact gX)|skip)
 ·have kT:=uA N (by omega)
  rw[Int.toNat_natCast]
  (repeat' first|constructor|exact ZQ|intro _)
  all_goals apply zL
  rw[show((N:Int)+1).toNat=N+1 by omega,show b+((N:Int)+1)-1=b+N by omega]
  have e:rep (fun i y=>y.st (b+i) (if(i:Int)+1=((N:Int)+1) then 0 else i+2)) (N+1) (y.st a 1)=(rep (fun i y=>y.st (b+i) (if(i:Int)+1=((N:Int)+1) then 0 else i+2)) N (y.st a 1)).st (b+N) 0:=by
   show Me.st _ _ (if _ then _ else _)=_
   rw[if_pos rfl]
  rw[e]
  exact⟨rfl,rfl,_,⟨rfl,rfl⟩,HQ⟩
instance Q_ {a b c:Int}:SC EM (zF 166) [.agg [I a,I b,I c],.ptr m 0] (aj m vm y++R0) ((Sk.mk a b c).ok∧bG 1000000000000000 y) uv (aj m vm ((Sk.mk a b c).fill y)++R0):=SC.mk' fun h R ro B W S H=>IJ h.1 h.2.1 h.2.2 H
theorem IK {a b c g w li:Int}(hs:(Ar.mk ⟨a,b,c⟩ g w li).ok)(hy:bG 100000000000000 y)(H:Cx B0 W S (aj m vm y++R) ro):
  aO EM (zF 250) [.agg [I a,I b,I c,I g,I w,I li],.ptr m 0] S fun u S'=>∃ab,(u=uv∧ab=aj m vm ((Ar.mk ⟨a,b,c⟩ g w li).fill y)++R)∧Cx B0 W S' ab ro:=by
 have bn:=hs
 unfold Ar.ok Sk.ok at bn
 dsimp only at bn
 unfold Ar.fill
 dsimp only
 have h1:bG 200000000000000 ((Sk.mk a b c).fill y):=.of (Sk.aX hs.1) hy (by omega) (by omega)
 have h2:bG 300000000000000 (((Sk.mk a b c).fill y).st w 0):=bG.of (c:=1) (f:=fun y=>y.st w 0) (Gd.st w0) h1 (by omega) (by omega)
 have hi:∀i:Nat,i≤c.toNat→bG 400000000000000 (rep (fun i y=>y.st (g+i) 1) i (((Sk.mk a b c).fill y).st w 0)):=fun i hi=>bG.of (c:=i*1) (Gd.rep (c:=1) (by omega) i (fun j hj=>Gd.st (by unfold Me.ar;omega))) h2 (by omega) (by omega)
 have h0:(Sk.mk a b c).ok∧bG 1000000000000000 y:=⟨hs.1,hy.1,by have:=hy.2;omega⟩
 have g1:=h1.1
 refine Vx.fm H rfl (b:=Tryz.a250) ?_
 (repeat' first|constructor|exact ZQ|intro _)
 all_goals apply zL
 (first|refine Vx.forM (C:=fun l=>_::l) (mm:=(aj m vm)) (f:=(fun i y=>y.st (g+i) 1)) (Int.toNat c) (fun i=>[I (i:Int)]) ?_ ?_|refine Vx.forM (C:=fun l=>_::_::l) (mm:=(aj m vm)) (f:=(fun i y=>y.st (g+i) 1)) (Int.toNat c) (fun i=>[I (i:Int)]) ?_ ?_|refine Vx.forM (C:=fun l=>_::_::_::l) (mm:=(aj m vm)) (f:=(fun i y=>y.st (g+i) 1)) (Int.toNat c) (fun i=>[I (i:Int)]) ?_ ?_|refine Vx.forM (C:=fun l=>_::_::_::_::l) (mm:=(aj m vm)) (f:=(fun i y=>y.st (g+i) 1)) (Int.toNat c) (fun i=>[I (i:Int)]) ?_ ?_|refine Vx.forM (C:=fun l=>_::_::_::_::_::l) (mm:=(aj m vm)) (f:=(fun i y=>y.st (g+i) 1)) (Int.toNat c) (fun i=>[I (i:Int)]) ?_ ?_|refine Vx.forM (C:=fun l=>_::_::_::_::_::_::l) (mm:=(aj m vm)) (f:=(fun i y=>y.st (g+i) 1)) (Int.toNat c) (fun i=>[I (i:Int)]) ?_ ?_)
 ·intro i jq gX
  have kT:=(hi i (by omega)).1
  (repeat' first|constructor|exact ZQ|intro _)
  all_goals apply zL
  all_goals exact gX
 ·have kT:=(hi _ (Nat.le_refl _)).1
  (repeat' first|constructor|exact ZQ|intro _)
  all_goals apply zL
  exact⟨rfl,rfl,_,⟨rfl,rfl⟩,HQ⟩
instance Ra {a b c g w li:Int}:SC EM (zF 250) [.agg [I a,I b,I c,I g,I w,I li],.ptr m 0] (aj m vm y++R0) ((Ar.mk ⟨a,b,c⟩ g w li).ok∧bG 100000000000000 y) uv (aj m vm ((Ar.mk ⟨a,b,c⟩ g w li).fill y)++R0):=SC.mk' fun h R ro B W S H=>IK h.1 h.2 H
theorem IL {a b c:Int}(hs:(Ep.mk a b c).ok)(hy:bG 100000000000000 y)(H:Cx B0 W S (aj m vm y++R) ro):
  aO EM (zF 251) [.agg [I a,I b,I c],.ptr m 0] S fun u S'=>∃ab,(u=uv∧ab=aj m vm ((Ep.mk a b c).fill y)++R)∧Cx B0 W S' ab ro:=by
 have bn:=hs
 unfold Ep.ok at bn
 dsimp only at bn
 unfold Ep.fill
 dsimp only
 have h1:bG 200000000000000 (y.st a 0):=bG.of (c:=1) (f:=fun y=>y.st a 0) (Gd.st w0) hy (by omega) (by omega)
 have hi:∀i:Nat,i≤c.toNat→bG 400000000000000 (rep (fun i y=>y.st (b+i) 0) i (y.st a 0)):=fun i hi=>bG.of (c:=i*1) (Gd.rep (c:=1) (by omega) i (fun j hj=>Gd.st w0)) h1 (by omega) (by omega)
 have g0:=hy.1
 have g1:=h1.1
 refine Vx.fm H rfl (b:=Tryz.a251) ?_
 (repeat' first|constructor|exact ZQ|intro _)
 all_goals apply zL
 (first|refine Vx.forM (C:=fun l=>_::l) (mm:=(aj m vm)) (f:=(fun i y=>y.st (b+i) 0)) (Int.toNat c) (fun i=>[I (i:Int)]) ?_ ?_|refine Vx.forM (C:=fun l=>_::_::l) (mm:=(aj m vm)) (f:=(fun i y=>y.st (b+i) 0)) (Int.toNat c) (fun i=>[I (i:Int)]) ?_ ?_|refine Vx.forM (C:=fun l=>_::_::_::l) (mm:=(aj m vm)) (f:=(fun i y=>y.st (b+i) 0)) (Int.toNat c) (fun i=>[I (i:Int)]) ?_ ?_|refine Vx.forM (C:=fun l=>_::_::_::_::l) (mm:=(aj m vm)) (f:=(fun i y=>y.st (b+i) 0)) (Int.toNat c) (fun i=>[I (i:Int)]) ?_ ?_|refine Vx.forM (C:=fun l=>_::_::_::_::_::l) (mm:=(aj m vm)) (f:=(fun i y=>y.st (b+i) 0)) (Int.toNat c) (fun i=>[I (i:Int)]) ?_ ?_|refine Vx.forM (C:=fun l=>_::_::_::_::_::_::l) (mm:=(aj m vm)) (f:=(fun i y=>y.st (b+i) 0)) (Int.toNat c) (fun i=>[I (i:Int)]) ?_ ?_)
 ·intro i jq gX
  have kT:=(hi i (by omega)).1
  (repeat' first|constructor|exact ZQ|intro _)
  all_goals apply zL
  all_goals exact gX
 ·have kT:=(hi _ (Nat.le_refl _)).1
  (repeat' first|constructor|exact ZQ|intro _)
  all_goals apply zL
  exact⟨rfl,rfl,_,⟨rfl,rfl⟩,HQ⟩
instance Rb {a b c:Int}:SC EM (zF 251) [.agg [I a,I b,I c],.ptr m 0] (aj m vm y++R0) ((Ep.mk a b c).ok∧bG 100000000000000 y) uv (aj m vm ((Ep.mk a b c).fill y)++R0):=SC.mk' fun h R ro B W S H=>IL h.1 h.2 H
theorem IM {a n:Int}(hs:1≤n∧n≤32∧0≤a∧a<100000)(hy:bG 100000000000000 y)(H:Cx B0 W S (aj m vm y++R) ro):
  aO EM (zF 73) [.agg [I a,I n],.ptr m 0] S fun u S'=>∃ab,(u=uv∧ab=aj m vm (eW a n y)++R)∧Cx B0 W S' ab ro:=by
 unfold eW
 have hi:∀i:Nat,i≤n.toNat→bG 400000000000000 (rep (fun i y=>y.st (a+i) 0) i y):=fun i hi=>bG.of (c:=i*1) (Gd.rep (c:=1) (by omega) i (fun j hj=>Gd.st w0)) hy (by omega) (by omega)
 refine Vx.fm H rfl (b:=Tryz.a73) ?_
 (repeat' first|constructor|exact ZQ|intro _)
 all_goals apply zL
 (first|refine Vx.forM (C:=fun l=>_::l) (mm:=(aj m vm)) (f:=(fun i y=>y.st (a+i) 0)) (Int.toNat n) (fun i=>[I (i:Int)]) ?_ ?_|refine Vx.forM (C:=fun l=>_::_::l) (mm:=(aj m vm)) (f:=(fun i y=>y.st (a+i) 0)) (Int.toNat n) (fun i=>[I (i:Int)]) ?_ ?_|refine Vx.forM (C:=fun l=>_::_::_::l) (mm:=(aj m vm)) (f:=(fun i y=>y.st (a+i) 0)) (Int.toNat n) (fun i=>[I (i:Int)]) ?_ ?_|refine Vx.forM (C:=fun l=>_::_::_::_::l) (mm:=(aj m vm)) (f:=(fun i y=>y.st (a+i) 0)) (Int.toNat n) (fun i=>[I (i:Int)]) ?_ ?_|refine Vx.forM (C:=fun l=>_::_::_::_::_::l) (mm:=(aj m vm)) (f:=(fun i y=>y.st (a+i) 0)) (Int.toNat n) (fun i=>[I (i:Int)]) ?_ ?_|refine Vx.forM (C:=fun l=>_::_::_::_::_::_::l) (mm:=(aj m vm)) (f:=(fun i y=>y.st (a+i) 0)) (Int.toNat n) (fun i=>[I (i:Int)]) ?_ ?_)
 ·intro i jq gX
  have kT:=(hi i (by omega)).1
  (repeat' first|constructor|exact ZQ|intro _)
  all_goals apply zL
  all_goals exact gX
 ·have kT:=(hi _ (Nat.le_refl _)).1
  (repeat' first|constructor|exact ZQ|intro _)
  all_goals apply zL
  exact⟨rfl,rfl,_,⟨rfl,rfl⟩,HQ⟩
instance Rc {a n:Int}:SC EM (zF 73) [.agg [I a,I n],.ptr m 0] (aj m vm y++R0) ((1≤n∧n≤32∧0≤a∧a<100000)∧bG 100000000000000 y) uv (aj m vm (eW a n y)++R0):=SC.mk' fun h R ro B W S H=>IM h.1 h.2 H
theorem IP {a b c n:Int}(hs:(Rn.mk a b c n).ok)(hy:bG 100000000000000 y)(H:Cx B0 W S (aj m vm y++R) ro):
  aO EM (zF 169) [.agg [I a,I b,I c,I n],.ptr m 0] S fun u S'=>∃ab,(u=uv∧ab=aj m vm ((Rn.mk a b c n).fill y)++R)∧Cx B0 W S' ab ro:=by
 have bn:=hs
 unfold Rn.ok at bn
 dsimp only at bn
 unfold Rn.fill
 dsimp only
 have h1:bG 200000000000000 (y.st a 0):=bG.of (c:=1) (f:=fun y=>y.st a 0) (Gd.st w0) hy (by omega) (by omega)
 have h2:bG 300000000000000 ((y.st a 0).st b 0):=bG.of (c:=1) (f:=fun y=>y.st b 0) (Gd.st w0) h1 (by omega) (by omega)
 have hi:∀i:Nat,i≤n.toNat→bG 400000000000000 (rep (fun i y=>y.st (c+i) 0) i ((y.st a 0).st b 0)):=fun i hi=>bG.of (c:=i*1) (Gd.rep (c:=1) (by omega) i (fun j hj=>Gd.st w0)) h2 (by omega) (by omega)
 have g0:=hy.1
 have g1:=h1.1
 refine Vx.fm H rfl (b:=Tryz.a169) ?_
 (repeat' first|constructor|exact ZQ|intro _)
 all_goals apply zL
 (first|refine Vx.forM (C:=fun l=>_::l) (mm:=(aj m vm)) (f:=(fun i y=>y.st (c+i) 0)) (Int.toNat n) (fun i=>[I (i:Int)]) ?_ ?_|refine Vx.forM (C:=fun l=>_::_::l) (mm:=(aj m vm)) (f:=(fun i y=>y.st (c+i) 0)) (Int.toNat n) (fun i=>[I (i:Int)]) ?_ ?_|refine Vx.forM (C:=fun l=>_::_::_::l) (mm:=(aj m vm)) (f:=(fun i y=>y.st (c+i) 0)) (Int.toNat n) (fun i=>[I (i:Int)]) ?_ ?_|refine Vx.forM (C:=fun l=>_::_::_::_::l) (mm:=(aj m vm)) (f:=(fun i y=>y.st (c+i) 0)) (Int.toNat n) (fun i=>[I (i:Int)]) ?_ ?_|refine Vx.forM (C:=fun l=>_::_::_::_::_::l) (mm:=(aj m vm)) (f:=(fun i y=>y.st (c+i) 0)) (Int.toNat n) (fun i=>[I (i:Int)]) ?_ ?_|refine Vx.forM (C:=fun l=>_::_::_::_::_::_::l) (mm:=(aj m vm)) (f:=(fun i y=>y.st (c+i) 0)) (Int.toNat n) (fun i=>[I (i:Int)]) ?_ ?_)
 ·intro i jq gX
  have kT:=(hi i (by omega)).1
  (repeat' first|constructor|exact ZQ|intro _)
  all_goals apply zL
  all_goals exact gX
 ·have kT:=(hi _ (Nat.le_refl _)).1
  (repeat' first|constructor|exact ZQ|intro _)
  all_goals apply zL
  exact⟨rfl,rfl,_,⟨rfl,rfl⟩,HQ⟩
instance Rd {a b c n:Int}:SC EM (zF 169) [.agg [I a,I b,I c,I n],.ptr m 0] (aj m vm y++R0) ((Rn.mk a b c n).ok∧bG 100000000000000 y) uv (aj m vm ((Rn.mk a b c n).fill y)++R0):=SC.mk' fun h R ro B W S H=>IP h.1 h.2 H
theorem IQ {a b c:Int}(hs:(Rs.mk a b c).ok)(hy:bG 100000000000000 y)(H:Cx B0 W S (aj m vm y++R) ro):
  aO EM (zF 76) [.agg [I a,I b,I c],.ptr m 0] S fun u S'=>∃ab,(u=uv∧ab=aj m vm ((Rs.mk a b c).fill y)++R)∧Cx B0 W S' ab ro:=by
 have bn:=hs
 unfold Rs.ok at bn
 dsimp only at bn
 unfold Rs.fill
 dsimp only
 have hi:∀i:Nat,i≤c.toNat→bG 400000000000000 (rep (fun i y=>(y.st (a+i) 18446744073709551615).st (b+i) 0) i y):=fun i hi=>bG.of (c:=i*2) (Gd.rep (c:=2) (by omega) i (fun j hj=>(Gd.st (by unfold Me.ar;omega)).comp (Gd.st w0) (by omega))) hy (by omega) (by omega)
 have hj:∀i:Nat,i≤c.toNat→bG 500000000000000 ((rep (fun i y=>(y.st (a+i) 18446744073709551615).st (b+i) 0) i y).st (a+i) 18446744073709551615):=fun i h=>bG.of (c:=1) (f:=fun y=>y.st (a+i) 18446744073709551615) (Gd.st (by unfold Me.ar;omega)) (hi i h) (by omega) (by omega)
 refine Vx.fm H rfl (b:=Tryz.a76) ?_
 (repeat' first|constructor|exact ZQ|intro _)
 all_goals apply zL
 (first|refine Vx.forM (C:=fun l=>_::l) (mm:=(aj m vm)) (f:=(fun i y=>(y.st (a+i) 18446744073709551615).st (b+i) 0)) (Int.toNat c) (fun i=>[I (i:Int)]) ?_ ?_|refine Vx.forM (C:=fun l=>_::_::l) (mm:=(aj m vm)) (f:=(fun i y=>(y.st (a+i) 18446744073709551615).st (b+i) 0)) (Int.toNat c) (fun i=>[I (i:Int)]) ?_ ?_|refine Vx.forM (C:=fun l=>_::_::_::l) (mm:=(aj m vm)) (f:=(fun i y=>(y.st (a+i) 18446744073709551615).st (b+i) 0)) (Int.toNat c) (fun i=>[I (i:Int)]) ?_ ?_|refine Vx.forM (C:=fun l=>_::_::_::_::l) (mm:=(aj m vm)) (f:=(fun i y=>(y.st (a+i) 18446744073709551615).st (b+i) 0)) (Int.toNat c) (fun i=>[I (i:Int)]) ?_ ?_|refine Vx.forM (C:=fun l=>_::_::_::_::_::l) (mm:=(aj m vm)) (f:=(fun i y=>(y.st (a+i) 18446744073709551615).st (b+i) 0)) (Int.toNat c) (fun i=>[I (i:Int)]) ?_ ?_|refine Vx.forM (C:=fun l=>_::_::_::_::_::_::l) (mm:=(aj m vm)) (f:=(fun i y=>(y.st (a+i) 18446744073709551615).st (b+i) 0)) (Int.toNat c) (fun i=>[I (i:Int)]) ?_ ?_)
 ·intro i jq gX
  have kT:=(hi i (by omega)).1
  have V7:=(hj i (by omega)).1
  (repeat' first|constructor|exact ZQ|intro _)
  all_goals apply zL
  all_goals exact gX
 ·have kT:=(hi _ (Nat.le_refl _)).1
  (repeat' first|constructor|exact ZQ|intro _)
  all_goals apply zL
  exact⟨rfl,rfl,_,⟨rfl,rfl⟩,HQ⟩
instance Re {a b c:Int}:SC EM (zF 76) [.agg [I a,I b,I c],.ptr m 0] (aj m vm y++R0) ((Rs.mk a b c).ok∧bG 100000000000000 y) uv (aj m vm ((Rs.mk a b c).fill y)++R0):=SC.mk' fun h R ro B W S H=>IQ h.1 h.2 H
theorem IS {s k a b c:Int}(hs:(Jb.mk s k ⟨a,b,c⟩).ok∧c≤64)(hy:bG 100000000000000 y)(H:Cx B0 W S (aj m vm y++R) ro):
  aO EM (zF 74) [.agg [I s,I k,I a,I b,I c],.ptr m 0] S fun u S'=>∃ab,(u=uv∧ab=aj m vm ((Jb.mk s k ⟨a,b,c⟩).fill y)++R)∧Cx B0 W S' ab ro:=by
 have bn:=hs
 unfold Jb.ok Sk.ok at bn
 dsimp only at bn
 unfold Jb.fill
 dsimp only
 have hw:Me.ar (jw 1 0 1):=by unfold Me.ar jw;omega
 have h0:(Sk.mk a b c).ok∧bG 1000000000000000 y:=⟨hs.1.1,hy.1,by have:=hy.2;omega⟩
 have h1:bG 200000000000000 ((Sk.mk a b c).fill y):=.of (Sk.aX hs.1.1) hy (by omega) (by omega)
 have hi:∀i:Nat,i≤c.toNat→bG 400000000000000 (rep (fun i y=>(y.st (s+i) (jw 1 0 1)).st (k+i) 0) i ((Sk.mk a b c).fill y)):=fun i hi=>bG.of (c:=i*2) (Gd.rep (c:=2) (by omega) i (fun j hj=>(Gd.st hw).comp (Gd.st w0) (by omega))) h1 (by omega) (by omega)
 have hj:∀i:Nat,i≤c.toNat→bG 500000000000000 ((rep (fun i y=>(y.st (s+i) (jw 1 0 1)).st (k+i) 0) i ((Sk.mk a b c).fill y)).st (s+i) (jw 1 0 1)):=fun i h=>bG.of (c:=1) (f:=fun y=>y.st (s+i) (jw 1 0 1)) (Gd.st hw) (hi i h) (by omega) (by omega)
 refine Vx.fm H rfl (b:=Tryz.a74) ?_
 (repeat' first|constructor|exact ZQ|intro _)
 all_goals apply zL
 (first|refine Vx.forM (C:=fun l=>_::l) (mm:=(aj m vm)) (f:=(fun i y=>(y.st (s+i) (jw 1 0 1)).st (k+i) 0)) (Int.toNat c) (fun i=>[I (i:Int)]) ?_ ?_|refine Vx.forM (C:=fun l=>_::_::l) (mm:=(aj m vm)) (f:=(fun i y=>(y.st (s+i) (jw 1 0 1)).st (k+i) 0)) (Int.toNat c) (fun i=>[I (i:Int)]) ?_ ?_|refine Vx.forM (C:=fun l=>_::_::_::l) (mm:=(aj m vm)) (f:=(fun i y=>(y.st (s+i) (jw 1 0 1)).st (k+i) 0)) (Int.toNat c) (fun i=>[I (i:Int)]) ?_ ?_|refine Vx.forM (C:=fun l=>_::_::_::_::l) (mm:=(aj m vm)) (f:=(fun i y=>(y.st (s+i) (jw 1 0 1)).st (k+i) 0)) (Int.toNat c) (fun i=>[I (i:Int)]) ?_ ?_|refine Vx.forM (C:=fun l=>_::_::_::_::_::l) (mm:=(aj m vm)) (f:=(fun i y=>(y.st (s+i) (jw 1 0 1)).st (k+i) 0)) (Int.toNat c) (fun i=>[I (i:Int)]) ?_ ?_|refine Vx.forM (C:=fun l=>_::_::_::_::_::_::l) (mm:=(aj m vm)) (f:=(fun i y=>(y.st (s+i) (jw 1 0 1)).st (k+i) 0)) (Int.toNat c) (fun i=>[I (i:Int)]) ?_ ?_)
 ·intro i jq gX
  have kT:=(hi i (by omega)).1
  have V7:=(hj i (by omega)).1
  (repeat' first|constructor|exact ZQ|intro _)
  all_goals apply zL
  all_goals exact gX
 ·have kT:=(hi _ (Nat.le_refl _)).1
  (repeat' first|constructor|exact ZQ|intro _)
  all_goals apply zL
  exact⟨rfl,rfl,_,⟨rfl,rfl⟩,HQ⟩
instance Rf {s k a b c:Int}:SC EM (zF 74) [.agg [I s,I k,I a,I b,I c],.ptr m 0] (aj m vm y++R0) (((Jb.mk s k ⟨a,b,c⟩).ok∧c≤64)∧bG 100000000000000 y) uv (aj m vm ((Jb.mk s k ⟨a,b,c⟩).fill y)++R0):=SC.mk' fun h R ro B W S H=>IS h.1 h.2 H
theorem IT {a b c g w li e p n t:Int}(hs:(Lb.mk ⟨⟨a,b,c⟩,g,w,li⟩ ⟨e,p,n⟩ t).ok)(hy:bG 10000000000000 y)(H:Cx B0 W S (aj m vm y++R) ro):
  aO EM (zF 164) [.agg [I a,I b,I c,I g,I w,I li,I e,I p,I n,I t],.ptr m 0] S fun u S'=>∃ab,(u=uv∧ab=aj m vm ((Lb.mk ⟨⟨a,b,c⟩,g,w,li⟩ ⟨e,p,n⟩ t).fill y)++R)∧Cx B0 W S' ab ro:=by
 have bn:=hs
 unfold Lb.ok at bn
 dsimp only at bn
 unfold Lb.fill
 dsimp only
 have h0:(Ar.mk ⟨a,b,c⟩ g w li).ok∧bG 100000000000000 y:=⟨hs.1,hy.1,by have:=hy.2;omega⟩
 have h1:bG 20000000000000 ((Ar.mk ⟨a,b,c⟩ g w li).fill y):=.of (Ar.aX hs.1) hy (by omega) (by omega)
 have NP:(Ep.mk e p n).ok∧bG 100000000000000 ((Ar.mk ⟨a,b,c⟩ g w li).fill y):=⟨hs.2.1,h1.1,by have:=h1.2;omega⟩
 have h2:bG 30000000000000 ((Ep.mk e p n).fill ((Ar.mk ⟨a,b,c⟩ g w li).fill y)):=.of (Ep.aX hs.2.1) h1 (by omega) (by omega)
 have hi:∀i:Nat,i≤3→bG 400000000000000 (rep (fun i y=>y.st (t+i) 0) i ((Ep.mk e p n).fill ((Ar.mk ⟨a,b,c⟩ g w li).fill y))):=fun i hi=>bG.of (c:=i*1) (Gd.rep (c:=1) (by omega) i (fun j hj=>Gd.st w0)) h2 (by omega) (by omega)
 refine Vx.fm H rfl (b:=Tryz.a164) ?_
 (repeat' first|constructor|exact ZQ|intro _)
 all_goals apply zL
 (first|refine Vx.forM (C:=fun l=>_::l) (mm:=(aj m vm)) (f:=(fun i y=>y.st (t+i) 0)) (Int.toNat 3) (fun i=>[I (i:Int)]) ?_ ?_|refine Vx.forM (C:=fun l=>_::_::l) (mm:=(aj m vm)) (f:=(fun i y=>y.st (t+i) 0)) (Int.toNat 3) (fun i=>[I (i:Int)]) ?_ ?_|refine Vx.forM (C:=fun l=>_::_::_::l) (mm:=(aj m vm)) (f:=(fun i y=>y.st (t+i) 0)) (Int.toNat 3) (fun i=>[I (i:Int)]) ?_ ?_|refine Vx.forM (C:=fun l=>_::_::_::_::l) (mm:=(aj m vm)) (f:=(fun i y=>y.st (t+i) 0)) (Int.toNat 3) (fun i=>[I (i:Int)]) ?_ ?_|refine Vx.forM (C:=fun l=>_::_::_::_::_::l) (mm:=(aj m vm)) (f:=(fun i y=>y.st (t+i) 0)) (Int.toNat 3) (fun i=>[I (i:Int)]) ?_ ?_|refine Vx.forM (C:=fun l=>_::_::_::_::_::_::l) (mm:=(aj m vm)) (f:=(fun i y=>y.st (t+i) 0)) (Int.toNat 3) (fun i=>[I (i:Int)]) ?_ ?_)
 ·intro i jq gX
  have kT:=(hi i (by omega)).1
  (repeat' first|constructor|exact ZQ|intro _)
  all_goals apply zL
  all_goals first
   |exact gX
   |(have Du:Vx EM (.ret .normal [I ((i:Int)+1)]) _ (_::(aj m vm (Me.st (rep (fun i y=>y.st (t+i) 0) i ((Ep.mk e p n).fill ((Ar.mk ⟨a,b,c⟩ g w li).fill y))) (t+i) 0)++R)) ro _:=gX
     generalize aj m vm (Me.st _ _ _)=MM at Du⊢
     exact Vx.cb HQ Du)
 ·have kT:=(hi _ (Nat.le_refl _)).1
  (repeat' first|constructor|exact ZQ|intro _)
  all_goals apply zL
  exact⟨rfl,rfl,_,⟨rfl,rfl⟩,HQ⟩
instance Rg {a b c g w li e p n t:Int}:SC EM (zF 164) [.agg [I a,I b,I c,I g,I w,I li,I e,I p,I n,I t],.ptr m 0] (aj m vm y++R0) ((Lb.mk ⟨⟨a,b,c⟩,g,w,li⟩ ⟨e,p,n⟩ t).ok∧bG 10000000000000 y) uv (aj m vm ((Lb.mk ⟨⟨a,b,c⟩,g,w,li⟩ ⟨e,p,n⟩ t).fill y)++R0):=SC.mk' fun h R ro B W S H=>IT h.1 h.2 H
instance IU {nd hd ht a b c g w li e p n t:Int}:VC EM (zF 63) [.agg [I nd,I hd,I ht,I a,I b,I c,I g,I w,I li,I e,I p,I n,I t]] (X.To.ok ⟨nd,hd,ht,a,b,c,g,w,li,e,p,n,t⟩) (B true) where
 ok:=fun hp S=>az (X.ue (t:=⟨nd,hd,ht,a,b,c,g,w,li,e,p,n,t⟩)) fun r S' h=>⟨h.1.trans (congrArg B (decide_eq_true hp)),h.2⟩
theorem IV {nd hd ht a b c g w li e p n t:Int}(hs:(Tw.mk nd hd ht ⟨⟨⟨a,b,c⟩,g,w,li⟩,⟨e,p,n⟩,t⟩).ok)(hy:bG 1000000000000 y)(H:Cx B0 W S (aj m vm y++R) ro):
  aO EM (zF 72) [.agg [I nd,I hd,I ht,I a,I b,I c,I g,I w,I li,I e,I p,I n,I t],.ptr m 0] S fun u S'=>∃ab,(u=uv∧ab=aj m vm ((Tw.mk nd hd ht ⟨⟨⟨a,b,c⟩,g,w,li⟩,⟨e,p,n⟩,t⟩).fill y)++R)∧Cx B0 W S' ab ro:=by
 have bn:=hs
 unfold Tw.ok Lb.ok Ar.ok Sk.ok at bn
 dsimp only at bn
 have G0:X.To.ok ⟨nd,hd,ht,a,b,c,g,w,li,e,p,n,t⟩:=by unfold X.To.ok;dsimp only;omega
 unfold Tw.fill
 dsimp only
 have h0:(Lb.mk ⟨⟨a,b,c⟩,g,w,li⟩ ⟨e,p,n⟩ t).ok∧bG 10000000000000 y:=⟨hs.2.2.2.2,hy.1,by have:=hy.2;omega⟩
 have h1:bG 20000000000000 ((Lb.mk ⟨⟨a,b,c⟩,g,w,li⟩ ⟨e,p,n⟩ t).fill y):=.of (Lb.aX hs.2.2.2.2) hy (by omega) (by omega)
 have hi:∀i:Nat,i≤ht.toNat→bG 400000000000000 (rep (fun i y=>y.st (hd+i) 0) i ((Lb.mk ⟨⟨a,b,c⟩,g,w,li⟩ ⟨e,p,n⟩ t).fill y)):=fun i hi=>bG.of (c:=i*1) (Gd.rep (c:=1) (by omega) i (fun j hj=>Gd.st w0)) h1 (by omega) (by omega)
 refine Vx.fm H rfl (b:=Tryz.a72) ?_
 (repeat' first|constructor|exact ZQ|intro _)
 all_goals apply zL
 (first|refine Vx.forM (C:=fun l=>_::l) (mm:=(aj m vm)) (f:=(fun i y=>y.st (hd+i) 0)) (Int.toNat ht) (fun i=>[I (i:Int)]) ?_ ?_|refine Vx.forM (C:=fun l=>_::_::l) (mm:=(aj m vm)) (f:=(fun i y=>y.st (hd+i) 0)) (Int.toNat ht) (fun i=>[I (i:Int)]) ?_ ?_|refine Vx.forM (C:=fun l=>_::_::_::l) (mm:=(aj m vm)) (f:=(fun i y=>y.st (hd+i) 0)) (Int.toNat ht) (fun i=>[I (i:Int)]) ?_ ?_|refine Vx.forM (C:=fun l=>_::_::_::_::l) (mm:=(aj m vm)) (f:=(fun i y=>y.st (hd+i) 0)) (Int.toNat ht) (fun i=>[I (i:Int)]) ?_ ?_|refine Vx.forM (C:=fun l=>_::_::_::_::_::l) (mm:=(aj m vm)) (f:=(fun i y=>y.st (hd+i) 0)) (Int.toNat ht) (fun i=>[I (i:Int)]) ?_ ?_|refine Vx.forM (C:=fun l=>_::_::_::_::_::_::l) (mm:=(aj m vm)) (f:=(fun i y=>y.st (hd+i) 0)) (Int.toNat ht) (fun i=>[I (i:Int)]) ?_ ?_)
 ·intro i jq gX
  have kT:=(hi i (by omega)).1
  (repeat' first|constructor|exact ZQ|intro _)
  all_goals apply zL
  all_goals exact gX
 ·have kT:=(hi _ (Nat.le_refl _)).1
  (repeat' first|constructor|exact ZQ|intro _)
  all_goals apply zL
  exact⟨rfl,rfl,_,⟨rfl,rfl⟩,HQ⟩
instance Rh {nd hd ht a b c g w li e p n t:Int}:SC EM (zF 72) [.agg [I nd,I hd,I ht,I a,I b,I c,I g,I w,I li,I e,I p,I n,I t],.ptr m 0] (aj m vm y++R0) ((Tw.mk nd hd ht ⟨⟨⟨a,b,c⟩,g,w,li⟩,⟨e,p,n⟩,t⟩).ok∧bG 1000000000000 y) uv (aj m vm ((Tw.mk nd hd ht ⟨⟨⟨a,b,c⟩,g,w,li⟩,⟨e,p,n⟩,t⟩).fill y)++R0):=SC.mk' fun h R ro B W S H=>IV h.1 h.2 H
theorem IW {f n r:Int}(hs:(0≤f∧f<4096)∧(1≤n∧n≤64)∧1≤r∧r≤16)(hy:bG 10000000000000 y)(H:Cx B0 W S (aj m vm y++R) ro):
  aO EM (zF 75) [.agg [I f,I n,I r],.ptr m 0] S fun u S'=>∃ab,(u=uv∧ab=aj m vm (iH f n r y)++R)∧Cx B0 W S' ab ro:=by
 unfold iH
 have hb:∀i:Nat,i<n.toNat→0≤(i:Int)*(r+2)∧(i:Int)*(r+2)≤64*18:=fun i hi=>⟨Int.mul_nonneg (by omega) (by omega),Int.mul_le_mul (by omega) (by omega) (by omega) (by omega)⟩
 have hi:∀i:Nat,i≤n.toNat→bG 40000000000000 (rep (fun c y=>Rn.fill ⟨f+c*(r+2),f+c*(r+2)+1,f+c*(r+2)+2,r⟩ y) i y):=fun i hi=>bG.of (c:=i*5000) (Gd.rep (c:=5000) (by omega) i (fun j hj=>Rn.aX (by dsimp only;omega))) hy (by omega) (by omega)
 refine Vx.fm H rfl (b:=Tryz.a75) ?_
 (repeat' first|constructor|exact ZQ|intro _)
 all_goals apply zL
 (first|refine Vx.forM (C:=fun l=>_::l) (mm:=(aj m vm)) (f:=(fun c y=>Rn.fill ⟨f+c*(r+2),f+c*(r+2)+1,f+c*(r+2)+2,r⟩ y)) (Int.toNat n) (fun i=>[I (i:Int)]) ?_ ?_|refine Vx.forM (C:=fun l=>_::_::l) (mm:=(aj m vm)) (f:=(fun c y=>Rn.fill ⟨f+c*(r+2),f+c*(r+2)+1,f+c*(r+2)+2,r⟩ y)) (Int.toNat n) (fun i=>[I (i:Int)]) ?_ ?_|refine Vx.forM (C:=fun l=>_::_::_::l) (mm:=(aj m vm)) (f:=(fun c y=>Rn.fill ⟨f+c*(r+2),f+c*(r+2)+1,f+c*(r+2)+2,r⟩ y)) (Int.toNat n) (fun i=>[I (i:Int)]) ?_ ?_|refine Vx.forM (C:=fun l=>_::_::_::_::l) (mm:=(aj m vm)) (f:=(fun c y=>Rn.fill ⟨f+c*(r+2),f+c*(r+2)+1,f+c*(r+2)+2,r⟩ y)) (Int.toNat n) (fun i=>[I (i:Int)]) ?_ ?_|refine Vx.forM (C:=fun l=>_::_::_::_::_::l) (mm:=(aj m vm)) (f:=(fun c y=>Rn.fill ⟨f+c*(r+2),f+c*(r+2)+1,f+c*(r+2)+2,r⟩ y)) (Int.toNat n) (fun i=>[I (i:Int)]) ?_ ?_|refine Vx.forM (C:=fun l=>_::_::_::_::_::_::l) (mm:=(aj m vm)) (f:=(fun c y=>Rn.fill ⟨f+c*(r+2),f+c*(r+2)+1,f+c*(r+2)+2,r⟩ y)) (Int.toNat n) (fun i=>[I (i:Int)]) ?_ ?_)
 ·intro i jq gX
  have q:=hb i jq
  have kT:(Rn.mk (f+i*(r+2)) (f+i*(r+2)+1) (f+i*(r+2)+2) r).ok∧bG 100000000000000 (rep (fun c y=>Rn.fill ⟨f+c*(r+2),f+c*(r+2)+1,f+c*(r+2)+2,r⟩ y) i y):=⟨by unfold Rn.ok;dsimp only;omega,(hi i (by omega)).1,by have:=(hi i (by omega)).2;omega⟩
  (repeat' first|constructor|exact ZQ|intro _)
  all_goals apply zL
  all_goals first
   |exact gX
   |(have Du:Vx EM (.ret .normal [I ((i:Int)+1)]) _ (_::_::(aj m vm (Rn.fill ⟨f+i*(r+2),f+i*(r+2)+1,f+i*(r+2)+2,r⟩ (rep (fun c y=>Rn.fill ⟨f+c*(r+2),f+c*(r+2)+1,f+c*(r+2)+2,r⟩ y) i y))++R)) ro _:=gX
     generalize aj m vm (Rn.fill _ _)=MM at Du⊢
     exact Vx.cb HQ Du)
   |skip
 ·(repeat' first|constructor|exact ZQ|intro _)
  all_goals apply zL
  exact⟨rfl,rfl,_,⟨rfl,rfl⟩,HQ⟩
instance Ri {f n r:Int}:SC EM (zF 75) [.agg [I f,I n,I r],.ptr m 0] (aj m vm y++R0) (((0≤f∧f<4096)∧(1≤n∧n≤64)∧1≤r∧r≤16)∧bG 10000000000000 y) uv (aj m vm (iH f n r y)++R0):=SC.mk' fun h R ro B W S H=>IW h.1 h.2 H
variable{x:Xc}{v:AV}{l:List dW.Tk}
theorem IX (hx:x.ok)(hv:aQ.sl v 4 (dW.eK l)∈ro)(hs:x.ex.ok l)(hy:bG 100000000 y)(H:Cx B0 W S (aj m vm y++R) ro):
  aO EM (zF 15) [.agg (x.cs++[v]),.ptr m 0] S fun u S'=>∃ab,(u=uv∧ab=aj m vm (x.fill y)++R)∧Cx B0 W S' ab ro:=by
 have hl:gq S v 4 (dW.eK l):=(H.iy hv).1
 obtain⟨ov,cv⟩:=X.dt hl
 have tf:=hx
 unfold Xc.ok Tw.ok Lb.ok Ep.ok Rs.ok at tf
 have hm:=Xc.qj hs
 have V8:(l.length:Int)≤32:=by
  have h:=hs.2.1
  unfold dW.ni at h
  split at h
  ·cases h
  ·omega
 have k0:x.t.ok∧bG 1000000000000 y:=⟨hx.1,hy.1,by have:=hy.2;omega⟩
 have h1:bG 200000000 (x.t.fill y):=.of (Tw.aX hx.1) hy (by omega) (by omega)
 have k1:(1≤x.many∧x.many≤32∧0≤x.b9∧x.b9<100000)∧bG 100000000000000 (x.t.fill y):=⟨by omega,h1.1,by have:=h1.2;omega⟩
 have h2:bG 300000000 (eW x.b9 x.many (x.t.fill y)):=.of (ur (by omega)) h1 (by omega) (by omega)
 have k2:(x.j.ok∧x.j.f.size≤64)∧bG 100000000000000 (eW x.b9 x.many (x.t.fill y)):=⟨⟨hx.2.1,by omega⟩,h2.1,by have:=h2.2;omega⟩
 have h3:bG 400000000 (x.j.fill (eW x.b9 x.many (x.t.fill y))):=.of (Jb.aX hx.2.1) h2 (by omega) (by omega)
 have k3:((0≤x.iB∧x.iB<4096)∧(1≤x.aH∧x.aH≤64)∧1≤x.room∧x.room≤16)∧bG 10000000000000 (x.j.fill (eW x.b9 x.many (x.t.fill y))):=⟨by omega,h3.1,by have:=h3.2;omega⟩
 have h4:bG 500000000 (iH x.iB x.aH x.room (x.j.fill (eW x.b9 x.many (x.t.fill y)))):=.of (uu (by omega) (by omega)) h3 (by omega) (by omega)
 have k4:x.r.ok∧bG 100000000000000 (iH x.iB x.aH x.room (x.j.fill (eW x.b9 x.many (x.t.fill y)))):=⟨hx.2.2.1,h4.1,by have:=h4.2;omega⟩
 have h5:bG 600000000 (x.r.fill (iH x.iB x.aH x.room (x.j.fill (eW x.b9 x.many (x.t.fill y))))):=.of (Rs.aX (by omega)) h4 (by omega) (by omega)
 have hi:∀i:Nat,i≤x.r.ah.toNat→bG 700000000 (rep (fun i y=>y.st (x.own+i) 0) i (x.r.fill (iH x.iB x.aH x.room (x.j.fill (eW x.b9 x.many (x.t.fill y)))))):=fun i hi=>bG.of (c:=i*1) (Gd.rep (c:=1) (by omega) i (fun j hj=>Gd.st w0)) h5 (by omega) (by omega)
 unfold Xc.fill
 rw[show x.t.l.e.ah=x.r.ah by omega]
 simp only[Xc.cs,Tw.cs,Lb.cs,Ar.cs,Ep.cs,lA,lB]
 refine Vx.fm H rfl (b:=Tryz.a15) ?_
 (repeat' first|constructor|exact ZQ|intro _)
 all_goals apply zL
 refine Vx.spec (Ψ:=fun u ab=>u=B true∧ab=_) (fun B1 W1 S1 H=>az (X.gV (e:=x.ex) hv H) fun r S' h=>⟨_,⟨h.1.trans (congrArg B (decide_eq_true hs)),rfl⟩,H.grow h.2⟩) ?_
 rintro _ _ ⟨rfl,rfl⟩
 (repeat' first|constructor|exact ZQ|intro _)
 all_goals apply zL
 (first|refine Vx.forM (C:=fun l=>_::l) (mm:=(aj m vm)) (f:=(fun i y=>y.st (x.own+i) 0)) (Int.toNat x.r.ah) (fun i=>[I (i:Int)]) ?_ ?_|refine Vx.forM (C:=fun l=>_::_::l) (mm:=(aj m vm)) (f:=(fun i y=>y.st (x.own+i) 0)) (Int.toNat x.r.ah) (fun i=>[I (i:Int)]) ?_ ?_|refine Vx.forM (C:=fun l=>_::_::_::l) (mm:=(aj m vm)) (f:=(fun i y=>y.st (x.own+i) 0)) (Int.toNat x.r.ah) (fun i=>[I (i:Int)]) ?_ ?_|refine Vx.forM (C:=fun l=>_::_::_::_::l) (mm:=(aj m vm)) (f:=(fun i y=>y.st (x.own+i) 0)) (Int.toNat x.r.ah) (fun i=>[I (i:Int)]) ?_ ?_|refine Vx.forM (C:=fun l=>_::_::_::_::_::l) (mm:=(aj m vm)) (f:=(fun i y=>y.st (x.own+i) 0)) (Int.toNat x.r.ah) (fun i=>[I (i:Int)]) ?_ ?_|refine Vx.forM (C:=fun l=>_::_::_::_::_::_::l) (mm:=(aj m vm)) (f:=(fun i y=>y.st (x.own+i) 0)) (Int.toNat x.r.ah) (fun i=>[I (i:Int)]) ?_ ?_)
 ·intro i jq gX
  have kT:=(hi i (by omega)).1
  (repeat' first|constructor|exact ZQ|intro _)
  all_goals apply zL
  all_goals exact gX
 ·have kT:=(hi _ (Nat.le_refl _)).1
  (repeat' first|constructor|exact ZQ|intro _)
  all_goals apply zL
  exact⟨rfl,rfl,_,⟨rfl,rfl⟩,HQ⟩
end
end
section
section
variable{B0 S:AH}{W:List Nat}{own R:List Own}{ro:List aQ}{Q:hX}{k:AV→AC}{m bl w:Nat}{v:AV}{x:Me}{rest:List AV}
theorem rL {M z}{bytes n:Nat}(H:Cx B0 W S own ro)(hb:bytes*n≤140737488355328)(hn:n≤9223372036854775807)
  (h:∀t S1,Cx B0 W S1 (.sl t 1 (List.replicate n [z])::own) ro→wp M (k t) S1 Q):wp M (.op (.kV 1 bytes [z] (I (n:Int)) (I (n:Int))) k) S Q:=by
 have hz:∀m:Nat,bH [z] m=List.replicate m z:=by
  intro m
  induction m with
  |zero=>rfl
  |succ m ih=>
   show iY [z] (bH [z] m)=_
   rw[ih,fK];rfl
 have V9:nat? (n:Int)=some n:=by
  unfold nat?
  rfl
 refine ae (v:=.sl S.next 0 n n) (S1:=S.new (.row (List.replicate n z))) ?_ (h _ _ (H.iv (aY.new S _) (.inr ⟨S.next,0,List.replicate n z,.inl ⟨n,by simp,by simp,by simp⟩,bN _ _,?_,?_⟩) ?_))
 ·show iZ 1 bytes [z] (I (n:Int)) (I (n:Int)) S=_
  unfold iZ
  simp only[asInt,kX,V9]
  have e:(Nat.ble n n&&Nat.ble (Nat.mul bytes n) 140737488355328&&Nat.ble n 9223372036854775807&&Nat.beq (bI [z]) 1)=true:=by
   have xX:Nat.ble (Nat.mul bytes n) 140737488355328=true:=dy hb
   rw[dy (Nat.le_refl n),xX,dy hn];rfl
  rw[e,hz]
  rfl
 ·have:∀m:Nat,(List.replicate m [z]).flatten=List.replicate m z:=by
   intro m
   induction m with
   |zero=>rfl
   |succ m ih=>rw[List.replicate_succ,List.flatten_cons,ih];rfl
  rw[this];simp
 ·intro x hx
  rw[(List.mem_replicate.1 hx).2];rfl
 ·intro j hj
  simp only[Own.ids,eg,List.mem_singleton] at hj
  subst hj
  simp
theorem Dv {M}{len id n:Nat}(hn:n≤len)(hl:Nat.beq len 0=false)(h:wp M (k (.sl id 0 n len)) S Q):wp M (.op (.n8 len 1 (.ptr id 0) none (some (I (n:Int))) none) k) S Q:=by
 refine ae (v:=.sl id 0 n len) ?_ h
 show et (jy len 1 (.ptr id 0) none (some (I (n:Int))) none) S=_
 have e1:gB (some (I (n:Int))) len len=some n:=by
  show He (I (n:Int)) len=_
  unfold He
  show below n len.succ=some n
  unfold below
  rw[dy (by omega)]
 have e2:kB none (some (I (n:Int))) none len len=some (0,n,len):=by
  unfold kB
  show(match gB (some (I (n:Int))) len len with|some h=>_|none=>none)=_
  rw[e1]
  rfl
 unfold jy
 simp only[e2,hl]
 rfl
def Me.fresh (n:Nat):Me:=⟨List.replicate n 0,0,0,0,0,false,0⟩
theorem IY {n:Nat}(h1:1≤n)(h2:n≤4096)(H:Cx B0 W S own ro):aO EM (zF 12) [I (n:Int)] S fun r S'=>∃m bl,r=.cP [.ptr m 0,I 0]∧Cx B0 W S' (ad m bl (Me.fresh n) (List.replicate (4096-n) (U 0))++own) ro:=by
 refine bg (b:=Tryz.a12) rfl rfl ?_
 rw[Tryz.u12]
 refine ja (by omega) ?_
 (try(refine zz ?_;(repeat constructor);intro _))
 refine tE (by omega) ?_
 (try(refine zz ?_;(repeat constructor);intro _))
 refine gr H fun bl S1 H=>?_
 refine ae (v:=.agg ((Me.fresh n).rW bl)) (by unfold Me.fresh Me.rW;rw[List.length_replicate];rfl) ?_
 refine fq H rfl fun m S2 H=>?_
 have e:List.replicate 4096 (U 0)=(Me.fresh n).ws.map U++List.replicate (4096-n) (U 0):=by
  unfold Me.fresh
  rw[List.map_replicate,List.replicate_append_replicate,show n+(4096-n)=4096 by omega]
 have H:Cx B0 W S2 (.obj m (.row (AV.agg ((Me.fresh n).rW bl)).cells)::.obj bl (.row (List.replicate 4096 (U 0)))::own) ro:=H
 rw[e] at H
 exact wp_ret ⟨rfl,m,bl,rfl,H⟩
theorem GU (hx:x.gd)(hr:x.ws.length+rest.length=4096)(H:Cx B0 W S (ad m bl x rest++R) ro):aO EM (zF 28) [.ptr m 0] S fun r S'=>Cx B0 W S' (.sl r 1 (bu x.ws)::(ad m bl x rest++R)) ro:=by
 refine bg (b:=Tryz.a28) rfl rfl ?_
 rw[Tryz.u28]
 unfold Me.gd at hx
 refine ae (jg (by kernel_rfl)) ?_
 (try(refine zz ?_;(repeat constructor);intro _))
 refine bF (j:=0) H 0 rfl rfl ?_
 (try(refine zz ?_;(repeat constructor);intro _))
 refine ae (jg (by kernel_rfl)) ?_
 (try(refine zz ?_;(repeat constructor);intro _))
 refine bF (j:=1) H 0 rfl rfl ?_
 refine rL H (by omega) (by omega) fun t S1 H=>?_
 have H:Cx B0 W S1 (.sl t 1 (List.replicate x.ws.length [U 0])::(ad m bl x rest++R)) ro:=H
 (try(refine zz ?_;(repeat constructor);intro _))
 refine bF (j:=0) H 1 rfl rfl ?_
 (try(refine zz ?_;(repeat constructor);intro _))
 refine bF (j:=1) H 1 rfl rfl ?_
 refine Dv (by omega) rfl ?_
 refine ae (v:=I (x.ws.length:Nat)) rfl ?_
 refine wp_bind (wp_loop (xk x.ws.length (fun i vs S'=>vs=[I (i:Int)]∧Cx B0 W S' (.sl t 1 (bu (x.ws.take i)++List.replicate (x.ws.length-i) [U 0])::(ad m bl x rest++R)) ro) ?_ ?_ ⟨rfl,by simpa[bu] using H⟩))
 ·rintro i vs S2 hi ⟨rfl,H⟩
  refine mR (by omega) ?_
  (try(refine zz ?_;(repeat constructor);intro _))
  refine wp_bind ?_
  refine ae (S1:=S2) (v:=.ptr bl (0+i*1)) ?_ ?_
  ·show et (fC 1 (.sl bl 0 x.ws.length 4096) (I (i:Int))) S2=_
   unfold fC
   have h3:mq (I (i:Int)) x.ws.length=some i:=by
    show below i x.ws.length=some i
    unfold below;rw[dy (by omega)]
   simp only[h3]
   rfl
  have hw:x.ws[i]?=some x.ws[i]:=List.getElem?_eq_getElem hi
  rw[show 0+i*1=i by omega]
  refine bF (j:=i) H 2 rfl (pQ hw) ?_
  generalize x.ws[i]=z at hw
  refine vW (y:=U z) (i:=i) H 0 rfl (by simp[bu];omega) rfl rfl fun S3 H=>?_
  refine wp_ret ?_
  show wp EM _ _ _
  refine cg (by omega) (by omega) ?_
  refine wp_ret (.inl ⟨rfl,rfl,?_⟩)
  have e:(bu (x.ws.take i)++List.replicate (x.ws.length-i) [U 0]).set i [U z]=bu (x.ws.take (i+1))++List.replicate (x.ws.length-(i+1)) [U 0]:=by
   have hl:(bu (x.ws.take i)).length=i:=by rw[dU,List.length_take];omega
   rw[List.set_append_right _ _ (by omega),hl,Nat.sub_self,List.take_add_one,hw,show x.ws.length-i=(x.ws.length-(i+1))+1 by omega,List.replicate_succ,List.set_cons_zero]
   simp[bu]
  exact e▸H
 ·rintro vs S2 ⟨rfl,H⟩
  refine ja (by omega) ?_
  (try(refine zz ?_;(repeat constructor);intro _))
  refine wp_ret ⟨by simp,?_⟩
  show wp EM _ _ _
  refine wp_ret ⟨rfl,?_⟩
  rw[List.take_length,Nat.sub_self,show bu x.ws++List.replicate 0 [U 0]=bu x.ws by simp] at H
  exact H
theorem IZ {n:Nat}(h1:1≤n)(h2:n≤4096)(H:Cx B0 W S own ro):aO EM (zF 13) [I (n:Int)] S fun r S'=>∃w v,r=.cP [.ptr w 0,I 0]∧Cx B0 W S' (aj w v (Me.fresh n)++own) ro:=by
 refine bg (b:=Tryz.a13) rfl rfl ?_
 rw[Tryz.u13]
 refine ja (by omega) ?_
 (try(refine zz ?_;(repeat constructor);intro _))
 refine tE (by omega) ?_
 (try(refine zz ?_;(repeat constructor);intro _))
 refine rL H (by omega) (by omega) fun t S1 H=>?_
 have ht:=ft (mT (H.oh _ (List.Mem.head _)))
 refine ae (S1:=S1) (v:=.agg ((Me.fresh n).HY t)) ?_ ?_
 ·show et (jX [Ns,I 0,I 0,U 0,U 0,B false,I 0] [(0,1,t)]) S1=_
  have e1:(not (ep t)&&Nat.beq (bI t.cells) 1&&Nat.ble (Nat.add 0 1) (bI [Ns,I 0,I 0,U 0,U 0,B false,I 0]))=true:=by
   rw[ht.1,ht.2.1];rfl
  unfold jX fx
  rw[e1,ht.2.1]
  rfl
 refine fq H rfl fun w S2 H=>?_
 have e:List.replicate n [U 0]=bu (Me.fresh n).ws:=by
  unfold Me.fresh bu
  rw[List.map_replicate]
 rw[e] at H
 exact wp_ret ⟨rfl,w,t,rfl,H⟩
theorem Zx.GV {M Φ K v}{i:Int}{k}(h:ck (Vx M (.op (.fu 1 v (I i)) k) K own ro Φ)):Zx M false (.op (.fu 1 v (I i)) k) K own ro Φ:=.z h
theorem Vx.Rj {M Φ K v x}{i:Int}{P:Prop}[c:FA own v i P x]{k}(hp:P)(h:Zx M false (k x) K own ro Φ):Vx M (.op (.fu 1 v (I i)) fun p=>.op (.load 1 false p) k) K own ro Φ:=(Zx.Ut (v:=v) (i:=i) (ck.of hp) h).ok
theorem GW {a b l}(hl:l.length≤4096)(H:Cx B0 W S (.sl a 1 (bu l)::.sl b 1 (bu l)::R) ro):aO EM (zF 27) [a,b] S fun u S'=>∃ab,(u=B true∧ab=.sl a 1 (bu l)::.sl b 1 (bu l)::R)∧Cx B0 W S' ab ro:=by
 refine Vx.fm H rfl (b:=Tryz.a27) ?_
 (repeat' first|constructor|exact ZQ|intro _)
 all_goals apply zL
 have hlen:(Int.ofNat (bu l).length)=(l.length:Int):=by rw[dU];rfl
 refine Vx.K_ l.length (fun i=>[I (i:Int),B true]) ?_ ?_
 ·intro i hi hn
  have hp:0≤(i:Int)∧(i:Int)<l.length:=by omega
  haveI:KR (bu l) (i:Int) (0≤(i:Int)∧(i:Int)<l.length) (U (l[i]?.getD 0)):=U2
  repeat'(first|refine Zx.GV ?_|constructor|(intro h;first|(exfalso;omega)|skip))
  (all_goals first|exact ZM|try refine zL ?_)
  show Vx EM (.op (.fu 1 a (I (i:Int))) _) _ _ _ _
  refine Vx.Rj (x:=U (l[i]?.getD 0)) hp ?_
  repeat'(first|refine Zx.GV ?_|constructor|(intro h;first|(exfalso;omega)|skip))
  (all_goals first|exact ZM|try refine zL ?_)
  show Vx EM (.op (.fu 1 b (I (i:Int))) _) _ _ _ _
  refine Vx.Rj (x:=U (l[i]?.getD 0)) hp ?_
  (repeat' first|constructor|exact ZQ|intro _)
  all_goals apply zL
  all_goals first
   |exact hn
   |(exfalso;rw[hlen] at*;omega)
   |skip
 ·(repeat' first|constructor|exact ZQ|intro _)
  all_goals apply zL
  all_goals first
   |(exfalso;rw[hlen] at*;omega)
   |exact⟨rfl,rfl,_,⟨rfl,rfl⟩,HQ⟩
   |skip
end
end
end Go.cY
