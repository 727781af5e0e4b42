/- Contracts. Conditions: in each theorem. -/
import Derived.Test.YtdfgboafnklioaaGreatM70
set_option linter.all false
set_option maxRecDepth 100000
set_option maxHeartbeats 4000000
namespace Go.cO
open Go.Proofs
instance aco:cH 364 where
instance acp:cH 165 where
section
variable{B0 S:AH}{W:List Nat}{R R0:List Own}{ro:List aB}{m:Nat}{y:Me}{vm:AV}
theorem KB {a b c:Int}(hs:(Sk.mk a b c).ok)(hy:y.gd)(hn:y.n<=1000000000000000)(H:Cx B0 W S (ai m vm y++R) ro):
  aG EM (zF 166) [.agg [I a,I b,I c],.ptr m 0] S λu S'=>∃ab,(u=uv/\ab=ai m vm ((Sk.mk a b c).fill y)++R)/\Cx B0 W S' ab ro:=by
 have bt:=hs;unfold Sk.ok at bt;dsimp only at bt;unfold Sk.fill;dsimp only;have hg:=Gd.st (a:=a) (w:=1) (by unfold Me.ar;omega) y hy am;have Ef:(y.st a 1).n<=y.n+1:=hg.2.1;have g1:(y.st a 1).gd:=hg.1;have wV:∀i:Nat,i<=c.toNat->(rep (λi y=>y.st (b+i) (if(i:Int)+1=c then 0 else i+2)) i (y.st a 1)).gd:=λi hi=>(Gd.rep (c:=1) am i (λj hj=>Gd.st (by unfold Me.ar;split<;>omega)) (y.st a 1) hg.1 am).1;obtain⟨N,rfl⟩:∃N:Nat,c=N+1:=⟨(c-1).toNat,am⟩;refine y1 H rfl ?_;intros
 (first|refine Vx.forM (C:=λl=>_::l) (mm:=(ai m vm)) (f:=(λi y=>y.st (b+i) (if(i:Int)+1=((N:Int)+1) then 0 else i+2))) (Int.toNat (N:Int)) (λi=>[I (i:Int)]) ?_ ?_|refine Vx.forM (C:=λl=>_::_::l) (mm:=(ai m vm)) (f:=(λi y=>y.st (b+i) (if(i:Int)+1=((N:Int)+1) then 0 else i+2))) (Int.toNat (N:Int)) (λi=>[I (i:Int)]) ?_ ?_|refine Vx.forM (C:=λl=>_::_::_::l) (mm:=(ai m vm)) (f:=(λi y=>y.st (b+i) (if(i:Int)+1=((N:Int)+1) then 0 else i+2))) (Int.toNat (N:Int)) (λi=>[I (i:Int)]) ?_ ?_|refine Vx.forM (C:=λl=>_::_::_::_::l) (mm:=(ai m vm)) (f:=(λi y=>y.st (b+i) (if(i:Int)+1=((N:Int)+1) then 0 else i+2))) (Int.toNat (N:Int)) (λi=>[I (i:Int)]) ?_ ?_|refine Vx.forM (C:=λl=>_::_::_::_::_::l) (mm:=(ai m vm)) (f:=(λi y=>y.st (b+i) (if(i:Int)+1=((N:Int)+1) then 0 else i+2))) (Int.toNat (N:Int)) (λi=>[I (i:Int)]) ?_ ?_|refine Vx.forM (C:=λl=>_::_::_::_::_::_::l) (mm:=(ai m vm)) (f:=(λi y=>y.st (b+i) (if(i:Int)+1=((N:Int)+1) then 0 else i+2))) (Int.toNat (N:Int)) (λi=>[I (i:Int)]) ?_ ?_)
 .intro i hi iH;have hi:i<N:=by simpa using hi
  have ma:=wV i am;have e1:((i:Int)+2)=(if(i:Int)+1=((N:Int)+1) then 0 else(i:Int)+2):=(if_neg am).symm;refine z1 ?_;intros;all_goals(first|exact iH|(rw[show((i:Int)+2)%18446744073709551616=(if(i:Int)+1=((N:Int)+1) then 0 else(i:Int)+2) by rw[if_neg am];omega];exact iH)|skip)
 .have ma:=wV N am;rw[Int.toNat_natCast];refine z1 ?_;intros;rw[show((N:Int)+1).toNat=N+1 by omega,show b+((N:Int)+1)-1=b+N by omega];have e:rep (λi y=>y.st (b+i) (if(i:Int)+1=((N:Int)+1) then 0 else i+2)) (N+1) (y.st a 1)=(rep (λi y=>y.st (b+i) (if(i:Int)+1=((N:Int)+1) then 0 else i+2)) N (y.st a 1)).st (b+N) 0:=by show Me.st _ _ (if _ then _ else _)=_;rw[if_pos rfl]
  rw[e];exact⟨rfl,rfl,_,⟨rfl,rfl⟩,HQ⟩
instance Ua {a b c:Int}:SC EM (zF 166) [.agg [I a,I b,I c],.ptr m 0] (ai m vm y++R0) ((Sk.mk a b c).ok/\bP 1000000000000000 y) uv (ai m vm ((Sk.mk a b c).fill y)++R0):=SC.mk' λh R ro B W S H=>KB h.1 h.2.1 h.2.2 H
theorem KC {a b c g w li:Int}(hs:(Ar.mk ⟨a,b,c⟩ g w li).ok)(hy:bP 100000000000000 y)(H:Cx B0 W S (ai m vm y++R) ro):
  aG EM (zF 250) [.agg [I a,I b,I c,I g,I w,I li],.ptr m 0] S λu S'=>∃ab,(u=uv/\ab=ai m vm ((Ar.mk ⟨a,b,c⟩ g w li).fill y)++R)/\Cx B0 W S' ab ro:=by
 have bt:=hs;unfold Ar.ok Sk.ok at bt;dsimp only at bt;unfold Ar.fill;dsimp only;have h1:bP 200000000000000 ((Sk.mk a b c).fill y):=.of (Sk.ba hs.1) hy am am;have h2:bP 300000000000000 (((Sk.mk a b c).fill y).st w 0):=bP.of (c:=1) (f:=λy=>y.st w 0) (Gd.st w0) h1 am am;have hi:∀i:Nat,i<=c.toNat->bP 400000000000000 (rep (λi y=>y.st (g+i) 1) i (((Sk.mk a b c).fill y).st w 0)):=λi hi=>bP.of (c:=i*1) (Gd.rep (c:=1) am i (λj hj=>Gd.st (by unfold Me.ar;omega))) h2 am am;have h0:(Sk.mk a b c).ok/\bP 1000000000000000 y:=⟨hs.1,hy.1,by have:=hy.2;omega⟩;have g1:=h1.1;refine y1 H rfl ?_;intros
 (first|refine Vx.forM (C:=λl=>_::l) (mm:=(ai m vm)) (f:=(λi y=>y.st (g+i) 1)) (Int.toNat c) (λi=>[I (i:Int)]) ?_ ?_|refine Vx.forM (C:=λl=>_::_::l) (mm:=(ai m vm)) (f:=(λi y=>y.st (g+i) 1)) (Int.toNat c) (λi=>[I (i:Int)]) ?_ ?_|refine Vx.forM (C:=λl=>_::_::_::l) (mm:=(ai m vm)) (f:=(λi y=>y.st (g+i) 1)) (Int.toNat c) (λi=>[I (i:Int)]) ?_ ?_|refine Vx.forM (C:=λl=>_::_::_::_::l) (mm:=(ai m vm)) (f:=(λi y=>y.st (g+i) 1)) (Int.toNat c) (λi=>[I (i:Int)]) ?_ ?_|refine Vx.forM (C:=λl=>_::_::_::_::_::l) (mm:=(ai m vm)) (f:=(λi y=>y.st (g+i) 1)) (Int.toNat c) (λi=>[I (i:Int)]) ?_ ?_|refine Vx.forM (C:=λl=>_::_::_::_::_::_::l) (mm:=(ai m vm)) (f:=(λi y=>y.st (g+i) 1)) (Int.toNat c) (λi=>[I (i:Int)]) ?_ ?_)
 .intro i kj iH;have ma:=(hi i am).1;exact zZ;all_goals exact iH
 .have ma:=(hi _ (Nat.le_refl _)).1;refine z1 ?_;intros;exact⟨rfl,rfl,_,⟨rfl,rfl⟩,HQ⟩
instance Ub {a b c g w li:Int}:SC EM (zF 250) [.agg [I a,I b,I c,I g,I w,I li],.ptr m 0] (ai m vm y++R0) ((Ar.mk ⟨a,b,c⟩ g w li).ok/\bP 100000000000000 y) uv (ai m vm ((Ar.mk ⟨a,b,c⟩ g w li).fill y)++R0):=SC.mk' λh R ro B W S H=>KC h.1 h.2 H
theorem KE {a b c:Int}(hs:(Ep.mk a b c).ok)(hy:bP 100000000000000 y)(H:Cx B0 W S (ai m vm y++R) ro):
  aG EM (zF 251) [.agg [I a,I b,I c],.ptr m 0] S λu S'=>∃ab,(u=uv/\ab=ai m vm ((Ep.mk a b c).fill y)++R)/\Cx B0 W S' ab ro:=by
 have bt:=hs;unfold Ep.ok at bt;dsimp only at bt;unfold Ep.fill;dsimp only;have h1:bP 200000000000000 (y.st a 0):=bP.of (c:=1) (f:=λy=>y.st a 0) (Gd.st w0) hy am am;have hi:∀i:Nat,i<=c.toNat->bP 400000000000000 (rep (λi y=>y.st (b+i) 0) i (y.st a 0)):=λi hi=>bP.of (c:=i*1) (Gd.rep (c:=1) am i (λj hj=>Gd.st w0)) h1 am am;have g0:=hy.1;have g1:=h1.1;refine y1 H rfl ?_;intros
 (first|refine Vx.forM (C:=λl=>_::l) (mm:=(ai m vm)) (f:=(λi y=>y.st (b+i) 0)) (Int.toNat c) (λi=>[I (i:Int)]) ?_ ?_|refine Vx.forM (C:=λl=>_::_::l) (mm:=(ai m vm)) (f:=(λi y=>y.st (b+i) 0)) (Int.toNat c) (λi=>[I (i:Int)]) ?_ ?_|refine Vx.forM (C:=λl=>_::_::_::l) (mm:=(ai m vm)) (f:=(λi y=>y.st (b+i) 0)) (Int.toNat c) (λi=>[I (i:Int)]) ?_ ?_|refine Vx.forM (C:=λl=>_::_::_::_::l) (mm:=(ai m vm)) (f:=(λi y=>y.st (b+i) 0)) (Int.toNat c) (λi=>[I (i:Int)]) ?_ ?_|refine Vx.forM (C:=λl=>_::_::_::_::_::l) (mm:=(ai m vm)) (f:=(λi y=>y.st (b+i) 0)) (Int.toNat c) (λi=>[I (i:Int)]) ?_ ?_|refine Vx.forM (C:=λl=>_::_::_::_::_::_::l) (mm:=(ai m vm)) (f:=(λi y=>y.st (b+i) 0)) (Int.toNat c) (λi=>[I (i:Int)]) ?_ ?_)
 .intro i kj iH;have ma:=(hi i am).1;exact zZ;all_goals exact iH
 .have ma:=(hi _ (Nat.le_refl _)).1;refine z1 ?_;intros;exact⟨rfl,rfl,_,⟨rfl,rfl⟩,HQ⟩
instance Uc {a b c:Int}:SC EM (zF 251) [.agg [I a,I b,I c],.ptr m 0] (ai m vm y++R0) ((Ep.mk a b c).ok/\bP 100000000000000 y) uv (ai m vm ((Ep.mk a b c).fill y)++R0):=SC.mk' λh R ro B W S H=>KE h.1 h.2 H
theorem KF {a n:Int}(hs:1<=n/\n<=32/\0<=a/\a<100000)(hy:bP 100000000000000 y)(H:Cx B0 W S (ai m vm y++R) ro):
  aG EM (zF 73) [.agg [I a,I n],.ptr m 0] S λu S'=>∃ab,(u=uv/\ab=ai m vm (fy a n y)++R)/\Cx B0 W S' ab ro:=by
 unfold fy;have hi:∀i:Nat,i<=n.toNat->bP 400000000000000 (rep (λi y=>y.st (a+i) 0) i y):=λi hi=>bP.of (c:=i*1) (Gd.rep (c:=1) am i (λj hj=>Gd.st w0)) hy am am;refine y1 H rfl ?_;intros
 (first|refine Vx.forM (C:=λl=>_::l) (mm:=(ai m vm)) (f:=(λi y=>y.st (a+i) 0)) (Int.toNat n) (λi=>[I (i:Int)]) ?_ ?_|refine Vx.forM (C:=λl=>_::_::l) (mm:=(ai m vm)) (f:=(λi y=>y.st (a+i) 0)) (Int.toNat n) (λi=>[I (i:Int)]) ?_ ?_|refine Vx.forM (C:=λl=>_::_::_::l) (mm:=(ai m vm)) (f:=(λi y=>y.st (a+i) 0)) (Int.toNat n) (λi=>[I (i:Int)]) ?_ ?_|refine Vx.forM (C:=λl=>_::_::_::_::l) (mm:=(ai m vm)) (f:=(λi y=>y.st (a+i) 0)) (Int.toNat n) (λi=>[I (i:Int)]) ?_ ?_|refine Vx.forM (C:=λl=>_::_::_::_::_::l) (mm:=(ai m vm)) (f:=(λi y=>y.st (a+i) 0)) (Int.toNat n) (λi=>[I (i:Int)]) ?_ ?_|refine Vx.forM (C:=λl=>_::_::_::_::_::_::l) (mm:=(ai m vm)) (f:=(λi y=>y.st (a+i) 0)) (Int.toNat n) (λi=>[I (i:Int)]) ?_ ?_)
 .intro i kj iH;have ma:=(hi i am).1;exact zZ;all_goals exact iH
 .have ma:=(hi _ (Nat.le_refl _)).1;refine z1 ?_;intros;exact⟨rfl,rfl,_,⟨rfl,rfl⟩,HQ⟩
instance Ud {a n:Int}:SC EM (zF 73) [.agg [I a,I n],.ptr m 0] (ai m vm y++R0) ((1<=n/\n<=32/\0<=a/\a<100000)/\bP 100000000000000 y) uv (ai m vm (fy a n y)++R0):=SC.mk' λh R ro B W S H=>KF h.1 h.2 H
theorem KG {a b c n:Int}(hs:(Rn.mk a b c n).ok)(hy:bP 100000000000000 y)(H:Cx B0 W S (ai m vm y++R) ro):
  aG EM (zF 169) [.agg [I a,I b,I c,I n],.ptr m 0] S λu S'=>∃ab,(u=uv/\ab=ai m vm ((Rn.mk a b c n).fill y)++R)/\Cx B0 W S' ab ro:=by
 have bt:=hs;unfold Rn.ok at bt;dsimp only at bt;unfold Rn.fill;dsimp only;have h1:bP 200000000000000 (y.st a 0):=bP.of (c:=1) (f:=λy=>y.st a 0) (Gd.st w0) hy am am;have h2:bP 300000000000000 ((y.st a 0).st b 0):=bP.of (c:=1) (f:=λy=>y.st b 0) (Gd.st w0) h1 am am;have hi:∀i:Nat,i<=n.toNat->bP 400000000000000 (rep (λi y=>y.st (c+i) 0) i ((y.st a 0).st b 0)):=λi hi=>bP.of (c:=i*1) (Gd.rep (c:=1) am i (λj hj=>Gd.st w0)) h2 am am;have g0:=hy.1;have g1:=h1.1;refine y1 H rfl ?_;intros
 (first|refine Vx.forM (C:=λl=>_::l) (mm:=(ai m vm)) (f:=(λi y=>y.st (c+i) 0)) (Int.toNat n) (λi=>[I (i:Int)]) ?_ ?_|refine Vx.forM (C:=λl=>_::_::l) (mm:=(ai m vm)) (f:=(λi y=>y.st (c+i) 0)) (Int.toNat n) (λi=>[I (i:Int)]) ?_ ?_|refine Vx.forM (C:=λl=>_::_::_::l) (mm:=(ai m vm)) (f:=(λi y=>y.st (c+i) 0)) (Int.toNat n) (λi=>[I (i:Int)]) ?_ ?_|refine Vx.forM (C:=λl=>_::_::_::_::l) (mm:=(ai m vm)) (f:=(λi y=>y.st (c+i) 0)) (Int.toNat n) (λi=>[I (i:Int)]) ?_ ?_|refine Vx.forM (C:=λl=>_::_::_::_::_::l) (mm:=(ai m vm)) (f:=(λi y=>y.st (c+i) 0)) (Int.toNat n) (λi=>[I (i:Int)]) ?_ ?_|refine Vx.forM (C:=λl=>_::_::_::_::_::_::l) (mm:=(ai m vm)) (f:=(λi y=>y.st (c+i) 0)) (Int.toNat n) (λi=>[I (i:Int)]) ?_ ?_)
 .intro i kj iH;have ma:=(hi i am).1;exact zZ;all_goals exact iH
 .have ma:=(hi _ (Nat.le_refl _)).1;refine z1 ?_;intros;exact⟨rfl,rfl,_,⟨rfl,rfl⟩,HQ⟩
instance Ue {a b c n:Int}:SC EM (zF 169) [.agg [I a,I b,I c,I n],.ptr m 0] (ai m vm y++R0) ((Rn.mk a b c n).ok/\bP 100000000000000 y) uv (ai m vm ((Rn.mk a b c n).fill y)++R0):=SC.mk' λh R ro B W S H=>KG h.1 h.2 H
theorem KH {a b c:Int}(hs:(Rs.mk a b c).ok)(hy:bP 100000000000000 y)(H:Cx B0 W S (ai m vm y++R) ro):
  aG EM (zF 76) [.agg [I a,I b,I c],.ptr m 0] S λu S'=>∃ab,(u=uv/\ab=ai m vm ((Rs.mk a b c).fill y)++R)/\Cx B0 W S' ab ro:=by
 have bt:=hs;unfold Rs.ok at bt;dsimp only at bt;unfold Rs.fill;dsimp only;have hi:∀i:Nat,i<=c.toNat->bP 400000000000000 (rep (λi y=>(y.st (a+i) 18446744073709551615).st (b+i) 0) i y):=λi hi=>bP.of (c:=i*2) (Gd.rep (c:=2) am i (λj hj=>(Gd.st (by unfold Me.ar;omega)).comp (Gd.st w0) am)) hy am am;have hj:∀i:Nat,i<=c.toNat->bP 500000000000000 ((rep (λi y=>(y.st (a+i) 18446744073709551615).st (b+i) 0) i y).st (a+i) 18446744073709551615):=λi h=>bP.of (c:=1) (f:=λy=>y.st (a+i) 18446744073709551615) (Gd.st (by unfold Me.ar;omega)) (hi i h) am am;refine y1 H rfl ?_;intros
 (first|refine Vx.forM (C:=λl=>_::l) (mm:=(ai m vm)) (f:=(λi y=>(y.st (a+i) 18446744073709551615).st (b+i) 0)) (Int.toNat c) (λi=>[I (i:Int)]) ?_ ?_|refine Vx.forM (C:=λl=>_::_::l) (mm:=(ai m vm)) (f:=(λi y=>(y.st (a+i) 18446744073709551615).st (b+i) 0)) (Int.toNat c) (λi=>[I (i:Int)]) ?_ ?_|refine Vx.forM (C:=λl=>_::_::_::l) (mm:=(ai m vm)) (f:=(λi y=>(y.st (a+i) 18446744073709551615).st (b+i) 0)) (Int.toNat c) (λi=>[I (i:Int)]) ?_ ?_|refine Vx.forM (C:=λl=>_::_::_::_::l) (mm:=(ai m vm)) (f:=(λi y=>(y.st (a+i) 18446744073709551615).st (b+i) 0)) (Int.toNat c) (λi=>[I (i:Int)]) ?_ ?_|refine Vx.forM (C:=λl=>_::_::_::_::_::l) (mm:=(ai m vm)) (f:=(λi y=>(y.st (a+i) 18446744073709551615).st (b+i) 0)) (Int.toNat c) (λi=>[I (i:Int)]) ?_ ?_|refine Vx.forM (C:=λl=>_::_::_::_::_::_::l) (mm:=(ai m vm)) (f:=(λi y=>(y.st (a+i) 18446744073709551615).st (b+i) 0)) (Int.toNat c) (λi=>[I (i:Int)]) ?_ ?_)
 .intro i kj iH;have ma:=(hi i am).1;have Y1:=(hj i am).1;exact zZ;all_goals exact iH
 .have ma:=(hi _ (Nat.le_refl _)).1;refine z1 ?_;intros;exact⟨rfl,rfl,_,⟨rfl,rfl⟩,HQ⟩
instance Uf {a b c:Int}:SC EM (zF 76) [.agg [I a,I b,I c],.ptr m 0] (ai m vm y++R0) ((Rs.mk a b c).ok/\bP 100000000000000 y) uv (ai m vm ((Rs.mk a b c).fill y)++R0):=SC.mk' λh R ro B W S H=>KH h.1 h.2 H
theorem KI {s k a b c:Int}(hs:(Jb.mk s k ⟨a,b,c⟩).ok/\c<=64)(hy:bP 100000000000000 y)(H:Cx B0 W S (ai m vm y++R) ro):
  aG EM (zF 74) [.agg [I s,I k,I a,I b,I c],.ptr m 0] S λu S'=>∃ab,(u=uv/\ab=ai m vm ((Jb.mk s k ⟨a,b,c⟩).fill y)++R)/\Cx B0 W S' ab ro:=by
 have bt:=hs;unfold Jb.ok Sk.ok at bt;dsimp only at bt;unfold Jb.fill;dsimp only;have hw:Me.ar (jw 1 0 1):=by unfold Me.ar jw;omega
 have h0:(Sk.mk a b c).ok/\bP 1000000000000000 y:=⟨hs.1.1,hy.1,by have:=hy.2;omega⟩;have h1:bP 200000000000000 ((Sk.mk a b c).fill y):=.of (Sk.ba hs.1.1) hy am am;have hi:∀i:Nat,i<=c.toNat->bP 400000000000000 (rep (λi y=>(y.st (s+i) (jw 1 0 1)).st (k+i) 0) i ((Sk.mk a b c).fill y)):=λi hi=>bP.of (c:=i*2) (Gd.rep (c:=2) am i (λj hj=>(Gd.st hw).comp (Gd.st w0) am)) h1 am am;have hj:∀i:Nat,i<=c.toNat->bP 500000000000000 ((rep (λi y=>(y.st (s+i) (jw 1 0 1)).st (k+i) 0) i ((Sk.mk a b c).fill y)).st (s+i) (jw 1 0 1)):=λi h=>bP.of (c:=1) (f:=λy=>y.st (s+i) (jw 1 0 1)) (Gd.st hw) (hi i h) am am;refine y1 H rfl ?_;intros
 (first|refine Vx.forM (C:=λl=>_::l) (mm:=(ai m vm)) (f:=(λi y=>(y.st (s+i) (jw 1 0 1)).st (k+i) 0)) (Int.toNat c) (λi=>[I (i:Int)]) ?_ ?_|refine Vx.forM (C:=λl=>_::_::l) (mm:=(ai m vm)) (f:=(λi y=>(y.st (s+i) (jw 1 0 1)).st (k+i) 0)) (Int.toNat c) (λi=>[I (i:Int)]) ?_ ?_|refine Vx.forM (C:=λl=>_::_::_::l) (mm:=(ai m vm)) (f:=(λi y=>(y.st (s+i) (jw 1 0 1)).st (k+i) 0)) (Int.toNat c) (λi=>[I (i:Int)]) ?_ ?_|refine Vx.forM (C:=λl=>_::_::_::_::l) (mm:=(ai m vm)) (f:=(λi y=>(y.st (s+i) (jw 1 0 1)).st (k+i) 0)) (Int.toNat c) (λi=>[I (i:Int)]) ?_ ?_|refine Vx.forM (C:=λl=>_::_::_::_::_::l) (mm:=(ai m vm)) (f:=(λi y=>(y.st (s+i) (jw 1 0 1)).st (k+i) 0)) (Int.toNat c) (λi=>[I (i:Int)]) ?_ ?_|refine Vx.forM (C:=λl=>_::_::_::_::_::_::l) (mm:=(ai m vm)) (f:=(λi y=>(y.st (s+i) (jw 1 0 1)).st (k+i) 0)) (Int.toNat c) (λi=>[I (i:Int)]) ?_ ?_)
 .intro i kj iH;have ma:=(hi i am).1;have Y1:=(hj i am).1;exact zZ;all_goals exact iH
 .have ma:=(hi _ (Nat.le_refl _)).1;refine z1 ?_;intros;exact⟨rfl,rfl,_,⟨rfl,rfl⟩,HQ⟩
instance Ug {s k a b c:Int}:SC EM (zF 74) [.agg [I s,I k,I a,I b,I c],.ptr m 0] (ai m vm y++R0) (((Jb.mk s k ⟨a,b,c⟩).ok/\c<=64)/\bP 100000000000000 y) uv (ai m vm ((Jb.mk s k ⟨a,b,c⟩).fill y)++R0):=SC.mk' λh R ro B W S H=>KI h.1 h.2 H
theorem KJ {a b c g w li e p n t:Int}(hs:(Lb.mk ⟨⟨a,b,c⟩,g,w,li⟩ ⟨e,p,n⟩ t).ok)(hy:bP 10000000000000 y)(H:Cx B0 W S (ai m vm y++R) ro):
  aG EM (zF 164) [.agg [I a,I b,I c,I g,I w,I li,I e,I p,I n,I t],.ptr m 0] S λu S'=>∃ab,(u=uv/\ab=ai m vm ((Lb.mk ⟨⟨a,b,c⟩,g,w,li⟩ ⟨e,p,n⟩ t).fill y)++R)/\Cx B0 W S' ab ro:=by
 have bt:=hs;unfold Lb.ok at bt;dsimp only at bt;unfold Lb.fill;dsimp only;have h0:(Ar.mk ⟨a,b,c⟩ g w li).ok/\bP 100000000000000 y:=⟨hs.1,hy.1,by have:=hy.2;omega⟩;have h1:bP 20000000000000 ((Ar.mk ⟨a,b,c⟩ g w li).fill y):=.of (Ar.ba hs.1) hy am am;have QN:(Ep.mk e p n).ok/\bP 100000000000000 ((Ar.mk ⟨a,b,c⟩ g w li).fill y):=⟨hs.2.1,h1.1,by have:=h1.2;omega⟩;have h2:bP 30000000000000 ((Ep.mk e p n).fill ((Ar.mk ⟨a,b,c⟩ g w li).fill y)):=.of (Ep.ba hs.2.1) h1 am am;have hi:∀i:Nat,i<=3->bP 400000000000000 (rep (λi y=>y.st (t+i) 0) i ((Ep.mk e p n).fill ((Ar.mk ⟨a,b,c⟩ g w li).fill y))):=λi hi=>bP.of (c:=i*1) (Gd.rep (c:=1) am i (λj hj=>Gd.st w0)) h2 am am;refine y1 H rfl ?_;intros
 (first|refine Vx.forM (C:=λl=>_::l) (mm:=(ai m vm)) (f:=(λi y=>y.st (t+i) 0)) (Int.toNat 3) (λi=>[I (i:Int)]) ?_ ?_|refine Vx.forM (C:=λl=>_::_::l) (mm:=(ai m vm)) (f:=(λi y=>y.st (t+i) 0)) (Int.toNat 3) (λi=>[I (i:Int)]) ?_ ?_|refine Vx.forM (C:=λl=>_::_::_::l) (mm:=(ai m vm)) (f:=(λi y=>y.st (t+i) 0)) (Int.toNat 3) (λi=>[I (i:Int)]) ?_ ?_|refine Vx.forM (C:=λl=>_::_::_::_::l) (mm:=(ai m vm)) (f:=(λi y=>y.st (t+i) 0)) (Int.toNat 3) (λi=>[I (i:Int)]) ?_ ?_|refine Vx.forM (C:=λl=>_::_::_::_::_::l) (mm:=(ai m vm)) (f:=(λi y=>y.st (t+i) 0)) (Int.toNat 3) (λi=>[I (i:Int)]) ?_ ?_|refine Vx.forM (C:=λl=>_::_::_::_::_::_::l) (mm:=(ai m vm)) (f:=(λi y=>y.st (t+i) 0)) (Int.toNat 3) (λi=>[I (i:Int)]) ?_ ?_)
 .intro i kj iH;have ma:=(hi i am).1;exact zZ;all_goals first
   |exact iH
   |(have EW:Vx EM (.ret .normal [I ((i:Int)+1)]) _ (_::(ai m vm (Me.st (rep (λi y=>y.st (t+i) 0) i ((Ep.mk e p n).fill ((Ar.mk ⟨a,b,c⟩ g w li).fill y))) (t+i) 0)++R)) ro _:=iH
     generalize ai m vm (Me.st _ _ _)=MM at EW⊢;exact Vx.bB HQ EW)
 .have ma:=(hi _ (Nat.le_refl _)).1;refine z1 ?_;exact⟨rfl,rfl,_,⟨rfl,rfl⟩,HQ⟩
instance Uh {a b c g w li e p n t:Int}:SC EM (zF 164) [.agg [I a,I b,I c,I g,I w,I li,I e,I p,I n,I t],.ptr m 0] (ai m vm y++R0) ((Lb.mk ⟨⟨a,b,c⟩,g,w,li⟩ ⟨e,p,n⟩ t).ok/\bP 10000000000000 y) uv (ai m vm ((Lb.mk ⟨⟨a,b,c⟩,g,w,li⟩ ⟨e,p,n⟩ t).fill y)++R0):=SC.mk' λh R ro B W S H=>KJ h.1 h.2 H
instance KK {nd hd ht a b c g w li e p n t:Int}:VC EM (zF 63) [.agg [I nd,I hd,I ht,I a,I b,I c,I g,I w,I li,I e,I p,I n,I t]] (X.To.ok ⟨nd,hd,ht,a,b,c,g,w,li,e,p,n,t⟩) (B true) where
 ok:=λhp S=>aw (X.vG (t:=⟨nd,hd,ht,a,b,c,g,w,li,e,p,n,t⟩)) λr S' h=>⟨h.1.trans (congrArg B (decide_eq_true hp)),h.2⟩
theorem KL {nd hd ht a b c g w li e p n t:Int}(hs:(Tw.mk nd hd ht ⟨⟨⟨a,b,c⟩,g,w,li⟩,⟨e,p,n⟩,t⟩).ok)(hy:bP 1000000000000 y)(H:Cx B0 W S (ai m vm y++R) ro):
  aG EM (zF 72) [.agg [I nd,I hd,I ht,I a,I b,I c,I g,I w,I li,I e,I p,I n,I t],.ptr m 0] S λu S'=>∃ab,(u=uv/\ab=ai m vm ((Tw.mk nd hd ht ⟨⟨⟨a,b,c⟩,g,w,li⟩,⟨e,p,n⟩,t⟩).fill y)++R)/\Cx B0 W S' ab ro:=by
 have bt:=hs;unfold Tw.ok Lb.ok Ar.ok Sk.ok at bt;dsimp only at bt;have hto:X.To.ok ⟨nd,hd,ht,a,b,c,g,w,li,e,p,n,t⟩:=by unfold X.To.ok;dsimp only;omega
 unfold Tw.fill;dsimp only;have h0:(Lb.mk ⟨⟨a,b,c⟩,g,w,li⟩ ⟨e,p,n⟩ t).ok/\bP 10000000000000 y:=⟨hs.2.2.2.2,hy.1,by have:=hy.2;omega⟩;have h1:bP 20000000000000 ((Lb.mk ⟨⟨a,b,c⟩,g,w,li⟩ ⟨e,p,n⟩ t).fill y):=.of (Lb.ba hs.2.2.2.2) hy am am;have hi:∀i:Nat,i<=ht.toNat->bP 400000000000000 (rep (λi y=>y.st (hd+i) 0) i ((Lb.mk ⟨⟨a,b,c⟩,g,w,li⟩ ⟨e,p,n⟩ t).fill y)):=λi hi=>bP.of (c:=i*1) (Gd.rep (c:=1) am i (λj hj=>Gd.st w0)) h1 am am;refine y1 H rfl ?_;intros
 (first|refine Vx.forM (C:=λl=>_::l) (mm:=(ai m vm)) (f:=(λi y=>y.st (hd+i) 0)) (Int.toNat ht) (λi=>[I (i:Int)]) ?_ ?_|refine Vx.forM (C:=λl=>_::_::l) (mm:=(ai m vm)) (f:=(λi y=>y.st (hd+i) 0)) (Int.toNat ht) (λi=>[I (i:Int)]) ?_ ?_|refine Vx.forM (C:=λl=>_::_::_::l) (mm:=(ai m vm)) (f:=(λi y=>y.st (hd+i) 0)) (Int.toNat ht) (λi=>[I (i:Int)]) ?_ ?_|refine Vx.forM (C:=λl=>_::_::_::_::l) (mm:=(ai m vm)) (f:=(λi y=>y.st (hd+i) 0)) (Int.toNat ht) (λi=>[I (i:Int)]) ?_ ?_|refine Vx.forM (C:=λl=>_::_::_::_::_::l) (mm:=(ai m vm)) (f:=(λi y=>y.st (hd+i) 0)) (Int.toNat ht) (λi=>[I (i:Int)]) ?_ ?_|refine Vx.forM (C:=λl=>_::_::_::_::_::_::l) (mm:=(ai m vm)) (f:=(λi y=>y.st (hd+i) 0)) (Int.toNat ht) (λi=>[I (i:Int)]) ?_ ?_)
 .intro i kj iH;have ma:=(hi i am).1;exact zZ;all_goals exact iH
 .have ma:=(hi _ (Nat.le_refl _)).1;refine z1 ?_;intros;exact⟨rfl,rfl,_,⟨rfl,rfl⟩,HQ⟩
instance Ui {nd hd ht a b c g w li e p n t:Int}:SC EM (zF 72) [.agg [I nd,I hd,I ht,I a,I b,I c,I g,I w,I li,I e,I p,I n,I t],.ptr m 0] (ai m vm y++R0) ((Tw.mk nd hd ht ⟨⟨⟨a,b,c⟩,g,w,li⟩,⟨e,p,n⟩,t⟩).ok/\bP 1000000000000 y) uv (ai m vm ((Tw.mk nd hd ht ⟨⟨⟨a,b,c⟩,g,w,li⟩,⟨e,p,n⟩,t⟩).fill y)++R0):=SC.mk' λh R ro B W S H=>KL h.1 h.2 H
theorem KM {f n r:Int}(hs:(0<=f/\f<4096)/\(1<=n/\n<=64)/\1<=r/\r<=16)(hy:bP 10000000000000 y)(H:Cx B0 W S (ai m vm y++R) ro):
  aG EM (zF 75) [.agg [I f,I n,I r],.ptr m 0] S λu S'=>∃ab,(u=uv/\ab=ai m vm (jn f n r y)++R)/\Cx B0 W S' ab ro:=by
 unfold jn;have hb:∀i:Nat,i<n.toNat->0<=(i:Int)*(r+2)/\(i:Int)*(r+2)<=64*18:=λi hi=>⟨Int.mul_nonneg am am,Int.mul_le_mul am am am am⟩;have hi:∀i:Nat,i<=n.toNat->bP 40000000000000 (rep (λc y=>Rn.fill ⟨f+c*(r+2),f+c*(r+2)+1,f+c*(r+2)+2,r⟩ y) i y):=λi hi=>bP.of (c:=i*5000) (Gd.rep (c:=5000) am i (λj hj=>Rn.ba (by dsimp only;omega))) hy am am;refine y1 H rfl ?_;intros
 (first|refine Vx.forM (C:=λl=>_::l) (mm:=(ai m vm)) (f:=(λc y=>Rn.fill ⟨f+c*(r+2),f+c*(r+2)+1,f+c*(r+2)+2,r⟩ y)) (Int.toNat n) (λi=>[I (i:Int)]) ?_ ?_|refine Vx.forM (C:=λl=>_::_::l) (mm:=(ai m vm)) (f:=(λc y=>Rn.fill ⟨f+c*(r+2),f+c*(r+2)+1,f+c*(r+2)+2,r⟩ y)) (Int.toNat n) (λi=>[I (i:Int)]) ?_ ?_|refine Vx.forM (C:=λl=>_::_::_::l) (mm:=(ai m vm)) (f:=(λc y=>Rn.fill ⟨f+c*(r+2),f+c*(r+2)+1,f+c*(r+2)+2,r⟩ y)) (Int.toNat n) (λi=>[I (i:Int)]) ?_ ?_|refine Vx.forM (C:=λl=>_::_::_::_::l) (mm:=(ai m vm)) (f:=(λc y=>Rn.fill ⟨f+c*(r+2),f+c*(r+2)+1,f+c*(r+2)+2,r⟩ y)) (Int.toNat n) (λi=>[I (i:Int)]) ?_ ?_|refine Vx.forM (C:=λl=>_::_::_::_::_::l) (mm:=(ai m vm)) (f:=(λc y=>Rn.fill ⟨f+c*(r+2),f+c*(r+2)+1,f+c*(r+2)+2,r⟩ y)) (Int.toNat n) (λi=>[I (i:Int)]) ?_ ?_|refine Vx.forM (C:=λl=>_::_::_::_::_::_::l) (mm:=(ai m vm)) (f:=(λc y=>Rn.fill ⟨f+c*(r+2),f+c*(r+2)+1,f+c*(r+2)+2,r⟩ y)) (Int.toNat n) (λi=>[I (i:Int)]) ?_ ?_)
 .intro i kj iH;have q:=hb i kj;have ma:(Rn.mk (f+i*(r+2)) (f+i*(r+2)+1) (f+i*(r+2)+2) r).ok/\bP 100000000000000 (rep (λc y=>Rn.fill ⟨f+c*(r+2),f+c*(r+2)+1,f+c*(r+2)+2,r⟩ y) i y):=⟨by unfold Rn.ok;dsimp only;omega,(hi i am).1,by have:=(hi i am).2;omega⟩;refine z1 ?_;intros;all_goals first
   |exact iH
   |(have EW:Vx EM (.ret .normal [I ((i:Int)+1)]) _ (_::_::(ai m vm (Rn.fill ⟨f+i*(r+2),f+i*(r+2)+1,f+i*(r+2)+2,r⟩ (rep (λc y=>Rn.fill ⟨f+c*(r+2),f+c*(r+2)+1,f+c*(r+2)+2,r⟩ y) i y))++R)) ro _:=iH
     generalize ai m vm (Rn.fill _ _)=MM at EW⊢;exact Vx.bB HQ EW)
   |skip
 .refine z1 ?_;intros;exact⟨rfl,rfl,_,⟨rfl,rfl⟩,HQ⟩
instance Uj {f n r:Int}:SC EM (zF 75) [.agg [I f,I n,I r],.ptr m 0] (ai m vm y++R0) (((0<=f/\f<4096)/\(1<=n/\n<=64)/\1<=r/\r<=16)/\bP 10000000000000 y) uv (ai m vm (jn f n r y)++R0):=SC.mk' λh R ro B W S H=>KM h.1 h.2 H
variable{x:Xc}{v:AV}{l:List dZ.Tk}
theorem KN (hx:x.ok)(hv:aB.sl v 4 (dZ.ep l)∈ro)(hs:x.ex.ok l)(hy:bP 100000000 y)(H:Cx B0 W S (ai m vm y++R) ro):
  aG EM (zF 15) [.agg (x.cs++[v]),.ptr m 0] S λu S'=>∃ab,(u=uv/\ab=ai m vm (x.fill y)++R)/\Cx B0 W S' ab ro:=by
 have hl:g_ S v 4 (dZ.ep l):=(H.hH hv).1;obtain⟨ov,cv⟩:=X.ef hl;have uD:=hx;unfold Xc.ok Tw.ok Lb.ok Ep.ok Rs.ok at uD;have hm:=Xc.ru hs;have Y2:(l.length:Int)<=32:=by
  have h:=hs.2.1;unfold dZ.kq at h;split at h;.cases h
  .omega
 have k0:x.t.ok/\bP 1000000000000 y:=⟨hx.1,hy.1,by have:=hy.2;omega⟩;have h1:bP 200000000 (x.t.fill y):=.of (Tw.ba hx.1) hy am am;have k1:(1<=x.many/\x.many<=32/\0<=x.cn/\x.cn<100000)/\bP 100000000000000 (x.t.fill y):=⟨am,h1.1,by have:=h1.2;omega⟩;have h2:bP 300000000 (fy x.cn x.many (x.t.fill y)):=.of (vQ am) h1 am am;have k2:(x.j.ok/\x.j.f.size<=64)/\bP 100000000000000 (fy x.cn x.many (x.t.fill y)):=⟨⟨hx.2.1,am⟩,h2.1,by have:=h2.2;omega⟩;have h3:bP 400000000 (x.j.fill (fy x.cn x.many (x.t.fill y))):=.of (Jb.ba hx.2.1) h2 am am;have k3:((0<=x.iW/\x.iW<4096)/\(1<=x.aJ/\x.aJ<=64)/\1<=x.room/\x.room<=16)/\bP 10000000000000 (x.j.fill (fy x.cn x.many (x.t.fill y))):=⟨am,h3.1,by have:=h3.2;omega⟩;have h4:bP 500000000 (jn x.iW x.aJ x.room (x.j.fill (fy x.cn x.many (x.t.fill y)))):=.of (vR am am) h3 am am;have k4:x.r.ok/\bP 100000000000000 (jn x.iW x.aJ x.room (x.j.fill (fy x.cn x.many (x.t.fill y)))):=⟨hx.2.2.1,h4.1,by have:=h4.2;omega⟩;have h5:bP 600000000 (x.r.fill (jn x.iW x.aJ x.room (x.j.fill (fy x.cn x.many (x.t.fill y))))):=.of (Rs.ba am) h4 am am;have hi:∀i:Nat,i<=x.r.ah.toNat->bP 700000000 (rep (λi y=>y.st (x.own+i) 0) i (x.r.fill (jn x.iW x.aJ x.room (x.j.fill (fy x.cn x.many (x.t.fill y)))))):=λi hi=>bP.of (c:=i*1) (Gd.rep (c:=1) am i (λj hj=>Gd.st w0)) h5 am am;unfold Xc.fill;rw[show x.t.l.e.ah=x.r.ah by omega];simp only[Xc.cs,Tw.cs,Lb.cs,Ar.cs,Ep.cs,lA,lB];refine y1 H rfl ?_;intros;refine Vx.spec (Ψ:=λu ab=>u=B true/\ab=_) (λB1 W1 S1 H=>aw (X.iF (e:=x.ex) hv H) λr S' h=>⟨_,⟨h.1.trans (congrArg B (decide_eq_true hs)),rfl⟩,H.grow h.2⟩) ?_;rintro _ _ ⟨rfl,rfl⟩;refine z1 ?_
 (first|refine Vx.forM (C:=λl=>_::l) (mm:=(ai m vm)) (f:=(λi y=>y.st (x.own+i) 0)) (Int.toNat x.r.ah) (λi=>[I (i:Int)]) ?_ ?_|refine Vx.forM (C:=λl=>_::_::l) (mm:=(ai m vm)) (f:=(λi y=>y.st (x.own+i) 0)) (Int.toNat x.r.ah) (λi=>[I (i:Int)]) ?_ ?_|refine Vx.forM (C:=λl=>_::_::_::l) (mm:=(ai m vm)) (f:=(λi y=>y.st (x.own+i) 0)) (Int.toNat x.r.ah) (λi=>[I (i:Int)]) ?_ ?_|refine Vx.forM (C:=λl=>_::_::_::_::l) (mm:=(ai m vm)) (f:=(λi y=>y.st (x.own+i) 0)) (Int.toNat x.r.ah) (λi=>[I (i:Int)]) ?_ ?_|refine Vx.forM (C:=λl=>_::_::_::_::_::l) (mm:=(ai m vm)) (f:=(λi y=>y.st (x.own+i) 0)) (Int.toNat x.r.ah) (λi=>[I (i:Int)]) ?_ ?_|refine Vx.forM (C:=λl=>_::_::_::_::_::_::l) (mm:=(ai m vm)) (f:=(λi y=>y.st (x.own+i) 0)) (Int.toNat x.r.ah) (λi=>[I (i:Int)]) ?_ ?_)
 .intro i kj iH;have ma:=(hi i am).1;exact zZ;all_goals exact iH
 .have ma:=(hi _ (Nat.le_refl _)).1;refine z1 ?_;intros;exact⟨rfl,rfl,_,⟨rfl,rfl⟩,HQ⟩
end
section
variable{B0 S:AH}{W:List Nat}{own R:List Own}{ro:List aB}{Q:ga}{k:AV->AC}{m bl w:Nat}{v:AV}{x:Me}{rest:List AV}
theorem n8 {M z}{bytes n:Nat}(H:Cx B0 W S own ro)(hb:bytes*n<=140737488355328)(hn:n<=9223372036854775807)
  (h:∀t S1,Cx B0 W S1 (.sl t 1 (List.replicate n [z])::own) ro->wp M (k t) S1 Q):wp M (.op (.gL 1 bytes [z] (I (n:Int)) (I (n:Int))) k) S Q:=by
 have hz:∀m:Nat,bh [z] m=List.replicate m z:=by
  intro m;induction m with
  |zero=>rfl
  |succ m ih=>show jq [z] (bh [z] m)=_;rw[ih,ft];rfl
 have Pb:nat? (n:Int)=some n:=by unfold nat?;rfl
 refine ae (v:=.sl S.next 0 n n) (S1:=S.new (.row (List.replicate n z))) ?_ (h _ _ (H.gD (aR.new S _) (.inr ⟨S.next,0,List.replicate n z,.inl ⟨n,ac,ac,ac⟩,bk _ _,?_,?_⟩) ?_))
 .show gM 1 bytes [z] (I (n:Int)) (I (n:Int)) S=_;unfold gM;simp only[asInt,lI,Pb];have e:(Nat.ble n n&&Nat.ble (Nat.mul bytes n) 140737488355328&&Nat.ble n 9223372036854775807&&Nat.beq (bD [z]) 1)=true:=by have wQ:Nat.ble (Nat.mul bytes n) 140737488355328=true:=cJ hb;rw[cJ (Nat.le_refl n),wQ,cJ hn];rfl
  rw[e,hz];rfl
 .have:∀m:Nat,(List.replicate m [z]).flatten=List.replicate m z:=by
   intro m;induction m with
   |zero=>rfl
   |succ m ih=>rw[List.replicate_succ,List.flatten_cons,ih];rfl
  rw[this];simp
 .intro x hx;rw[(List.mem_replicate.1 hx).2];rfl
 .intro j hj;simp only[Own.ids,dQ,List.mem_singleton] at hj;subst hj;simp
theorem EX {M}{len id n:Nat}(hn:n<=len)(hl:Nat.beq len 0=false)(h:wp M (k (.sl id 0 n len)) S Q):wp M (.op (.o_ len 1 (.ptr id 0) none (some (I (n:Int))) none) k) S Q:=by
 refine ae (v:=.sl id 0 n len) ?_ h;show eN (kx len 1 (.ptr id 0) none (some (I (n:Int))) none) S=_;have e1:fY (some (I (n:Int))) len len=some n:=by show Ja (I (n:Int)) len=_;unfold Ja;show below n len.succ=some n;unfold below;rw[cJ am]
 have e2:jN none (some (I (n:Int))) none len len=some (0,n,len):=by unfold jN;show(match fY (some (I (n:Int))) len len with|some h=>_|none=>none)=_;rw[e1];rfl
 unfold kx;simp only[e2,hl];rfl
def Me.fresh (n:Nat):Me:=⟨List.replicate n 0,0,0,0,0,false,0⟩
theorem KO {n:Nat}(h1:1<=n)(h2:n<=4096)(H:Cx B0 W S own ro):aG EM (zF 12) [I (n:Int)] S λr S'=>∃m bl,r=.dD [.ptr m 0,I 0]/\Cx B0 W S' (ad m bl (Me.fresh n) (List.replicate (4096-n) (U 0))++own) ro:=by
 refine aV (b:=Tryz.a12) rfl rfl ?_;rw[Tryz.u12];refine jV am ?_
 (try(refine zz ?_;(repeat constructor);intro _))
 refine uV am ?_
 (try(refine zz ?_;(repeat constructor);intro _))
 refine fM H λbl S1 H=>?_;refine ae (v:=.agg ((Me.fresh n).td bl)) (by unfold Me.fresh Me.td;rw[List.length_replicate];rfl) ?_;refine fR H rfl λm S2 H=>?_;have e:List.replicate 4096 (U 0)=(Me.fresh n).ws.map U++List.replicate (4096-n) (U 0):=by unfold Me.fresh;rw[List.map_replicate,List.replicate_append_replicate,show n+(4096-n)=4096 by omega]
 have H:Cx B0 W S2 (.obj m (.row (AV.agg ((Me.fresh n).td bl)).cells)::.obj bl (.row (List.replicate 4096 (U 0)))::own) ro:=H;rw[e] at H;exact wp_ret ⟨rfl,m,bl,rfl,H⟩
theorem Ir (hx:x.gd)(hr:x.ws.length+rest.length=4096)(H:Cx B0 W S (ad m bl x rest++R) ro):aG EM (zF 28) [.ptr m 0] S λr S'=>Cx B0 W S' (.sl r 1 (bq x.ws)::(ad m bl x rest++R)) ro:=by
 refine aV (b:=Tryz.a28) rfl rfl ?_;rw[Tryz.u28];unfold Me.gd at hx;refine ae (j7 (by kernel_rfl)) ?_
 (try(refine zz ?_;(repeat constructor);intro _))
 refine bO (j:=0) H 0 rfl rfl ?_
 (try(refine zz ?_;(repeat constructor);intro _))
 refine ae (j7 (by kernel_rfl)) ?_
 (try(refine zz ?_;(repeat constructor);intro _))
 refine bO (j:=1) H 0 rfl rfl ?_;refine n8 H am am λt S1 H=>?_;have H:Cx B0 W S1 (.sl t 1 (List.replicate x.ws.length [U 0])::(ad m bl x rest++R)) ro:=H
 (try(refine zz ?_;(repeat constructor);intro _))
 refine bO (j:=0) H 1 rfl rfl ?_
 (try(refine zz ?_;(repeat constructor);intro _))
 refine bO (j:=1) H 1 rfl rfl ?_;refine EX am rfl ?_;refine ae (v:=I (x.ws.length:Nat)) rfl ?_;refine wp_bind (wp_loop (ym x.ws.length (λi vs S'=>vs=[I (i:Int)]/\Cx B0 W S' (.sl t 1 (bq (x.ws.take i)++List.replicate (x.ws.length-i) [U 0])::(ad m bl x rest++R)) ro) ?_ ?_ ⟨rfl,by simpa[bq] using H⟩))
 .rintro i vs S2 hi ⟨rfl,H⟩;refine nM am ?_
  (try(refine zz ?_;(repeat constructor);intro _))
  refine wp_bind ?_;refine ae (S1:=S2) (v:=.ptr bl (0+i*1)) ?_ ?_
  .show eN (fZ 1 (.sl bl 0 x.ws.length 4096) (I (i:Int))) S2=_;unfold fZ;have h3:nj (I (i:Int)) x.ws.length=some i:=by show below i x.ws.length=some i;unfold below;rw[cJ am]
   simp only[h3];rfl
  have hw:x.ws[i]?=some x.ws[i]:=List.getElem?_eq_getElem hi;rw[show 0+i*1=i by omega];refine bO (j:=i) H 2 rfl (qS hw) ?_;generalize x.ws[i]=z at hw;refine rQ (y:=U z) (i:=i) H 0 rfl (by simp[bq];omega) rfl rfl λS3 H=>?_;refine wp_ret ?_;show wp EM _ _ _;refine ct am am ?_;refine wp_ret (.inl ⟨rfl,rfl,?_⟩);have e:(bq (x.ws.take i)++List.replicate (x.ws.length-i) [U 0]).set i [U z]=bq (x.ws.take (i+1))++List.replicate (x.ws.length-(i+1)) [U 0]:=by
   have hl:(bq (x.ws.take i)).length=i:=by rw[eD,List.length_take];omega
   rw[List.set_append_right _ _ am,hl,Nat.sub_self,List.take_add_one,hw,show x.ws.length-i=(x.ws.length-(i+1))+1 by omega,List.replicate_succ,List.set_cons_zero];simp[bq]
  exact e▸H
 .rintro vs S2 ⟨rfl,H⟩;refine jV am ?_
  (try(refine zz ?_;(repeat constructor);intro _))
  refine wp_ret ⟨ac,?_⟩;show wp EM _ _ _;refine wp_ret ⟨rfl,?_⟩;rw[List.take_length,Nat.sub_self,show bq x.ws++List.replicate 0 [U 0]=bq x.ws by simp] at H;exact H
theorem KP {n:Nat}(h1:1<=n)(h2:n<=4096)(H:Cx B0 W S own ro):aG EM (zF 13) [I (n:Int)] S λr S'=>∃w v,r=.dD [.ptr w 0,I 0]/\Cx B0 W S' (ai w v (Me.fresh n)++own) ro:=by
 refine aV (b:=Tryz.a13) rfl rfl ?_;rw[Tryz.u13];refine jV am ?_
 (try(refine zz ?_;(repeat constructor);intro _))
 refine uV am ?_
 (try(refine zz ?_;(repeat constructor);intro _))
 refine n8 H am am λt S1 H=>?_;have ht:=dB (iT (H.oh _ (List.Mem.head _)));refine ae (S1:=S1) (v:=.agg ((Me.fresh n).JU t)) ?_ ?_
 .show eN (kT [Ns,I 0,I 0,U 0,U 0,B false,I 0] [(0,1,t)]) S1=_;have e1:(not (odd t)&&Nat.beq (bD t.cells) 1&&Nat.ble (Nat.add 0 1) (bD [Ns,I 0,I 0,U 0,U 0,B false,I 0]))=true:=by rw[ht.1,ht.2.1];rfl
  unfold kT fo;rw[e1,ht.2.1];rfl
 refine fR H rfl λw S2 H=>?_;have e:List.replicate n [U 0]=bq (Me.fresh n).ws:=by unfold Me.fresh bq;rw[List.map_replicate]
 rw[e] at H;exact wp_ret ⟨rfl,w,t,rfl,H⟩
theorem Zx.Is {M Φ K v}{i:Int}{k}(h:bL (Vx M (.op (.da 1 v (I i)) k) K own ro Φ)):Zx M false (.op (.da 1 v (I i)) k) K own ro Φ:=.z h
theorem Vx.Uk {M Φ K v x}{i:Int}{P:Prop}[c:G7 own v i P x]{k}(hp:P)(h:Zx M false (k x) K own ro Φ):Vx M (.op (.da 1 v (I i)) λp=>.op (.load 1 false p) k) K own ro Φ:=(Zx.Xs (v:=v) (i:=i) (bL.of hp) h).ok
theorem It {a b l}(hl:l.length<=4096)(H:Cx B0 W S (.sl a 1 (bq l)::.sl b 1 (bq l)::R) ro):aG EM (zF 27) [a,b] S λu S'=>∃ab,(u=B true/\ab=.sl a 1 (bq l)::.sl b 1 (bq l)::R)/\Cx B0 W S' ab ro:=by
 refine y1 H rfl ?_;intros;have hlen:(Int.ofNat (bq l).length)=(l.length:Int):=by rw[eD];rfl
 refine Vx.Nu l.length (λi=>[I (i:Int),B true]) ?_ ?_
 .intro i hi hn;have hp:0<=(i:Int)/\(i:Int)<l.length:=am;haveI:LD (bq l) (i:Int) (0<=(i:Int)/\(i:Int)<l.length) (U (l[i]?.getD 0)):=XZ;repeat'(first|refine Zx.Is ?_|constructor|(intro h;first|(exfalso;omega)|skip))
  (all_goals first|exact ZM|try refine zL ?_)
  show Vx EM (.op (.da 1 a (I (i:Int))) _) _ _ _ _;refine Vx.Uk (x:=U (l[i]?.getD 0)) hp ?_;repeat'(first|refine Zx.Is ?_|constructor|(intro h;first|(exfalso;omega)|skip))
  (all_goals first|exact ZM|try refine zL ?_)
  show Vx EM (.op (.da 1 b (I (i:Int))) _) _ _ _ _;refine Vx.Uk (x:=U (l[i]?.getD 0)) hp ?_;exact zZ;all_goals first
   |exact hn
   |(exfalso;rw[hlen] at*;omega)
   |skip
 .refine z1 ?_;intros;all_goals first
   |(exfalso;rw[hlen] at*;omega)
   |exact⟨rfl,rfl,_,⟨rfl,rfl⟩,HQ⟩
   |skip
end
end Go.cO
