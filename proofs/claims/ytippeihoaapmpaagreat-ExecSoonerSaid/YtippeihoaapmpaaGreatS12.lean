/- 2 cores, height 3. No condition. -/
import Derived.Test.YtippeihoaapmpaaGreatS
namespace Go.Proofs.YtippeihoaapmpaaGreat.Sooner12
open Go.Abs
set_option maxRecDepth 1000000
set_option linter.unusedVariables false
noncomputable def o := U 0
noncomputable def y := I 0
noncomputable def z := rp (U 0)
noncomputable def x := rp (U 1)
noncomputable def w := rp (I 0)
noncomputable def e : List AV := [(I 2),(I 6),(I 7),(I 4),(I 6),(I 1000),(.sl 0 0 2 2),(I 26),(I 22),(I 4),y,(I 1),(I 7),(I 8),(I 15),(I 1000),(I 16),(I 17),(I 2),(I 19),(I 82),(I 2),(I 84),(I 90),(I 96),(I 97),(I 6),(I 103),(I 2),(I 6),(I 119),(I 121),(I 2),(I 123),(I 125),(.op 20 0 2 2 4),(.ptr 24 0),(.sl 458 0 2 2),(.sl 459 0 2 2),y]
noncomputable def lP1 : List (Nat × List AV) := [(0,[(I 2),(I 9),y,y,(I 2),(I 1),y,y]),(20,[(I 2),(I 9),y,y,(I 2),(I 1),y,y]),(23,((U 1)::(U 2)::(U 3)::(U 4)::(U 5)::(U 6)::(U 7)::o::(x 7 (z 69 (rp (U 4294967297) 6 (z 6 ((U 1)::(U 2)::(U 3)::(U 4)::(U 5)::(U 6)::(z 17 ((U 18446744073709551615)::(U 18446744073709551615)::(z 3975 [])))))))))),(24,[(.ptr 23 0),(I 126),(I 2),(I 125),o,o,(B true),(I 70)]),(458,[Np,Np]),(459,[y,y]),(460,e++[Ns,Ns,Ns,(B false),(B false)])]
noncomputable def lR2 : List (Nat × List AV) := [(0,[(I 2),(I 9),y,y,(I 2),(I 1),y,y]),(20,[(I 2),(I 9),y,y,(I 2),(I 1),y,y]),(23,((U 131075)::o::(U 1)::(U 4)::(U 5)::(U 6)::(U 7)::o::(x 7 (z 4 ((U 131074)::(z 6 ((U 648518346341416960)::o::(U 3)::o::(U 9223372036854775808)::(U 9223372036854775808)::(U 9223372036854775808)::o::(U 648518346341482496)::(U 1)::(U 3)::o::(U 9223372036854775808)::(U 9223372036854775808)::(U 9223372036854775808)::(z 41 ((U 1)::o::(U 8589934596)::(U 8589934852)::(rp (U 4294967297) 4 ((U 648518346341416960)::(U 648518346341482496)::(z 4 ((U 131075)::(U 2)::(U 3)::(U 4)::(U 5)::(U 6)::o::(U 2)::(U 2)::(U 4294967296)::(U 4294967296)::(z 12 ((U 648518346341416960)::(U 648518346341482496)::o::o::(U 1)::(U 2)::(U 2)::(z 3970 [])))))))))))))))),(24,[(.ptr 23 0),(I 126),(I 2),(I 18),(U 1),o,(B true),(I 268)]),(458,[Np,Np]),(459,[y,y]),(460,e++[(.op 2712 0 2 2 2),(.op 2714 0 2 2 1),Ns,(B false),(B false)]),(2712,[y,(U 648518346341416960),(I 1),(U 648518346341482496)]),(2714,[y,y])]
theorem tP1 : endsAs [B true, (I 2), (I 3), (.ptr 460 0)] 461 lP1 (run Tryz.prog (callT Tryz.prog Tryz.tbl kn2 4000000) 4000000 (q12 [I 1, I 2]) ⟨.e, 0⟩) = true := by kernel_rfl
theorem tR2 : endsAs [I 2, B false] 4533 lR2 (rounds (bodyL (I 2) (I 3) (.ptr 460 0)) 2 [I 0, B false] (lit 461 lP1)) = true := by kernel_rfl
theorem tE : outTrue (run Tryz.prog (callT Tryz.prog Tryz.tbl kn2 4000000) 4000000 (Tryz.a12x25 (B true) (I 2) (I 3) (.ptr 460 0) [I 2, B false]) (lit 4533 lR2)) = true := by kernel_rfl
theorem ok : ∃ n, isTrue (callT Tryz.prog Tryz.tbl kn2 n (.fn (.func 12) [] []) [I 1, I 2] ⟨.e, 0⟩) = true :=
  soonerFrom tP1 fun T hT => roundsL tR2 hT fun T hT => exitL (Go.Abs.wp_pieceTrue hx2 4000000 tE hT)
end Go.Proofs.YtippeihoaapmpaaGreat.Sooner12
