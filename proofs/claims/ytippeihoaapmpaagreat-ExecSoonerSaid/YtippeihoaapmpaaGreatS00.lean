/- 1 cores, height 1. No condition. -/
import Derived.Test.YtippeihoaapmpaaGreatS
namespace Go.Proofs.YtippeihoaapmpaaGreat.Sooner00
open Go.Abs
set_option maxRecDepth 1000000
set_option linter.unusedVariables false
noncomputable def o := U 0
noncomputable def y := I 0
noncomputable def z := rp (U 0)
noncomputable def x := rp (U 1)
noncomputable def w := rp (I 0)
noncomputable def e : List AV := [(I 1),(I 6),(I 7),(I 4),(I 6),(I 1000),(.sl 0 0 2 2),(I 25),(I 21),(I 4),y,(I 1),(I 7),(I 8),(I 15),(I 1000),(I 16),(I 17),(I 1),(I 18),(I 81),(I 2),(I 83),(I 89),(I 95),(I 96),(I 6),(I 102),(I 1),(I 6),(I 110),(I 111),(I 1),(I 112),(I 113),(.op 20 0 2 2 4),(.ptr 24 0),(.sl 419 0 1 1),(.sl 420 0 1 1),y]
noncomputable def lP1 : List (Nat × List AV) := [(0,[(I 2),(I 9),y,y,(I 2),(I 1),y,y]),(20,[(I 2),(I 9),y,y,(I 2),(I 1),y,y]),(23,((U 1)::(U 2)::(U 3)::(U 4)::(U 5)::(U 6)::(U 7)::o::(x 7 (z 68 (rp (U 4294967297) 6 (z 6 ((U 1)::(U 2)::(U 3)::(U 4)::(U 5)::(U 6)::(z 9 ((U 18446744073709551615)::(z 3985 [])))))))))),(24,[(.ptr 23 0),(I 114),(I 2),(I 113),o,o,(B true),(I 58)]),(419,[Np]),(420,[y]),(421,e++[Ns,Ns,Ns,(B false),(B false)])]
noncomputable def lR1 : List (Nat × List AV) := [(0,[(I 2),(I 9),y,y,(I 2),(I 1),y,y]),(20,[(I 2),(I 9),y,y,(I 2),(I 1),y,y]),(23,((U 65538)::o::(U 3)::(U 4)::(U 5)::(U 6)::(U 7)::o::(x 7 (o::o::o::(U 65537)::(z 6 ((U 648518346341416960)::o::(U 1)::o::(U 9223372036854775808)::(z 51 ((U 1)::o::(U 8589934596)::(rp (U 4294967297) 5 ((U 648518346341416960)::(z 5 ((U 65538)::(U 2)::(U 3)::(U 4)::(U 5)::(U 6)::o::(U 1)::(U 1)::(U 4294967296)::(z 5 ((U 648518346341416960)::o::(U 1)::(U 1)::(z 3982 []))))))))))))))),(24,[(.ptr 23 0),(I 114),(I 2),(I 17),(U 1),o,(B true),(I 142)]),(419,[Np]),(420,[y]),(421,e++[(.op 637 0 1 1 2),(.op 639 0 1 1 1),Ns,(B false),(B false)]),(637,[y,(U 648518346341416960)]),(639,[y])]
theorem tP1 : endsAs [B true, (I 1), (I 1), (.ptr 421 0)] 422 lP1 (run Tryz.prog (callT Tryz.prog Tryz.tbl kn2 4000000) 4000000 (q12 [I 0, I 0]) ⟨.e, 0⟩) = true := by kernel_rfl
theorem tR1 : endsAs [I 1, B false] 2091 lR1 (rounds (bodyL (I 1) (I 1) (.ptr 421 0)) 1 [I 0, B false] (lit 422 lP1)) = true := by kernel_rfl
theorem tE : outTrue (run Tryz.prog (callT Tryz.prog Tryz.tbl kn2 4000000) 4000000 (Tryz.a12x25 (B true) (I 1) (I 1) (.ptr 421 0) [I 1, B false]) (lit 2091 lR1)) = true := by kernel_rfl
theorem ok : ∃ n, isTrue (callT Tryz.prog Tryz.tbl kn2 n (.fn (.func 12) [] []) [I 0, I 0] ⟨.e, 0⟩) = true :=
  soonerFrom tP1 fun T hT => roundsL tR1 hT fun T hT => exitL (Go.Abs.wp_pieceTrue hx2 4000000 tE hT)
end Go.Proofs.YtippeihoaapmpaaGreat.Sooner00
