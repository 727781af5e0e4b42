/- The bodies of functions of this cut, gone through by Lean itself. No condition. -/
import Derived.Test.YtdidccjcbfcklaaGreatT0
set_option linter.unusedVariables false
set_option linter.defProp false
set_option maxRecDepth 100000
set_option maxHeartbeats 0
namespace Go.Proofs.Tryz
noncomputable section
open Go.Abs
open Int renaming ofNat_eq_natCast → n1, cast_ofNat_Int → n2
def a3x0 (v20 v21 : AV) : AC := .ite v21 (.ret .normal [(I 0)]) (.ret .normal [v20])
def a3x1 (v6 : List AV) (v22 : List AV) (v23 v29 v30 v31 v32 v33 v34 : AV) : AC := .gop v29 false (.bin .add v34 (I 1)) fun v35=>.gcall v29 false (.fn (.func 10) [] []) [v32, v33, v35] fun v36=>.gchk v29 false (.load 1 false v30) v31 (.gop v29 false (.bin .neq v31 v36) fun v37=>.op (.pick v29 (B true) v37) fun v38=>.ite v38 (.ret .ret [(B false), v23, (nth v22 0)]) (.ret .normal [(nth v6 1), v23, (nth v22 0)]))
def a3x2 (v6 : List AV) (v16 v19 : AV) (v22 : List AV) (v23 v24 v28 : AV) : AC := .op (.pick v24 (B true) v28) fun v29=>.gop v29 false (.faddr 0 v16) fun v30=>.gop v29 false (.load 1 false v30) fun v31=>.gop v29 false (.mv v19) fun v32=>.gop v29 false (.mv (nth v22 0)) fun v33=>.gop v29 false (.mv v23) fun v34=>(a3x1 v6 v22 v23 v29 v30 v31 v32 v33 v34)
def a3x3 (v4 : AV) (v6 : List AV) (v11 v15 v16 v19 : AV) (v22 : List AV) : AC := .op (.bin .add (nth v6 2) v11) fun v23=>.op (.bin .neq v15 (I 0)) fun v24=>.gop v24 false (.mv v4) fun v25=>.gop v24 false (.mv v23) fun v26=>.gcall v24 false (.fn (.func 9) [] []) [v25] fun v27=>.gop v24 false (.bin .neq v27 v26) fun v28=>(a3x2 v6 v16 v19 v22 v23 v24 v28)
def a3x4 (v4 : AV) (v6 : List AV) (v11 v15 v16 : AV) : AC := .call (.fn (.func 8) [] []) [v4] fun v18=>.op (.part 28 1 false v18) fun v19=>.op (.bin .add (nth v6 2) (I 1)) fun v20=>.op (.bin .eql (nth v6 0) (I 0)) fun v21=>.bind ((a3x0 v20 v21)) none (fun v22=>(a3x3 v4 v6 v11 v15 v16 v19 v22)) (fun v22=>[(nth v6 1), (nth v6 2), (nth v22 0)])
def a3x5 (v4 : AV) (v6 : List AV) (v11 : AV) : AC := .op (.build [(I 0), (I 0), (I 0)] [(0, 1, (I 8)), (2, 1, v11)]) fun v12=>.call (.fn (.func 7) [] []) [v4, v12] fun v13=>.op (.extract 0 v13) fun v14=>.op (.extract 1 v13) fun v15=>.op (.alloc [(I 0), (B false), (I 0), (I 0), (U 0)]) fun v16=>.op (.store 5 v16 v14) fun v17=>(a3x4 v4 v6 v11 v15 v16)
def a3x6 (v0 : List AV) (v4 : AV) (v6 : List AV) : AC := .bind (.op (.saddr 1 (nth v0 1) (nth v6 0)) fun v9=>.op (.load 1 false v9) fun v10=>.call (.fn (.func 6) [] []) [v10, (I 60)] fun v11=>(a3x5 v4 v6 v11)) (some 3) (fun v9=>.op (.bin .add (nth v6 0) (I 1)) fun v10=>.ret .normal [v10, (nth v9 0), (nth v9 1), (nth v9 2)]) (fun v9=>[(nth v6 0), (nth v9 0), (nth v9 1), (nth v9 2)])
def a3x7 (v0 : List AV) (v4 : AV) : AC := .loop [(I 0), (B false), (I 0), .no] (fun v6=>.op (.len false (nth v0 1)) fun v7=>.op (.bin .lss (nth v6 0) v7) fun v8=>.ite v8 ((a3x6 v0 v4 v6)) (.ret (.exit 0) [(nth v6 0), (nth v6 1), (nth v6 2), (nth v6 3)])) (fun v6=>[(nth v6 0), (nth v6 1), (nth v6 2), (nth v6 3)])
def a3x8 (v20 : List AV) (v35 v70 : AV) : AC := .op (.pick v35 (B true) v70) fun v71=>.ite v71 (.ret .ret [(B false)]) (.ret .normal [(nth v20 1)])
def a3x9 (v20 : List AV) (v35 v38 v48 v58 v60 v64 : AV) : AC := .gop v58 true (.faddr 0 v64) fun v65=>.gop v58 true (.load 1 false v65) fun v66=>.gop v58 true (.bin .leq v60 v66) fun v67=>.gop v48 false (.pick v58 v67 (B false)) fun v68=>.gop v38 true (.pick v48 (B true) v68) fun v69=>.gop v35 false (.pick v38 v69 (B false)) fun v70=>(a3x8 v20 v35 v70)
def a3x10 (v7 : AV) (v20 : List AV) (v25 v35 v38 v48 v58 : AV) : AC := .gop v58 true (.faddr 0 v25) fun v59=>.gop v58 true (.load 1 false v59) fun v60=>.gop v58 true (.mv v7) fun v61=>.gop v58 true (.mv (nth v20 0)) fun v62=>.gop v58 true (.bin .sub v62 (I 1)) fun v63=>.gop v58 true (.saddr 2 v61 v63) fun v64=>(a3x9 v20 v35 v38 v48 v58 v60 v64)
def a3x11 (v7 : AV) (v20 : List AV) (v25 v35 v38 v48 v50 v51 v52 : AV) : AC := .gop v48 false (.bin .sub v52 (I 1)) fun v53=>.gop v48 false (.saddr 2 v51 v53) fun v54=>.gop v48 false (.faddr 1 v54) fun v55=>.gop v48 false (.load 1 false v55) fun v56=>.gop v48 false (.bin .eql v50 v56) fun v57=>.gop v48 false (.mv v57) fun v58=>(a3x10 v7 v20 v25 v35 v38 v48 v58)
def a3x12 (v7 : AV) (v20 : List AV) (v25 v35 v38 v40 v46 : AV) : AC := .gop v38 true (.bin .lss v40 v46) fun v47=>.gop v38 true (.mv v47) fun v48=>.gop v48 false (.faddr 1 v25) fun v49=>.gop v48 false (.load 1 false v49) fun v50=>.gop v48 false (.mv v7) fun v51=>.gop v48 false (.mv (nth v20 0)) fun v52=>(a3x11 v7 v20 v25 v35 v38 v48 v50 v51 v52)
def a3x13 (v7 : AV) (v20 : List AV) (v25 v35 v38 v40 : AV) : AC := .gop v38 true (.mv v7) fun v41=>.gop v38 true (.mv (nth v20 0)) fun v42=>.gop v38 true (.bin .sub v42 (I 1)) fun v43=>.gop v38 true (.saddr 2 v41 v43) fun v44=>.gop v38 true (.faddr 1 v44) fun v45=>.gop v38 true (.load 1 false v45) fun v46=>(a3x12 v7 v20 v25 v35 v38 v40 v46)
def a3x14 (v7 : AV) (v20 : List AV) (v25 v34 : AV) : AC := .op (.un .not v34) fun v35=>.gop v35 false (.mv (nth v20 0)) fun v36=>.gop v35 false (.bin .gtr v36 (I 0)) fun v37=>.gop v35 false (.mv v37) fun v38=>.gop v38 true (.faddr 1 v25) fun v39=>.gop v38 true (.load 1 false v39) fun v40=>(a3x13 v7 v20 v25 v35 v38 v40)
def a3x15 (v7 : AV) (v20 : List AV) (v25 v27 v28 v29 v30 v31 : AV) : AC := .chk (.load 1 false v27) v28 (.chk (.load 1 false v29) v30 (.op (.part 28 1 false v31) fun v32=>.call (.fn (.func 13) [] []) [v32, v28] fun v33=>.chk (.load 1 false v29) v30 (.call (.fn (.func 12) [] []) [v33, v30] fun v34=>(a3x14 v7 v20 v25 v34))))
def a3x16 (v4 v7 : AV) (v20 : List AV) (v24 v25 : AV) : AC := .op (.store 2 v25 v24) fun v26=>.op (.faddr 1 v25) fun v27=>.op (.load 1 false v27) fun v28=>.op (.faddr 0 v25) fun v29=>.op (.load 1 false v29) fun v30=>.call (.fn (.func 8) [] []) [v4] fun v31=>(a3x15 v7 v20 v25 v27 v28 v29 v30 v31)
def a3x17 (v4 v7 : AV) (v20 : List AV) : AC := .bind (.op (.saddr 2 v7 (nth v20 0)) fun v23=>.op (.load 2 true v23) fun v24=>.op (.alloc [(I 0), (I 0)]) fun v25=>(a3x16 v4 v7 v20 v24 v25)) (some 9) (fun v23=>.op (.bin .add (nth v20 0) (I 1)) fun v24=>.ret .normal [v24, (nth v23 0)]) (fun v23=>[(nth v20 0), (nth v23 0)])
def a3x18 (v4 : AV) (v6 : List AV) (v7 : AV) : AC := .loop [(I 0), (nth v6 1)] (fun v20=>.op (.len false v7) fun v21=>.op (.bin .lss (nth v20 0) v21) fun v22=>.ite v22 ((a3x17 v4 v7 v20)) (.ret (.exit 6) [(nth v20 0), (nth v20 1)])) (fun v20=>[(nth v20 0), (nth v20 1)])
def a3x19 (v58 v59 v60 : AV) : AC := .gop v58 true (.sslice 2 v60 (some (I 1)) none none) fun v61=>.gcall v58 true (.fn (.func 11) [] []) [v59] fun v62=>.gcall v58 true (.fn (.func 15) [] []) [v62, v61] fun v63=>.op (.pick v58 v63 (B false)) fun v64=>.ret .ret [v64]
def a3x20 (v4 v7 v47 v52 v54 : AV) : AC := .gop v47 true (.faddr 1 v54) fun v55=>.gop v47 true (.load 1 false v55) fun v56=>.gop v47 true (.bin .eql v52 v56) fun v57=>.op (.pick v47 v57 (B false)) fun v58=>.gop v58 true (.mv v4) fun v59=>.gop v58 true (.mv v7) fun v60=>(a3x19 v58 v59 v60)
def a3x21 (v4 v7 v47 v48 : AV) : AC := .gop v47 true (.saddr 9 v48 (I 0)) fun v49=>.gop v47 true (.faddr 2 v49) fun v50=>.gop v47 true (.faddr 2 v50) fun v51=>.gop v47 true (.load 1 false v51) fun v52=>.gop v47 true (.mv v7) fun v53=>.gop v47 true (.saddr 2 v53 (I 0)) fun v54=>(a3x20 v4 v7 v47 v52 v54)
def a3x22 (v4 v7 v29 v36 v41 v42 : AV) : AC := .gop v36 true (.saddr 2 v42 (I 0)) fun v43=>.gop v36 true (.faddr 0 v43) fun v44=>.gop v36 true (.load 1 false v44) fun v45=>.gop v36 true (.bin .eql v41 v45) fun v46=>.op (.pick v36 v46 (B false)) fun v47=>.gop v47 true (.mv v29) fun v48=>(a3x21 v4 v7 v47 v48)
def a3x23 (v4 v7 v29 v36 : AV) : AC := .gop v36 true (.mv v29) fun v37=>.gop v36 true (.saddr 9 v37 (I 0)) fun v38=>.gop v36 true (.faddr 2 v38) fun v39=>.gop v36 true (.faddr 1 v39) fun v40=>.gop v36 true (.load 1 false v40) fun v41=>.gop v36 true (.mv v7) fun v42=>(a3x22 v4 v7 v29 v36 v41 v42)
def a3x24 (v1 v4 v7 v29 v30 : AV) : AC := .gop v1 true (.bin .eql v30 (I 0)) fun v31=>.op (.pick v1 v31 (B false)) fun v32=>.gop v32 true (.mv v29) fun v33=>.gop v32 true (.len false v33) fun v34=>.gop v32 true (.bin .eql v34 (I 1)) fun v35=>.op (.pick v32 v35 (B false)) fun v36=>(a3x23 v4 v7 v29 v36)
def a3x25 (v1 v4 v7 v24 : AV) : AC := .op (.extract 0 v24) fun v25=>.op (.extract 1 v24) fun v26=>.op (.alloc [(I 0), (B false), (I 0), (I 0), (U 0)]) fun v27=>.op (.store 5 v27 v25) fun v28=>.call (.fn (.func 14) [] []) [v4] fun v29=>.gop v1 true (.mv v26) fun v30=>(a3x24 v1 v4 v7 v29 v30)
def a3x26 (v1 v4 v7 : AV) : AC := .op (.len false v7) fun v21=>.op (.bin .eql v21 (I 0)) fun v22=>.ite v22 (.ret .ret [v1]) (.op (.build [(I 0), (I 0), (I 0)] [(0, 1, (I 2))]) fun v23=>.call (.fn (.func 7) [] []) [v4, v23] fun v24=>(a3x25 v1 v4 v7 v24))
def a3x27 (v1 v4 : AV) (v6 : List AV) (v7 v9 v18 : AV) : AC := .op (.pick v9 v18 (B false)) fun v19=>.ite v19 (.ret .ret [(B false)]) (.bind ((a3x18 v4 v6 v7)) (some 6) (fun v20=>(a3x26 v1 v4 v7)) (fun v20=>[(nth v20 1)]))
def a3x28 (v1 v4 : AV) (v6 : List AV) (v7 v9 v11 v12 : AV) : AC := .gcall v9 true (.fn (.func 8) [] []) [v12] fun v13=>.gop v9 true (.part 28 1 false v13) fun v14=>.gop v9 true (.mv (nth v6 2)) fun v15=>.gop v9 true (.bin .add v15 (I 1)) fun v16=>.gcall v9 true (.fn (.func 10) [] []) [v14, (I 0), v16] fun v17=>.gop v9 true (.bin .neq v11 v17) fun v18=>(a3x27 v1 v4 v6 v7 v9 v18)
def a3x29 (v0 : List AV) (v1 v4 : AV) (v6 : List AV) : AC := .call (.fn (.func 11) [] []) [v4] fun v7=>.op (.len false (nth v0 1)) fun v8=>.op (.bin .gtr v8 (I 0)) fun v9=>.gop v9 true (.mv v7) fun v10=>.gop v9 true (.len false v10) fun v11=>.gop v9 true (.mv v4) fun v12=>(a3x28 v1 v4 v6 v7 v9 v11 v12)
def a3x30 (v0 : List AV) (v1 v4 : AV) : AC := .op (.eq 24 false v4 Np) fun v5=>.ite v5 (.ret .ret [(B false)]) (.bind ((a3x7 v0 v4)) (some 0) (fun v6=>(a3x29 v0 v1 v4 v6)) (fun v6=>[(nth v6 1)]))
def a3 : List AV → AC := fun v0=>.call (.fn (.func 4) [] []) [] fun v1=>.op (.len false (nth v0 1)) fun v2=>.op (.bin .gtr v2 (I 20)) fun v3=>.ite v3 (.ret .ret [v1]) (.call (.fn (.func 5) [] []) [(nth v0 0), (I 50), Ns] fun v4=>(a3x30 v0 v1 v4))
theorem e3 : E 3 a3 := ⟨f3, [4,7,8,13,15], func3, by kernel_rfl, by kernel_rfl⟩
def a4x0 (v67 v68 v69 v70 : AV) : AC := .gop v67 true (.bslice 3 2 [(I 0), (I 0), (I 0)] [(0, 3, v69), (3, 3, v70)]) fun v71=>.gop v67 true (.bslice 1 2 [(I 0)] [(0, 1, (I 3)), (1, 1, (I 4))]) fun v72=>.gcall v67 true (.fn (.func 21) [] []) [v68, v71, v72] fun v73=>.op (.pick v67 v73 (B false)) fun v74=>.ret .ret [v74]
def a4x1 (v1 v62 v63 v64 : AV) : AC := .op (.pick v63 v64 (B false)) fun v65=>.gop v65 true (.mv v62) fun v66=>.op (.pick v65 v66 (B false)) fun v67=>.gop v67 true (.mv v1) fun v68=>.gop v67 true (.build [(I 0), (I 0), (I 0)] [(0, 1, (I 8)), (2, 1, (I 1073741825))]) fun v69=>.gop v67 true (.build [(I 0), (I 0), (I 0)] [(0, 1, (I 8)), (2, 1, (I 100000))]) fun v70=>(a4x0 v67 v68 v69 v70)
def a4x2 (v1 v55 v56 v57 v58 : AV) : AC := .op (.build [(I 0), (I 0), (I 0)] [(0, 1, (I 3)), (1, 1, (I 2))]) fun v59=>.op (.bslice 3 4 [(I 0), (I 0), (I 0)] [(0, 3, v56), (3, 3, v57), (6, 3, v58), (9, 3, v59)]) fun v60=>.op (.bslice 1 4 [(I 0)] [(0, 1, (I 0)), (1, 1, (I 14)), (2, 1, (I 15)), (3, 1, (I 3))]) fun v61=>.call (.fn (.func 21) [] []) [v1, v60, v61] fun v62=>.call (.fn (.func 22) [] []) [] fun v63=>.gop v63 true (.mv v55) fun v64=>(a4x1 v1 v62 v63 v64)
def a4x3 (v1 v52 : AV) : AC := .gop v52 true (.mv v1) fun v53=>.gcall v52 true (.fn (.func 20) [] []) [v53] fun v54=>.op (.pick v52 v54 (B false)) fun v55=>.op (.build [(I 0), (I 0), (I 0)] [(0, 1, (I 3))]) fun v56=>.op (.build [(I 0), (I 0), (I 0)] [(0, 1, (I 4))]) fun v57=>.op (.build [(I 0), (I 0), (I 0)] [(0, 1, (I 7)), (1, 1, (I 1)), (2, 1, (I 1))]) fun v58=>(a4x2 v1 v55 v56 v57 v58)
def a4x4 (v1 v43 v46 : AV) : AC := .gop v43 true (.load 1 false v46) fun v47=>.gop v43 true (.bin .eql v47 (I 0)) fun v48=>.op (.pick v43 v48 (B false)) fun v49=>.gop v49 true (.mv v1) fun v50=>.gcall v49 true (.fn (.func 19) [] []) [v50] fun v51=>.op (.pick v49 v51 (B false)) fun v52=>(a4x3 v1 v52)
def a4x5 (v1 v19 v37 v40 : AV) : AC := .gop v37 true (.load 1 false v40) fun v41=>.gop v37 true (.bin .eql v41 (I 4)) fun v42=>.op (.pick v37 v42 (B false)) fun v43=>.gop v43 true (.mv v19) fun v44=>.gop v43 true (.saddr 4 v44 (I 0)) fun v45=>.gop v43 true (.faddr 2 v45) fun v46=>(a4x4 v1 v43 v46)
def a4x6 (v1 v19 v31 v34 : AV) : AC := .gop v31 true (.load 1 false v34) fun v35=>.gop v31 true (.bin .eql v35 (I 0)) fun v36=>.op (.pick v31 v36 (B false)) fun v37=>.gop v37 true (.mv v19) fun v38=>.gop v37 true (.saddr 4 v38 (I 0)) fun v39=>.gop v37 true (.faddr 1 v39) fun v40=>(a4x5 v1 v19 v37 v40)
def a4x7 (v1 v19 v27 v28 : AV) : AC := .gop v27 true (.len false v28) fun v29=>.gop v27 true (.bin .eql v29 (I 1)) fun v30=>.op (.pick v27 v30 (B false)) fun v31=>.gop v31 true (.mv v19) fun v32=>.gop v31 true (.saddr 4 v32 (I 0)) fun v33=>.gop v31 true (.faddr 0 v33) fun v34=>(a4x6 v1 v19 v31 v34)
def a4x8 (v1 v17 v19 v20 v22 : AV) : AC := .op (.pick v20 v22 (B false)) fun v23=>.gop v23 true (.faddr 2 v17) fun v24=>.gop v23 true (.load 1 false v24) fun v25=>.gop v23 true (.bin .eql v25 (I 0)) fun v26=>.op (.pick v23 v26 (B false)) fun v27=>.gop v27 true (.mv v19) fun v28=>(a4x7 v1 v19 v27 v28)
def a4x9 (v1 v15 v16 : AV) : AC := .op (.alloc [(I 0), (B false), (I 0), (I 0), (U 0)]) fun v17=>.op (.store 5 v17 v15) fun v18=>.call (.fn (.func 18) [] []) [v1] fun v19=>.op (.bin .eql v16 (I 0)) fun v20=>.gop v20 true (.faddr 1 v17) fun v21=>.gop v20 true (.load 1 false v21) fun v22=>(a4x8 v1 v17 v19 v20 v22)
def a4x10 (v1 v12 : AV) : AC := .ite v12 (.ret .ret [(B false)]) (.op (.build [(I 0), (I 0), (I 0)] [(0, 1, (I 9))]) fun v13=>.call (.fn (.func 7) [] []) [v1, v13] fun v14=>.op (.extract 0 v14) fun v15=>.op (.extract 1 v14) fun v16=>(a4x9 v1 v15 v16))
def a4x11 (v1 v2 v4 v6 : AV) : AC := .gcall v2 false (.fn (.func 17) [] []) [v4, v6] fun v7=>.gop v2 false (.un .not v7) fun v8=>.op (.pick v2 (B true) v8) fun v9=>.gop v9 false (.mv v1) fun v10=>.gcall v9 false (.fn (.func 19) [] []) [v10] fun v11=>.op (.pick v9 (B true) v11) fun v12=>(a4x10 v1 v12)
def a4 : List AV → AC := fun v0=>.call (.fn (.func 16) [] []) [] fun v1=>.op (.eq 24 false v1 Np) fun v2=>.gop v2 false (.mv v1) fun v3=>.gcall v2 false (.fn (.func 18) [] []) [v3] fun v4=>.gop v2 false (.build [(I 0), (I 0), (I 0), (U 0)] [(1, 1, (I 2)), (3, 1, (U 360287970189705216))]) fun v5=>.gop v2 false (.bslice 4 1 [(I 0), (I 0), (I 0), (U 0)] [(0, 4, v5)]) fun v6=>(a4x11 v1 v2 v4 v6)
theorem e4 : E 4 a4 := ⟨f4, [0], func4, by kernel_rfl, by kernel_rfl⟩
def g5 : G [] f5 [8,6] := ⟨_, by funext v; conv => lhs; reduce; try dsimp only [n1, n2, n3]⟩
def a5 : F := g5.1
theorem e5 : E 5 a5 := K func5 g5.2 (by kernel_rfl)
def u5 (v : List AV) := (show a5 v = _ from by unfold a5 g5; dsimp only)
def g6 : G [] f6 [4,0] := ⟨_, by funext v; conv => lhs; reduce; try dsimp only [n1, n2, n3]⟩
def a6 : F := g6.1
theorem e6 : E 6 a6 := K func6 g6.2 (by kernel_rfl)
def g7 : G [] f7 [5] := ⟨_, by funext v; conv => lhs; reduce; try dsimp only [n1, n2, n3]⟩
def a7 : F := g7.1
theorem e7 : E 7 a7 := K func7 g7.2 (by kernel_rfl)
def u7 (v : List AV) := (show a7 v = _ from by unfold a7 g7; dsimp only)
def g8 : G [] f8 [] := ⟨_, by funext v; conv => lhs; reduce; try dsimp only [n1, n2, n3]⟩
def a8 : F := g8.1
theorem e8 : E 8 a8 := K func8 g8.2 (by kernel_rfl)
def u8 (v : List AV) := (show a8 v = _ from by unfold a8 g8; dsimp only)
def g9 : G [] f9 [2] := ⟨_, by funext v; conv => lhs; reduce; try dsimp only [n1, n2, n3]⟩
def a9 : F := g9.1
theorem e9 : E 9 a9 := K func9 g9.2 (by kernel_rfl)
def u9 (v : List AV) := (show a9 v = _ from by unfold a9 g9; dsimp only)
def g10 : G [] f10 [6,7,16] := ⟨_, by funext v; conv => lhs; reduce; try dsimp only [n1, n2, n3]⟩
def a10 : F := g10.1
theorem e10 : E 10 a10 := K func10 g10.2 (by kernel_rfl)
def u10 (v : List AV) := (show a10 v = _ from by unfold a10 g10; dsimp only)
def g11 : G [] f11 [2] := ⟨_, by funext v; conv => lhs; reduce; try dsimp only [n1, n2, n3]⟩
def a11 : F := g11.1
theorem e11 : E 11 a11 := K func11 g11.2 (by kernel_rfl)
def u11 (v : List AV) := (show a11 v = _ from by unfold a11 g11; dsimp only)
def g12 : G [] f12 [4,5] := ⟨_, by funext v; conv => lhs; reduce; try dsimp only [n1, n2, n3]⟩
def a12 : F := g12.1
theorem e12 : E 12 a12 := K func12 g12.2 (by kernel_rfl)
def u12 (v : List AV) := (show a12 v = _ from by unfold a12 g12; dsimp only)
def g13 : G [] f13 [4,5,16] := ⟨_, by funext v; conv => lhs; reduce; try dsimp only [n1, n2, n3]⟩
def a13 : F := g13.1
theorem e13 : E 13 a13 := K func13 g13.2 (by kernel_rfl)
def u13 (v : List AV) := (show a13 v = _ from by unfold a13 g13; dsimp only)
def g14 : G [] f14 [2] := ⟨_, by funext v; conv => lhs; reduce; try dsimp only [n1, n2, n3]⟩
def a14 : F := g14.1
theorem e14 : E 14 a14 := K func14 g14.2 (by kernel_rfl)
def u14 (v : List AV) := (show a14 v = _ from by unfold a14 g14; dsimp only)
def g15 : G [] f15 [5,6] := ⟨_, by funext v; conv => lhs; reduce; try dsimp only [n1, n2, n3]⟩
def a15 : F := g15.1
theorem e15 : E 15 a15 := K func15 g15.2 (by kernel_rfl)
def u15 (v : List AV) := (show a15 v = _ from by unfold a15 g15; dsimp only)
def g16 : G [] f16 [0] := ⟨_, by funext v; conv => lhs; reduce; try dsimp only [n1, n2, n3]⟩
def a16 : F := g16.1
theorem e16 : E 16 a16 := K func16 g16.2 (by kernel_rfl)
def g17 : G [] f17 [5,6] := ⟨_, by funext v; conv => lhs; reduce; try dsimp only [n1, n2, n3]⟩
def a17 : F := g17.1
theorem e17 : E 17 a17 := K func17 g17.2 (by kernel_rfl)
def g18 : G [] f18 [2] := ⟨_, by funext v; conv => lhs; reduce; try dsimp only [n1, n2, n3]⟩
def a18 : F := g18.1
theorem e18 : E 18 a18 := K func18 g18.2 (by kernel_rfl)
def g19 : G [] f19 [] := ⟨_, by funext v; conv => lhs; reduce; try dsimp only [n1, n2, n3]⟩
def a19 : F := g19.1
theorem e19 : E 19 a19 := K func19 g19.2 (by kernel_rfl)
def g20 : G [(1,[0,2,4,6,8,12,14,16,18,20,22,10,23,24,26,28])] f20 [] := ⟨_, by funext v; conv => lhs; reduce; try dsimp only [n1, n2, n3]⟩
def a20 : F := g20.1
theorem e20 : E 20 a20 := K func20 g20.2 (by kernel_rfl)
def g21 : G [] f21 [] := ⟨_, by funext v; conv => lhs; reduce; try dsimp only [n1, n2, n3]⟩
def a21 : F := g21.1
theorem e21 : E 21 a21 := K func21 g21.2 (by kernel_rfl)
def u21 (v : List AV) := (show a21 v = _ from by unfold a21 g21; dsimp only)
def g22 : G [] f22 [] := ⟨_, by funext v; conv => lhs; reduce; try dsimp only [n1, n2, n3]⟩
def a22 : F := g22.1
theorem e22 : E 22 a22 := K func22 g22.2 (by kernel_rfl)
def a23x0 (v12 v13 : AV) : AC := .op (.store 1 v13 v12) fun v14=>.ret .normal []
def a23x1 (v0 : List AV) (v2 : AV) (v3 : List AV) : AC := .bind (.op (.saddr 1 (nth v0 0) (nth v3 0)) fun v11=>.op (.load 1 false v11) fun v12=>.op (.saddr 1 v2 (nth v3 0)) fun v13=>(a23x0 v12 v13)) (some 3) (fun v11=>.op (.bin .add (nth v3 0) (I 1)) fun v12=>.ret .normal [v12]) (fun v11=>[(nth v3 0)])
def a23x2 (v0 : List AV) (v2 : AV) (v3 : List AV) (v5 v6 : AV) : AC := .gop v5 true (.mv (nth v0 0)) fun v7=>.gop v5 true (.len false v7) fun v8=>.gop v5 true (.bin .lss v6 v8) fun v9=>.op (.pick v5 v9 (B false)) fun v10=>.ite v10 ((a23x1 v0 v2 v3)) (.ret (.exit 0) [(nth v3 0)])
def a23x3 (v0 : List AV) (v2 : AV) : AC := .loop [(I 0)] (fun v3=>.op (.len false v2) fun v4=>.op (.bin .lss (nth v3 0) v4) fun v5=>.gop v5 true (.mv (nth v3 0)) fun v6=>(a23x2 v0 v2 v3 v5 v6)) (fun v3=>[(nth v3 0)])
def a23x4 (v50 v51 : AV) : AC := .op (.store 1 v51 v50) fun v52=>.ret .normal []
def a23x5 (v12 v37 v38 v45 v46 : AV) : AC := .call (.fn (.func 6) [] []) [v45, (I 4)] fun v47=>.chk (.load 1 false v37) v38 (.op (.build [(I 0), (I 0), (I 0), (I 0)] [(0, 1, (I 2)), (1, 1, v46), (2, 1, v47)]) fun v48=>.op (.bslice 4 1 [(I 0), (I 0), (I 0), (I 0)] [(0, 4, v48)]) fun v49=>.op (.append 4 32 v38 v49) fun v50=>.op (.faddr 6 v12) fun v51=>(a23x4 v50 v51))
def a23x6 (v2 v12 v37 v38 v41 v42 : AV) : AC := .op (.saddr 1 v2 v42) fun v43=>.op (.load 1 false v43) fun v44=>.op (.bin .quo v44 (I 5)) fun v45=>.call (.fn (.func 6) [] []) [v41, (I 5)] fun v46=>.chk (.load 1 false v37) v38 (.chk (.load 1 false v43) v44 ((a23x5 v12 v37 v38 v45 v46)))
def a23x7 (v2 v12 : AV) (v32 : List AV) : AC := .op (.faddr 6 v12) fun v37=>.op (.load 1 false v37) fun v38=>.op (.bin .add (I 6) (nth v32 0)) fun v39=>.op (.saddr 1 v2 v39) fun v40=>.op (.load 1 false v40) fun v41=>.op (.bin .add (I 6) (nth v32 0)) fun v42=>(a23x6 v2 v12 v37 v38 v41 v42)
def a23x8 (v32 : List AV) : AC := .op (.bin .add (nth v32 0) (I 1)) fun v38=>.ret .normal [v38]
def a23x9 (v2 v12 : AV) (v32 : List AV) (v35 : AV) : AC := .op (.bin .leq (nth v32 0) v35) fun v36=>.ite v36 (.bind ((a23x7 v2 v12 v32)) (some 9) (fun v37=>(a23x8 v32)) (fun v37=>[(nth v32 0)])) (.ret (.exit 6) [(nth v32 0)])
def a23x10 (v2 v12 : AV) : AC := .loop [(I 0)] (fun v32=>.op (.saddr 1 v2 (I 5)) fun v33=>.op (.load 1 false v33) fun v34=>.call (.fn (.func 6) [] []) [v34, (I 6)] fun v35=>(a23x9 v2 v12 v32 v35)) (fun v32=>[(nth v32 0)])
def a23x11 (v1 v12 : AV) : AC := .op (.load 7 true v12) fun v33=>.op (.store 7 v1 v33) fun v34=>.ret .ret [v1]
def a23x12 (v1 v2 v12 v23 v24 v25 v27 : AV) : AC := .call (.fn (.func 6) [] []) [v27, (I 3)] fun v28=>.chk (.load 1 false v23) v24 (.op (.bin .add v25 v28) fun v29=>.op (.faddr 2 v12) fun v30=>.op (.store 1 v30 v29) fun v31=>.bind ((a23x10 v2 v12)) (some 6) (fun v32=>(a23x11 v1 v12)) (fun v32=>[v1]))
def a23x13 (v1 v2 v12 v21 : AV) : AC := .op (.store 7 v12 v21) fun v22=>.op (.faddr 1 v12) fun v23=>.op (.load 1 false v23) fun v24=>.op (.bin .add v24 (I 1)) fun v25=>.op (.saddr 1 v2 (I 4)) fun v26=>.op (.load 1 false v26) fun v27=>(a23x12 v1 v2 v12 v23 v24 v25 v27)
def a23x14 (v0 : List AV) (v1 v2 v9 v10 v11 v12 v14 v16 : AV) : AC := .call (.fn (.func 6) [] []) [v9, (I 3)] fun v17=>.chk (.load 1 false v10) v11 (.op (.bin .add (I 1) v17) fun v18=>.call (.fn (.func 6) [] []) [v11, (I 4)] fun v19=>.op (.bin .add (I 1) v19) fun v20=>.op (.build [(I 0), (I 0), (I 0), (I 0), (I 0), (I 0), Ns] [(0, 1, v14), (1, 1, v16), (3, 1, v18), (4, 1, v20), (5, 1, (nth v0 1))]) fun v21=>(a23x13 v1 v2 v12 v21))
def a23x15 (v0 : List AV) (v1 v2 v7 v8 v9 v10 v11 v12 v13 : AV) : AC := .chk (.load 1 false v10) v11 (.op (.bin .add (I 1) v13) fun v14=>.call (.fn (.func 6) [] []) [v7, (I 6)] fun v15=>.chk (.load 1 false v8) v9 (.chk (.load 1 false v10) v11 (.op (.bin .add (I 1) v15) fun v16=>(a23x14 v0 v1 v2 v9 v10 v11 v12 v14 v16))))
def a23x16 (v0 : List AV) (v1 v2 v5 v6 v7 v8 v9 : AV) : AC := .op (.saddr 1 v2 (I 3)) fun v10=>.op (.load 1 false v10) fun v11=>.op (.alloc [(I 0), (I 0), (I 0), (I 0), (I 0), (I 0), Ns]) fun v12=>.call (.fn (.func 6) [] []) [v5, (I 4)] fun v13=>.chk (.load 1 false v6) v7 (.chk (.load 1 false v8) v9 ((a23x15 v0 v1 v2 v7 v8 v9 v10 v11 v12 v13)))
def a23x17 (v0 : List AV) (v1 v2 : AV) : AC := .op (.saddr 1 v2 (I 0)) fun v4=>.op (.load 1 false v4) fun v5=>.op (.saddr 1 v2 (I 1)) fun v6=>.op (.load 1 false v6) fun v7=>.op (.saddr 1 v2 (I 2)) fun v8=>.op (.load 1 false v8) fun v9=>(a23x16 v0 v1 v2 v5 v6 v7 v8 v9)
def a23 : List AV → AC := fun v0=>.fin (.op (.alloc [(I 0), (I 0), (I 0), (I 0), (I 0), (I 0), Ns]) fun v1=>.op (.mkslice 1 8 [(I 0)] (I 12) (I 12)) fun v2=>.bind ((a23x3 v0 v2)) (some 0) (fun v3=>(a23x17 v0 v1 v2)) (fun v3=>[v1])) fun v1=>.op (.load 7 true (nth v1 0)) fun v2=>.ret .ret [v2]
theorem e23 : E 23 a23 := ⟨f23, [6,8], func23, by kernel_rfl, by kernel_rfl⟩
def g24 : G [(8,[0,2,4,1,6,8,10,12,14,16]),(10,[0,2,4,6,1,8,10,12,14,16,18]),(11,[0,2,1,4,6,8,10,12,14])] f24 [4,5] := ⟨_, by funext v; conv => lhs; reduce; try dsimp only [n1, n2, n3]⟩
def a24 : F := g24.1
theorem e24 : E 24 a24 := K func24 g24.2 (by kernel_rfl)
def u24 (v : List AV) := (show a24 v = _ from by unfold a24 g24; dsimp only)
def g25 : G [] f25 [] := ⟨_, by funext v; conv => lhs; reduce; try dsimp only [n1, n2, n3]⟩
def a25 : F := g25.1
theorem e25 : E 25 a25 := K func25 g25.2 (by kernel_rfl)
def u25 (v : List AV) := (show a25 v = _ from by unfold a25 g25; dsimp only)
def g26 : G [] f26 [4] := ⟨_, by funext v; conv => lhs; reduce; try dsimp only [n1, n2, n3]⟩
def a26 : F := g26.1
theorem e26 : E 26 a26 := K func26 g26.2 (by kernel_rfl)
def u26 (v : List AV) := (show a26 v = _ from by unfold a26 g26; dsimp only)
def g27 : G [] f27 [] := ⟨_, by funext v; conv => lhs; reduce; try dsimp only [n1, n2, n3]⟩
def a27 : F := g27.1
theorem e27 : E 27 a27 := K func27 g27.2 (by kernel_rfl)
def u27 (v : List AV) := (show a27 v = _ from by unfold a27 g27; dsimp only)
def g28 : G [] f28 [2] := ⟨_, by funext v; conv => lhs; reduce; try dsimp only [n1, n2, n3]⟩
def a28 : F := g28.1
theorem e28 : E 28 a28 := K func28 g28.2 (by kernel_rfl)
def u28 (v : List AV) := (show a28 v = _ from by unfold a28 g28; dsimp only)
def g29 : G [] f29 [2] := ⟨_, by funext v; conv => lhs; reduce; try dsimp only [n1, n2, n3]⟩
def a29 : F := g29.1
theorem e29 : E 29 a29 := K func29 g29.2 (by kernel_rfl)
def u29 (v : List AV) := (show a29 v = _ from by unfold a29 g29; dsimp only)
def g30 : G [] f30 [2,11] := ⟨_, by funext v; conv => lhs; reduce; try dsimp only [n1, n2, n3]⟩
def a30 : F := g30.1
theorem e30 : E 30 a30 := K func30 g30.2 (by kernel_rfl)
def u30 (v : List AV) := (show a30 v = _ from by unfold a30 g30; dsimp only)
def g31 : G [(4,[0,2,6,8,4,7,10,12,14])] f31 [6] := ⟨_, by funext v; conv => lhs; reduce; try dsimp only [n1, n2, n3]⟩
def a31 : F := g31.1
theorem e31 : E 31 a31 := K func31 g31.2 (by kernel_rfl)
def u31 (v : List AV) := (show a31 v = _ from by unfold a31 g31; dsimp only)
def g32 : G [] f32 [2] := ⟨_, by funext v; conv => lhs; reduce; try dsimp only [n1, n2, n3]⟩
def a32 : F := g32.1
theorem e32 : E 32 a32 := K func32 g32.2 (by kernel_rfl)
def u32 (v : List AV) := (show a32 v = _ from by unfold a32 g32; dsimp only)
def a33x0 (v2 v3 : AV) (v14 : List AV) : AC := .op (.store 1 v2 (nth v14 1)) fun v15=>.op (.store 1 v3 (B true)) fun v16=>.ret .ret []
def a33x1 (v2 v3 v13 : AV) : AC := .rng 1 v13 (fun v14=>.start (nth v14 0) (.bind ((a33x0 v2 v3 v14)) (some 3) (fun v15=>.ret .normal []) (fun v15=>[]))) (.ret .normal []) []
def a33x2 (v0 : List AV) (v2 v3 v8 v10 : AV) : AC := .op (.load 2 true v8) fun v11=>.call (.fn (.func 61) [] []) [v11, (nth v0 1)] fun v12=>.chk (.load 2 true v8) v10 (.call (.fn (.func 62) [] []) [v10, v12] fun v13=>.bind ((a33x1 v2 v3 v13)) (some 0) (fun v14=>.ret .normal []) (fun v14=>[]))
def a33x3 (v0 : List AV) (v2 v3 v7 v8 : AV) : AC := .bind (.ite v7 (.op (.load 2 true v8) fun v10=>(a33x2 v0 v2 v3 v8 v10)) (.ret .normal [])) none (fun v10=>.op (.store 1 v2 (I 0)) fun v11=>.op (.store 1 v3 (B false)) fun v12=>.ret .ret [v2, v3]) (fun v10=>[v2, v3])
def a33x4 (v0 : List AV) (v1 v2 v3 : AV) : AC := .op (.load 4 true v1) fun v4=>.call (.fn (.func 60) [] []) [v4] fun v5=>.op (.extract 0 v5) fun v6=>.op (.extract 1 v5) fun v7=>.op (.alloc [(I 0), (I 0)]) fun v8=>.op (.store 2 v8 v6) fun v9=>(a33x3 v0 v2 v3 v7 v8)
def a33 : List AV → AC := fun v0=>.fin (.op (.box (nth v0 0)) fun v1=>.op (.alloc [(I 0)]) fun v2=>.op (.alloc [(B false)]) fun v3=>(a33x4 v0 v1 v2 v3)) fun v1=>.op (.load 1 false (nth v1 0)) fun v2=>.op (.load 1 false (nth v1 1)) fun v3=>.ret .ret [v2, v3]
theorem e33 : E 33 a33 := ⟨f33, [], func33, by kernel_rfl, by kernel_rfl⟩
def g34 : G [] f34 [2] := ⟨_, by funext v; conv => lhs; reduce; try dsimp only [n1, n2, n3]⟩
def a34 : F := g34.1
theorem e34 : E 34 a34 := K func34 g34.2 (by kernel_rfl)
def u34 (v : List AV) := (show a34 v = _ from by unfold a34 g34; dsimp only)
def g35 : G [] f35 [0] := ⟨_, by funext v; conv => lhs; reduce; try dsimp only [n1, n2, n3]⟩
def a35 : F := g35.1
theorem e35 : E 35 a35 := K func35 g35.2 (by kernel_rfl)
def g36 : G [] f36 [4,6,21] := ⟨_, by funext v; conv => lhs; reduce; try dsimp only [n1, n2, n3]⟩
def a36 : F := g36.1
theorem e36 : E 36 a36 := K func36 g36.2 (by kernel_rfl)
def g37 : G [] f37 [4,15] := ⟨_, by funext v; conv => lhs; reduce; try dsimp only [n1, n2, n3]⟩
def a37 : F := g37.1
theorem e37 : E 37 a37 := K func37 g37.2 (by kernel_rfl)
def g38 : G [] f38 [4,21] := ⟨_, by funext v; conv => lhs; reduce; try dsimp only [n1, n2, n3]⟩
def a38 : F := g38.1
theorem e38 : E 38 a38 := K func38 g38.2 (by kernel_rfl)
def g39 : G [] f39 [4,5,6,7,16] := ⟨_, by funext v; conv => lhs; reduce; try dsimp only [n1, n2, n3]⟩
def a39 : F := g39.1
theorem e39 : E 39 a39 := K func39 g39.2 (by kernel_rfl)
def u39 (v : List AV) := (show a39 v = _ from by unfold a39 g39; dsimp only)
def g40 : G [] f40 [5,6] := ⟨_, by funext v; conv => lhs; reduce; try dsimp only [n1, n2, n3]⟩
def a40 : F := g40.1
theorem e40 : E 40 a40 := K func40 g40.2 (by kernel_rfl)
def g41 : G [(8,[0,2,4,6,10,12,14,18,20,8,15,21,16,21,22,24,26,28,21,30,32,34,36,21,38,40,42,44]),(9,[0,2,4,6,8,10,14,18,20,12,21,16,21,22,24,26,21,28,30,32,21,34,36,38]),(11,[0,2,4,6,10,12,14,18,20,8,15,21,16,21,22,24,26,21,28,30,32,21,34,36,38]),(13,[0,2,4,6,8,10,3,12,14,16,18,20,22]),(15,[0,2,4,6,10,12,14,8,13,16,18,20,13,22,24,26]),(16,[0,2,4,8,10,12,6,13,14,16,18,20,22,24,26]),(17,[0,4,6,8,12,14,2,9,15,10,15,16,18,20,22,15,24,26,28,30,15,32,34,36,38]),(18,[0,2,4,6,8,10,12,16,18,20,22,14,19,23,24,26,28,19,23,30,32,34,23,36,38,40]),(19,[0,2,4,8,10,12,16,18,6,13,19,14,19,20,22,24,19,26,28,30,19,32,34,36]),(21,[0,2,4,3,6,8])] f41 [3,4] := ⟨_, by funext v; conv => lhs; reduce; try dsimp only [n1, n2, n3]⟩
def a41 : F := g41.1
theorem e41 : E 41 a41 := K func41 g41.2 (by kernel_rfl)
def u41 (v : List AV) := (show a41 v = _ from by unfold a41 g41; dsimp only)
def g42 : G [] f42 [2,3] := ⟨_, by funext v; conv => lhs; reduce; try dsimp only [n1, n2, n3]⟩
def a42 : F := g42.1
theorem e42 : E 42 a42 := K func42 g42.2 (by kernel_rfl)
def u42 (v : List AV) := (show a42 v = _ from by unfold a42 g42; dsimp only)
def a43x0 (v0 : List AV) : AC := .op (.alloc (List.replicate 4096 (U 0))) fun v5=>.op (.build [Np, (I 0), (I 0), (I 0), (U 0), (U 0), (B false), (I 0)] [(0, 1, v5), (1, 1, (nth v0 0))]) fun v6=>.op (.box v6) fun v7=>.ret .ret [v7, (I 0)]
def a43 : List AV → AC := fun v0=>.op (.bin .lss (nth v0 0) (I 1)) fun v1=>.gop v1 false (.mv (nth v0 0)) fun v2=>.gop v1 false (.bin .gtr v2 (I 4096)) fun v3=>.op (.pick v1 (B true) v3) fun v4=>.ite v4 (.ret .ret [Np, (I 3)]) ((a43x0 v0))
theorem e43 : E 43 a43 := ⟨f43, [2,3], func43, by kernel_rfl, by kernel_rfl⟩
def g44 : G [] f44 [31] := ⟨_, by funext v; conv => lhs; reduce; try dsimp only [n1, n2, n3]⟩
def a44 : F := g44.1
theorem e44 : E 44 a44 := K func44 g44.2 (by kernel_rfl)
def u44 (v : List AV) := (show a44 v = _ from by unfold a44 g44; dsimp only)
def g45 : G [] f45 [2,3] := ⟨_, by funext v; conv => lhs; reduce; try dsimp only [n1, n2, n3]⟩
def a45 : F := g45.1
theorem e45 : E 45 a45 := K func45 g45.2 (by kernel_rfl)
def u45 (v : List AV) := (show a45 v = _ from by unfold a45 g45; dsimp only)
def g46 : G [] f46 [2,3] := ⟨_, by funext v; conv => lhs; reduce; try dsimp only [n1, n2, n3]⟩
def a46 : F := g46.1
theorem e46 : E 46 a46 := K func46 g46.2 (by kernel_rfl)
def u46 (v : List AV) := (show a46 v = _ from by unfold a46 g46; dsimp only)
def g47 : G [] f47 [4,19] := ⟨_, by funext v; conv => lhs; reduce; try dsimp only [n1, n2, n3]⟩
def a47 : F := g47.1
theorem e47 : E 47 a47 := K func47 g47.2 (by kernel_rfl)
def u47 (v : List AV) := (show a47 v = _ from by unfold a47 g47; dsimp only)
def g48 : G [(1,[0,2,4,6,8,10,12,14,1,16,18,20])] f48 [] := ⟨_, by funext v; conv => lhs; reduce; try dsimp only [n1, n2, n3]⟩
def a48 : F := g48.1
theorem e48 : E 48 a48 := K func48 g48.2 (by kernel_rfl)
def u48 (v : List AV) := (show a48 v = _ from by unfold a48 g48; dsimp only)
def g49 : G [(5,[0,2,4,6,8,10,12,14,16,18,24,26,28,20,5,13,17,27,22,5,27,30,5,27,32])] f49 [5] := ⟨_, by funext v; conv => lhs; reduce; try dsimp only [n1, n2, n3]⟩
def a49 : F := g49.1
theorem e49 : E 49 a49 := K func49 g49.2 (by kernel_rfl)
def g50 : G [(5,[0,2,4,6,8,10,12,14,16,18,20,24,26,28,30,22,5,27,31,32])] f50 [5,13] := ⟨_, by funext v; conv => lhs; reduce; try dsimp only [n1, n2, n3]⟩
def a50 : F := g50.1
theorem e50 : E 50 a50 := K func50 g50.2 (by kernel_rfl)
def u50 (v : List AV) := (show a50 v = _ from by unfold a50 g50; dsimp only)
def g51 : G [(1,[0,2,4,6,8,10,12,14,16,18,24,26,20,5,13,17,27,22,5,27,28])] f51 [] := ⟨_, by funext v; conv => lhs; reduce; try dsimp only [n1, n2, n3]⟩
def a51 : F := g51.1
theorem e51 : E 51 a51 := K func51 g51.2 (by kernel_rfl)
def g52 : G [(1,[0,2,4,6,8,10,12,14,16,20,22,18,5,23,24])] f52 [] := ⟨_, by funext v; conv => lhs; reduce; try dsimp only [n1, n2, n3]⟩
def a52 : F := g52.1
theorem e52 : E 52 a52 := K func52 g52.2 (by kernel_rfl)
def g53 : G [(1,[0,2,4,6,8,10,12,14,16,18,24,26,20,5,13,17,27,22,5,27,28])] f53 [] := ⟨_, by funext v; conv => lhs; reduce; try dsimp only [n1, n2, n3]⟩
def a53 : F := g53.1
theorem e53 : E 53 a53 := K func53 g53.2 (by kernel_rfl)
def g54 : G [(1,[0,2,4,6,8,10,12,14,16,20,22,18,5,23,24])] f54 [] := ⟨_, by funext v; conv => lhs; reduce; try dsimp only [n1, n2, n3]⟩
def a54 : F := g54.1
theorem e54 : E 54 a54 := K func54 g54.2 (by kernel_rfl)
def g55 : G [(11,[0,2,4,6,10,12,14,16,8,17,20,18,22,24,26])] f55 [5] := ⟨_, by funext v; conv => lhs; reduce; try dsimp only [n1, n2, n3]⟩
def a55 : F := g55.1
theorem e55 : E 55 a55 := K func55 g55.2 (by kernel_rfl)
def g56 : G [(1,[0,2,4,6,8,10,12,14,16,18,20,22,24,21,26,28,30]),(4,[0,2,4,6,8,10,12,16,18,14,11,19,20,22,24,26,28,30,32])] f56 [5] := ⟨_, by funext v; conv => lhs; reduce; try dsimp only [n1, n2, n3]⟩
def a56 : F := g56.1
theorem e56 : E 56 a56 := K func56 g56.2 (by kernel_rfl)
def u56 (v : List AV) := (show a56 v = _ from by unfold a56 g56; dsimp only)
def g57 : G [] f57 [5,23,53,13,62] := ⟨_, by funext v; conv => lhs; reduce; try dsimp only [n1, n2, n3]⟩
def a57 : F := g57.1
theorem e57 : E 57 a57 := K func57 g57.2 (by kernel_rfl)
def g58 : G [] f58 [] := ⟨_, by funext v; conv => lhs; reduce; try dsimp only [n1, n2, n3]⟩
def a58 : F := g58.1
theorem e58 : E 58 a58 := K func58 g58.2 (by kernel_rfl)
def u58 (v : List AV) := (show a58 v = _ from by unfold a58 g58; dsimp only)
def g59 : G [] f59 [3,2] := ⟨_, by funext v; conv => lhs; reduce; try dsimp only [n1, n2, n3]⟩
def a59 : F := g59.1
theorem e59 : E 59 a59 := K func59 g59.2 (by kernel_rfl)
def u59 (v : List AV) := (show a59 v = _ from by unfold a59 g59; dsimp only)
def g60 : G [(1,[0,2,4,6,8,10,12,14,16,18,20,3,7,22,24,26,28])] f60 [] := ⟨_, by funext v; conv => lhs; reduce; try dsimp only [n1, n2, n3]⟩
def a60 : F := g60.1
theorem e60 : E 60 a60 := K func60 g60.2 (by kernel_rfl)
def u60 (v : List AV) := (show a60 v = _ from by unfold a60 g60; dsimp only)
def g61 : G [(5,[0,4,6,8,10,12,14,16,18,20,22,24,2,9,15,23,26,28])] f61 [4] := ⟨_, by funext v; conv => lhs; reduce; try dsimp only [n1, n2, n3]⟩
def a61 : F := g61.1
theorem e61 : E 61 a61 := K func61 g61.2 (by kernel_rfl)
def u61 (v : List AV) := (show a61 v = _ from by unfold a61 g61; dsimp only)
def g62 : G [] f62 [] := ⟨_, by funext v; conv => lhs; reduce; try dsimp only [n1, n2, n3]⟩
def a62 : F := g62.1
theorem e62 : E 62 a62 := K func62 g62.2 (by kernel_rfl)
def u62 (v : List AV) := (show a62 v = _ from by unfold a62 g62; dsimp only)
def g63 : G [] f63 [] := ⟨_, by funext v; conv => lhs; reduce; try dsimp only [n1, n2, n3]⟩
def a63 : F := g63.1
theorem e63 : E 63 a63 := K func63 g63.2 (by kernel_rfl)
def g64 : G [] f64 [5,6] := ⟨_, by funext v; conv => lhs; reduce; try dsimp only [n1, n2, n3]⟩
def a64 : F := g64.1
theorem e64 : E 64 a64 := K func64 g64.2 (by kernel_rfl)
def g65 : G [] f65 [2] := ⟨_, by funext v; conv => lhs; reduce; try dsimp only [n1, n2, n3]⟩
def a65 : F := g65.1
theorem e65 : E 65 a65 := K func65 g65.2 (by kernel_rfl)
def g66 : G [] f66 [2,114] := ⟨_, by funext v; conv => lhs; reduce; try dsimp only [n1, n2, n3]⟩
def a66 : F := g66.1
theorem e66 : E 66 a66 := K func66 g66.2 (by kernel_rfl)
def u66 (v : List AV) := (show a66 v = _ from by unfold a66 g66; dsimp only)
def g67 : G [] f67 [2,31] := ⟨_, by funext v; conv => lhs; reduce; try dsimp only [n1, n2, n3]⟩
def a67 : F := g67.1
theorem e67 : E 67 a67 := K func67 g67.2 (by kernel_rfl)
def g68 : G [] f68 [4,6,18,8] := ⟨_, by funext v; conv => lhs; reduce; try dsimp only [n1, n2, n3]⟩
def a68 : F := g68.1
theorem e68 : E 68 a68 := K func68 g68.2 (by kernel_rfl)
def g69 : G [] f69 [3,8] := ⟨_, by funext v; conv => lhs; reduce; try dsimp only [n1, n2, n3]⟩
def a69 : F := g69.1
theorem e69 : E 69 a69 := K func69 g69.2 (by kernel_rfl)
def g70 : G [] f70 [5,14] := ⟨_, by funext v; conv => lhs; reduce; try dsimp only [n1, n2, n3]⟩
def a70 : F := g70.1
theorem e70 : E 70 a70 := K func70 g70.2 (by kernel_rfl)
def a71x0 (v3 : AV) : AC := .op (.store 1 v3 (B false)) fun v17=>.ret .ret []
def a71x1 (v2 v3 v10 : AV) : AC := .op (.load 4 true v10) fun v12=>.op (.load 1 false v2) fun v13=>.call (.fn (.func 109) [] []) [v12, v13] fun v14=>.op (.len false v14) fun v15=>.op (.bin .gtr v15 (I 0)) fun v16=>.ite v16 ((a71x0 v3)) (.ret .normal [])
def a71x2 (v2 v3 : AV) (v9 : List AV) : AC := .op (.alloc [(I 0), (I 0), (I 0), (I 0)]) fun v10=>.op (.store 4 v10 (nth v9 2)) fun v11=>.start (nth v9 0) (.bind ((a71x1 v2 v3 v10)) (some 3) (fun v12=>.ret .normal []) (fun v12=>[]))
def a71x3 (v2 v3 v7 : AV) : AC := .call (.fn (.func 108) [] []) [v7] fun v8=>.bind (.rng 2 v8 (fun v9=>(a71x2 v2 v3 v9)) (.ret .normal []) []) (some 0) (fun v9=>.op (.store 1 v3 (B true)) fun v10=>.ret .ret [v3]) (fun v9=>[v3])
def a71x4 (v1 v2 v3 : AV) : AC := .op (.load 3 true v1) fun v4=>.call (.fn (.func 107) [] []) [v4] fun v5=>.op (.un .not v5) fun v6=>.ite v6 (.op (.store 1 v3 (B true)) fun v7=>.ret .ret [v3]) (.op (.load 3 true v1) fun v7=>(a71x3 v2 v3 v7))
def a71 : List AV → AC := fun v0=>.fin (.op (.box (nth v0 0)) fun v1=>.op (.box (nth v0 1)) fun v2=>.op (.alloc [(B false)]) fun v3=>(a71x4 v1 v2 v3)) fun v1=>.op (.load 1 false (nth v1 0)) fun v2=>.ret .ret [v2]
theorem e71 : E 71 a71 := ⟨f71, [], func71, by kernel_rfl, by kernel_rfl⟩
def g72 : G [] f72 [] := ⟨_, by funext v; conv => lhs; reduce; try dsimp only [n1, n2, n3]⟩
def a72 : F := g72.1
theorem e72 : E 72 a72 := K func72 g72.2 (by kernel_rfl)
def g73 : G [] f73 [2,8] := ⟨_, by funext v; conv => lhs; reduce; try dsimp only [n1, n2, n3]⟩
def a73 : F := g73.1
theorem e73 : E 73 a73 := K func73 g73.2 (by kernel_rfl)
def u73 (v : List AV) := (show a73 v = _ from by unfold a73 g73; dsimp only)
def g74 : G [] f74 [] := ⟨_, by funext v; conv => lhs; reduce; try dsimp only [n1, n2, n3]⟩
def a74 : F := g74.1
theorem e74 : E 74 a74 := K func74 g74.2 (by kernel_rfl)
def u74 (v : List AV) := (show a74 v = _ from by unfold a74 g74; dsimp only)
def g75 : G [] f75 [2] := ⟨_, by funext v; conv => lhs; reduce; try dsimp only [n1, n2, n3]⟩
def a75 : F := g75.1
theorem e75 : E 75 a75 := K func75 g75.2 (by kernel_rfl)
def u75 (v : List AV) := (show a75 v = _ from by unfold a75 g75; dsimp only)
def g76 : G [] f76 [14] := ⟨_, by funext v; conv => lhs; reduce; try dsimp only [n1, n2, n3]⟩
def a76 : F := g76.1
theorem e76 : E 76 a76 := K func76 g76.2 (by kernel_rfl)
def u76 (v : List AV) := (show a76 v = _ from by unfold a76 g76; dsimp only)
def a77x0 (v2 : AV) (v8 : List AV) : AC := .start (nth v8 0) (.bind (.op (.load 1 false v2) fun v9=>.call (.fn (.func 81) [] []) [v9, (nth v8 1), (U 0)] fun v10=>.ret .normal []) (some 3) (fun v9=>.ret .normal []) (fun v9=>[]))
def a77x1 (v1 v2 : AV) : AC := .op (.load 2 true v1) fun v6=>.call (.fn (.func 116) [] []) [v6] fun v7=>.bind (.rng 1 v7 (fun v8=>(a77x0 v2 v8)) (.ret .normal []) []) (some 0) (fun v8=>.ret .ret []) (fun v8=>[])
def a77 : List AV → AC := fun v0=>.op (.box (nth v0 0)) fun v1=>.op (.box (nth v0 1)) fun v2=>.op (.load 2 true v1) fun v3=>.call (.fn (.func 115) [] []) [v3] fun v4=>.op (.un .not v4) fun v5=>.ite v5 (.ret .ret []) ((a77x1 v1 v2))
theorem e77 : E 77 a77 := ⟨f77, [], func77, by kernel_rfl, by kernel_rfl⟩
def g78 : G [(6,[0,2,4,6,8,10,12,5,14])] f78 [15] := ⟨_, by funext v; conv => lhs; reduce; try dsimp only [n1, n2, n3]⟩
def a78 : F := g78.1
theorem e78 : E 78 a78 := K func78 g78.2 (by kernel_rfl)
def u78 (v : List AV) := (show a78 v = _ from by unfold a78 g78; dsimp only)
def a79x0 (v2 v9 : AV) : AC := .op (.load 4 true v9) fun v11=>.op (.load 1 false v2) fun v12=>.call (.fn (.func 120) [] []) [v11, v12] fun v13=>.ret .normal []
def a79x1 (v2 : AV) (v8 : List AV) : AC := .op (.alloc [(I 0), (I 0), (I 0), (I 0)]) fun v9=>.op (.store 4 v9 (nth v8 2)) fun v10=>.start (nth v8 0) (.bind ((a79x0 v2 v9)) (some 3) (fun v11=>.ret .normal []) (fun v11=>[]))
def a79x2 (v1 v2 : AV) : AC := .op (.load 3 true v1) fun v6=>.call (.fn (.func 108) [] []) [v6] fun v7=>.bind (.rng 2 v7 (fun v8=>(a79x1 v2 v8)) (.ret .normal []) []) (some 0) (fun v8=>.ret .ret []) (fun v8=>[])
def a79 : List AV → AC := fun v0=>.op (.box (nth v0 0)) fun v1=>.op (.box (nth v0 1)) fun v2=>.op (.load 3 true v1) fun v3=>.call (.fn (.func 119) [] []) [v3] fun v4=>.op (.un .not v4) fun v5=>.ite v5 (.ret .ret []) ((a79x2 v1 v2))
theorem e79 : E 79 a79 := ⟨f79, [], func79, by kernel_rfl, by kernel_rfl⟩
def g80 : G [] f80 [10] := ⟨_, by funext v; conv => lhs; reduce; try dsimp only [n1, n2, n3]⟩
def a80 : F := g80.1
theorem e80 : E 80 a80 := K func80 g80.2 (by kernel_rfl)
def u80 (v : List AV) := (show a80 v = _ from by unfold a80 g80; dsimp only)
def g81 : G [] f81 [] := ⟨_, by funext v; conv => lhs; reduce; try dsimp only [n1, n2, n3]⟩
def a81 : F := g81.1
theorem e81 : E 81 a81 := K func81 g81.2 (by kernel_rfl)
def u81 (v : List AV) := (show a81 v = _ from by unfold a81 g81; dsimp only)
def g82 : G [] f82 [] := ⟨_, by funext v; conv => lhs; reduce; try dsimp only [n1, n2, n3]⟩
def a82 : F := g82.1
theorem e82 : E 82 a82 := K func82 g82.2 (by kernel_rfl)
def u82 (v : List AV) := (show a82 v = _ from by unfold a82 g82; dsimp only)
def g83 : G [] f83 [6] := ⟨_, by funext v; conv => lhs; reduce; try dsimp only [n1, n2, n3]⟩
def a83 : F := g83.1
theorem e83 : E 83 a83 := K func83 g83.2 (by kernel_rfl)
def u83 (v : List AV) := (show a83 v = _ from by unfold a83 g83; dsimp only)
def g84 : G [(1,[0,2,4,6,8,10,12,7,14]),(2,[0,2,4,6,8,10,12,14,16,22,24,18,7,15,20,26,28,30])] f84 [] := ⟨_, by funext v; conv => lhs; reduce; try dsimp only [n1, n2, n3]⟩
def a84 : F := g84.1
theorem e84 : E 84 a84 := K func84 g84.2 (by kernel_rfl)
def u84 (v : List AV) := (show a84 v = _ from by unfold a84 g84; dsimp only)
def a85x0 (v0 : List AV) (v1 v16 : AV) : AC := .op (.faddr 28 v1) fun v21=>.op (.load 1 false v21) fun v22=>.op (.saddr 4 v22 (nth v0 1)) fun v23=>.op (.load 4 true v23) fun v24=>.call (.fn (.func 131) [] []) [v16, v24, (nth v0 1), (nth v0 2)] fun v25=>.call (.fn (.func 130) [] []) [v16, v25] fun v26=>.ret .normal []
def a85x1 (v0 : List AV) (v1 v16 v18 : AV) : AC := .op (.load 1 false v18) fun v19=>.op (.bin .eql v19 (I 0)) fun v20=>.bind (.ite v20 ((a85x0 v0 v1 v16)) (.ret .normal [])) none (fun v21=>.ret .ret [v16]) (fun v21=>[Np])
def a85x2 (v0 : List AV) (v1 v2 v12 : AV) : AC := .gop v12 false (.mv (nth v0 2)) fun v13=>.gop v12 false (.bin .gtr v13 (I 1099511627776)) fun v14=>.op (.pick v12 (B true) v14) fun v15=>.call (.fn (.func 129) [] []) [v2, (I 1), (I 0), v15] fun v16=>.op (.nilchk v16) fun v17=>.op (.faddr 38 v17) fun v18=>(a85x1 v0 v1 v16 v18)
def a85x3 (v0 : List AV) (v1 v2 v3 v4 v6 : AV) : AC := .gop v3 false (.len false v6) fun v7=>.gop v3 false (.bin .geq v4 v7) fun v8=>.op (.pick v3 (B true) v8) fun v9=>.gop v9 false (.mv (nth v0 2)) fun v10=>.gop v9 false (.bin .lss v10 (I 0)) fun v11=>.op (.pick v9 (B true) v11) fun v12=>(a85x2 v0 v1 v2 v12)
def a85 : List AV → AC := fun v0=>.op (.box (nth v0 0)) fun v1=>.op (.load 29 true v1) fun v2=>.op (.bin .lss (nth v0 1) (I 0)) fun v3=>.gop v3 false (.mv (nth v0 1)) fun v4=>.gop v3 false (.faddr 28 v1) fun v5=>.gop v3 false (.load 1 false v5) fun v6=>(a85x3 v0 v1 v2 v3 v4 v6)
theorem e85 : E 85 a85 := ⟨f85, [], func85, by kernel_rfl, by kernel_rfl⟩
def g86 : G [] f86 [] := ⟨_, by funext v; conv => lhs; reduce; try dsimp only [n1, n2, n3]⟩
def a86 : F := g86.1
theorem e86 : E 86 a86 := K func86 g86.2 (by kernel_rfl)
def g87 : G [] f87 [] := ⟨_, by funext v; conv => lhs; reduce; try dsimp only [n1, n2, n3]⟩
def a87 : F := g87.1
theorem e87 : E 87 a87 := K func87 g87.2 (by kernel_rfl)
def g88 : G [] f88 [] := ⟨_, by funext v; conv => lhs; reduce; try dsimp only [n1, n2, n3]⟩
def a88 : F := g88.1
theorem e88 : E 88 a88 := K func88 g88.2 (by kernel_rfl)
def g89 : G [] f89 [] := ⟨_, by funext v; conv => lhs; reduce; try dsimp only [n1, n2, n3]⟩
def a89 : F := g89.1
theorem e89 : E 89 a89 := K func89 g89.2 (by kernel_rfl)
def g91 : G [(8,[0,2,4,6,8,10,12,14,16,18,20,22,26,28,30,32,24,7,15,29,33,34,36,38])] f91 [4] := ⟨_, by funext v; conv => lhs; reduce; try dsimp only [n1, n2, n3]⟩
def a91 : F := g91.1
theorem e91 : E 91 a91 := K func91 g91.2 (by kernel_rfl)
def g92 : G [] f92 [2] := ⟨_, by funext v; conv => lhs; reduce; try dsimp only [n1, n2, n3]⟩
def a92 : F := g92.1
theorem e92 : E 92 a92 := K func92 g92.2 (by kernel_rfl)
def g93 : G [] f93 [] := ⟨_, by funext v; conv => lhs; reduce; try dsimp only [n1, n2, n3]⟩
def a93 : F := g93.1
theorem e93 : E 93 a93 := K func93 g93.2 (by kernel_rfl)
def a94x0 (v8 v12 : AV) : AC := .op (.load 1 false v8) fun v14=>.op (.load 2 true v12) fun v15=>.call (.fn (.func 126) [] []) [v14, v15] fun v16=>.ret .normal []
def a94x1 (v8 : AV) (v11 : List AV) : AC := .op (.alloc [(I 0), (I 0)]) fun v12=>.op (.store 2 v12 (nth v11 1)) fun v13=>.start (nth v11 0) (.bind ((a94x0 v8 v12)) (some 3) (fun v14=>.ret .normal []) (fun v14=>[]))
def a94x2 (v8 v10 : AV) : AC := .bind (.rng 1 v10 (fun v11=>(a94x1 v8 v11)) (.ret .normal []) []) (some 0) (fun v11=>.op (.load 1 false v8) fun v12=>.ret .ret [v12]) (fun v11=>[Np])
def a94x3 (v0 : List AV) (v4 : AV) : AC := .call (.fn (.func 46) [] []) [v4] fun v5=>.op (.extract 0 v5) fun v6=>.op (.extract 1 v5) fun v7=>.op (.alloc [Np]) fun v8=>.op (.store 1 v8 v6) fun v9=>.call (.fn (.func 142) [] []) [(nth v0 0)] fun v10=>(a94x2 v8 v10)
def a94 : List AV → AC := fun v0=>.call (.fn (.func 58) [] []) [(nth v0 0)] fun v1=>.ite v1 (.op (.build [(I 0), (B false), Ns, Ns, Ns, Ns, Ns, Ns, Ns, Ns, Ns, Ns, Ns, Ns, Ns, Ns, Ns, Ns, Ns, Ns, Ns, Ns, Ns, Ns, Ns, Ns, Ns, Ns, Ns, Ns, Ns, Ns, Ns, Ns, Ns, Ns, Ns, Ns, Ns, Ns, Ns, Ns, Ns, Ns, Ns, Ns, Ns, Ns, Ns, Ns, Ns, Ns, Ns, Ns, Ns, Ns, Ns, Ns, Ns, Ns, Ns, Ns, Ns, Ns, Ns, Ns, Ns, Ns, Ns, Ns, Ns, Ns, Ns, Ns, Ns, Ns, Ns, Ns, Ns, Ns, Ns, Ns, Ns, Ns, Ns, Ns, Ns, Ns, Ns, Ns, Ns, Ns, Ns, Ns, Ns, Ns, Ns, Ns, Ns, Ns, Ns, Ns, Ns, Ns, Ns, Ns, Ns, Ns, Ns, Ns, Ns, Ns, Ns, Ns, Ns, Ns, Ns, Ns, Ns, Ns, Ns, Ns, Ns, Ns, Ns, Ns, Ns, Ns, Ns, Ns, Ns, Ns, Ns, Ns, Ns, Ns, Ns, Ns, Ns, Ns, Ns, Ns, Ns, Ns, Ns, Ns, Ns, Ns, Ns, Ns, Ns, Ns, Ns, Ns, Ns, Ns, Ns, Ns, Ns, Ns, Ns, Ns, Ns, Ns, Ns, Ns, Ns, Ns, Ns, Ns, Ns, Ns, Ns, Ns, Ns, Ns, Ns, Ns, Nm] []) fun v2=>.op (.box v2) fun v3=>.ret .ret [v3]) (.op (.nilchk (nth v0 0)) fun v2=>.op (.faddr 0 v2) fun v3=>.op (.load 1 false v3) fun v4=>(a94x3 v0 v4))
theorem e94 : E 94 a94 := ⟨f94, [2], func94, by kernel_rfl, by kernel_rfl⟩
def a95x0 (v2 v3 v9 : AV) : AC := .op (.store 1 v3 v9) fun v12=>.ret .ret [v2, v3]
def a95x1 (v13 v18 v42 : AV) : AC := .op (.load 1 false v13) fun v44=>.op (.faddr 0 v18) fun v45=>.op (.load 1 false v45) fun v46=>.op (.build [(I 0), (I 0)] [(0, 1, v46), (1, 1, v42)]) fun v47=>.call (.fn (.func 126) [] []) [v44, v47] fun v48=>.ret .normal []
def a95x2 (v13 v18 v41 v42 : AV) : AC := .op (.extract 1 v41) fun v43=>.bind (.ite v43 ((a95x1 v13 v18 v42)) (.ret .normal [])) none (fun v44=>.ret .normal []) (fun v44=>[])
def a95x3 (v13 v18 v36 : AV) : AC := .op (.load 4 true v36) fun v37=>.op (.faddr 1 v18) fun v38=>.op (.load 1 false v38) fun v39=>.op (.bin .add v39 (I 1)) fun v40=>.call (.fn (.func 33) [] []) [v37, v40] fun v41=>.op (.extract 0 v41) fun v42=>(a95x2 v13 v18 v41 v42)
def a95x4 (v1 v13 v18 v32 : AV) : AC := .ite v32 (.ret (.exit 3) []) (.op (.load 1 false v1) fun v33=>.op (.faddr 0 v18) fun v34=>.op (.load 1 false v34) fun v35=>.op (.saddr 4 v33 v35) fun v36=>(a95x3 v13 v18 v36))
def a95x5 (v1 v11 v13 v18 v26 : AV) : AC := .op (.store 1 v11 v26) fun v27=>.op (.faddr 0 v18) fun v28=>.op (.load 1 false v28) fun v29=>.op (.load 1 false v1) fun v30=>.op (.len false v30) fun v31=>.op (.bin .geq v29 v31) fun v32=>(a95x4 v1 v13 v18 v32)
def a95x6 (v1 v2 v3 v11 v13 v18 v22 : AV) : AC := .ite v22 (.op (.store 1 v2 Ns) fun v23=>.op (.store 1 v3 (I 4)) fun v24=>.ret .ret []) (.op (.load 1 false v11) fun v23=>.op (.load 2 true v18) fun v24=>.op (.bslice 2 1 [(I 0), (I 0)] [(0, 2, v24)]) fun v25=>.op (.append 2 16 v23 v25) fun v26=>(a95x5 v1 v11 v13 v18 v26))
def a95x7 (v1 v2 v3 v11 v13 v18 : AV) : AC := .bind (.op (.load 1 false v11) fun v20=>.op (.len false v20) fun v21=>.op (.bin .eql v21 (I 4096)) fun v22=>(a95x6 v1 v2 v3 v11 v13 v18 v22)) (some 3) (fun v20=>.ret .normal []) (fun v20=>[])
def a95x8 (v1 v2 v3 v11 v13 v16 : AV) : AC := .rng 1 v16 (fun v17=>.op (.alloc [(I 0), (I 0)]) fun v18=>.op (.store 2 v18 (nth v17 1)) fun v19=>.start (nth v17 0) ((a95x7 v1 v2 v3 v11 v13 v18))) (.ret .normal []) []
def a95x9 (v2 v3 v11 v22 v23 : AV) : AC := .op (.store 179 v23 v22) fun v24=>.op (.load 1 false v11) fun v25=>.op (.store 1 v2 v25) fun v26=>.op (.store 1 v3 (I 0)) fun v27=>.ret .ret [v2, v3]
def a95x10 (v0 : List AV) (v2 v3 v11 v13 : AV) : AC := .op (.load 1 false v13) fun v18=>.call (.fn (.func 146) [] []) [v18, (nth v0 2)] fun v19=>.op (.load 1 false v13) fun v20=>.op (.nilchk v20) fun v21=>.op (.load 179 true v21) fun v22=>.op (.nilchk (nth v0 0)) fun v23=>(a95x9 v2 v3 v11 v22 v23)
def a95x11 (v0 : List AV) (v1 v2 v3 v11 : AV) : AC := .call (.fn (.func 94) [] []) [(nth v0 0)] fun v12=>.op (.alloc [Np]) fun v13=>.op (.store 1 v13 v12) fun v14=>.op (.load 1 false v13) fun v15=>.call (.fn (.func 145) [] []) [v15, (nth v0 2)] fun v16=>.bind ((a95x8 v1 v2 v3 v11 v13 v16)) (some 0) (fun v17=>(a95x10 v0 v2 v3 v11 v13)) (fun v17=>[v2, v3])
def a95x12 (v0 : List AV) (v1 v2 v3 v6 v7 : AV) : AC := .op (.bslice 1 2 [(I 0)] [(0, 1, v6), (1, 1, v7)]) fun v8=>.call (.fn (.func 143) [] []) [v8] fun v9=>.op (.bin .neq v9 (I 0)) fun v10=>.ite v10 (.op (.store 1 v2 Ns) fun v11=>(a95x0 v2 v3 v9)) (.op (.alloc [Ns]) fun v11=>(a95x11 v0 v1 v2 v3 v11))
def a95x13 (v0 : List AV) (v1 v2 v3 : AV) : AC := .call (.fn (.func 58) [] []) [(nth v0 0)] fun v4=>.ite v4 (.op (.store 1 v2 Ns) fun v5=>.op (.store 1 v3 (I 1)) fun v6=>.ret .ret [v2, v3]) (.op (.load 1 false v1) fun v5=>.call (.fn (.func 30) [] []) [v5] fun v6=>.call (.fn (.func 144) [] []) [(nth v0 0), (nth v0 2)] fun v7=>(a95x12 v0 v1 v2 v3 v6 v7))
def a95 : List AV → AC := fun v0=>.fin (.op (.box (nth v0 1)) fun v1=>.op (.alloc [Ns]) fun v2=>.op (.alloc [(I 0)]) fun v3=>(a95x13 v0 v1 v2 v3)) fun v1=>.op (.load 1 false (nth v1 0)) fun v2=>.op (.load 1 false (nth v1 1)) fun v3=>.ret .ret [v2, v3]
theorem e95 : E 95 a95 := ⟨f95, [], func95, by kernel_rfl, by kernel_rfl⟩
def g96 : G [] f96 [6,7,15] := ⟨_, by funext v; conv => lhs; reduce; try dsimp only [n1, n2, n3]⟩
def a96 : F := g96.1
theorem e96 : E 96 a96 := K func96 g96.2 (by kernel_rfl)
def g97 : G [] f97 [2] := ⟨_, by funext v; conv => lhs; reduce; try dsimp only [n1, n2, n3]⟩
def a97 : F := g97.1
theorem e97 : E 97 a97 := K func97 g97.2 (by kernel_rfl)
def g98 : G [] f98 [] := ⟨_, by funext v; conv => lhs; reduce; try dsimp only [n1, n2, n3]⟩
def a98 : F := g98.1
theorem e98 : E 98 a98 := K func98 g98.2 (by kernel_rfl)
def u98 (v : List AV) := (show a98 v = _ from by unfold a98 g98; dsimp only)
def g99 : G [] f99 [4] := ⟨_, by funext v; conv => lhs; reduce; try dsimp only [n1, n2, n3]⟩
def a99 : F := g99.1
theorem e99 : E 99 a99 := K func99 g99.2 (by kernel_rfl)
def u99 (v : List AV) := (show a99 v = _ from by unfold a99 g99; dsimp only)
def g100 : G [] f100 [2] := ⟨_, by funext v; conv => lhs; reduce; try dsimp only [n1, n2, n3]⟩
def a100 : F := g100.1
theorem e100 : E 100 a100 := K func100 g100.2 (by kernel_rfl)
def g101 : G [] f101 [6] := ⟨_, by funext v; conv => lhs; reduce; try dsimp only [n1, n2, n3]⟩
def a101 : F := g101.1
theorem e101 : E 101 a101 := K func101 g101.2 (by kernel_rfl)
def u101 (v : List AV) := (show a101 v = _ from by unfold a101 g101; dsimp only)
def g102 : G [] f102 [] := ⟨_, by funext v; conv => lhs; reduce; try dsimp only [n1, n2, n3]⟩
def a102 : F := g102.1
theorem e102 : E 102 a102 := K func102 g102.2 (by kernel_rfl)
def u102 (v : List AV) := (show a102 v = _ from by unfold a102 g102; dsimp only)
def g103 : G [] f103 [] := ⟨_, by funext v; conv => lhs; reduce; try dsimp only [n1, n2, n3]⟩
def a103 : F := g103.1
theorem e103 : E 103 a103 := K func103 g103.2 (by kernel_rfl)
def g104 : G [] f104 [] := ⟨_, by funext v; conv => lhs; reduce; try dsimp only [n1, n2, n3]⟩
def a104 : F := g104.1
theorem e104 : E 104 a104 := K func104 g104.2 (by kernel_rfl)
def g106 : G [] f106 [6,21] := ⟨_, by funext v; conv => lhs; reduce; try dsimp only [n1, n2, n3]⟩
def a106 : F := g106.1
theorem e106 : E 106 a106 := K func106 g106.2 (by kernel_rfl)
def g107 : G [] f107 [] := ⟨_, by funext v; conv => lhs; reduce; try dsimp only [n1, n2, n3]⟩
def a107 : F := g107.1
theorem e107 : E 107 a107 := K func107 g107.2 (by kernel_rfl)
def g108 : G [] f108 [] := ⟨_, by funext v; conv => lhs; reduce; try dsimp only [n1, n2, n3]⟩
def a108 : F := g108.1
theorem e108 : E 108 a108 := K func108 g108.2 (by kernel_rfl)
def u108 (v : List AV) := (show a108 v = _ from by unfold a108 g108; dsimp only)
def a109x0 (v10 v22 : AV) : AC := .op (.store 1 v10 v22) fun v23=>.ret .normal []
def a109x1 (v10 v15 v16 v18 : AV) : AC := .call v16 [v18] fun v19=>.chk (.load 1 false v10) v15 (.call (.fn (.func 162) [] []) [v19] fun v20=>.chk (.load 1 false v10) v15 (.op (.bslice 1 1 [(I 0)] [(0, 1, v20)]) fun v21=>.op (.append 1 8 v15 v21) fun v22=>(a109x0 v10 v22)))
def a109x2 (v1 v8 v10 : AV) (v14 : List AV) : AC := .op (.load 1 false v10) fun v15=>.op (.load 1 false v8) fun v16=>.op (.load 4 true v1) fun v17=>.call (.fn (.func 161) [] []) [v17, (nth v14 1)] fun v18=>.chk (.load 1 false v10) v15 (.chk (.load 1 false v8) v16 ((a109x1 v10 v15 v16 v18)))
def a109x3 (v1 v8 v10 v13 : AV) : AC := .rng 1 v13 (fun v14=>.start (nth v14 0) (.bind ((a109x2 v1 v8 v10 v14)) (some 3) (fun v15=>.ret .normal []) (fun v15=>[]))) (.ret .normal []) []
def a109x4 (v10 : AV) : AC := .op (.load 1 false v10) fun v15=>.ret .ret [v15]
def a109x5 (v1 v8 v10 : AV) : AC := .op (.load 4 true v1) fun v11=>.op (.load 1 false v8) fun v12=>.call (.fn (.func 160) [] []) [v11, v12] fun v13=>.bind ((a109x3 v1 v8 v10 v13)) (some 0) (fun v14=>(a109x4 v10)) (fun v14=>[Ns])
def a109x6 (v0 : List AV) (v1 : AV) : AC := .call (.fn (.func 67) [] []) [(nth v0 1)] fun v5=>.op (.alloc [Ns]) fun v6=>.op (.store 1 v6 v5) fun v7=>.op (.alloc [Nf]) fun v8=>.op (.store 1 v8 (.fn (.func 159) [] [v6])) fun v9=>.op (.alloc [Ns]) fun v10=>(a109x5 v1 v8 v10)
def a109 : List AV → AC := fun v0=>.op (.box (nth v0 0)) fun v1=>.op (.load 4 true v1) fun v2=>.call (.fn (.func 158) [] []) [v2] fun v3=>.op (.un .not v3) fun v4=>.ite v4 (.ret .ret [Ns]) ((a109x6 v0 v1))
theorem e109 : E 109 a109 := ⟨f109, [4], func109, by kernel_rfl, by kernel_rfl⟩
def g110 : G [] f110 [2] := ⟨_, by funext v; conv => lhs; reduce; try dsimp only [n1, n2, n3]⟩
def a110 : F := g110.1
theorem e110 : E 110 a110 := K func110 g110.2 (by kernel_rfl)
def g111 : G [] f111 [] := ⟨_, by funext v; conv => lhs; reduce; try dsimp only [n1, n2, n3]⟩
def a111 : F := g111.1
theorem e111 : E 111 a111 := K func111 g111.2 (by kernel_rfl)
def g112 : G [] f112 [] := ⟨_, by funext v; conv => lhs; reduce; try dsimp only [n1, n2, n3]⟩
def a112 : F := g112.1
theorem e112 : E 112 a112 := K func112 g112.2 (by kernel_rfl)
def u112 (v : List AV) := (show a112 v = _ from by unfold a112 g112; dsimp only)
def g113 : G [] f113 [] := ⟨_, by funext v; conv => lhs; reduce; try dsimp only [n1, n2, n3]⟩
def a113 : F := g113.1
theorem e113 : E 113 a113 := K func113 g113.2 (by kernel_rfl)
def u113 (v : List AV) := (show a113 v = _ from by unfold a113 g113; dsimp only)
def g114 : G [] f114 [13] := ⟨_, by funext v; conv => lhs; reduce; try dsimp only [n1, n2, n3]⟩
def a114 : F := g114.1
theorem e114 : E 114 a114 := K func114 g114.2 (by kernel_rfl)
def u114 (v : List AV) := (show a114 v = _ from by unfold a114 g114; dsimp only)
def g115 : G [] f115 [] := ⟨_, by funext v; conv => lhs; reduce; try dsimp only [n1, n2, n3]⟩
def a115 : F := g115.1
theorem e115 : E 115 a115 := K func115 g115.2 (by kernel_rfl)
def u115 (v : List AV) := (show a115 v = _ from by unfold a115 g115; dsimp only)
def g116 : G [] f116 [] := ⟨_, by funext v; conv => lhs; reduce; try dsimp only [n1, n2, n3]⟩
def a116 : F := g116.1
theorem e116 : E 116 a116 := K func116 g116.2 (by kernel_rfl)
def u116 (v : List AV) := (show a116 v = _ from by unfold a116 g116; dsimp only)
def g117 : G [(2,[0,2,4,6,5,8]),(9,[0,2,4,6,8,10,12,5,14])] f117 [16,5] := ⟨_, by funext v; conv => lhs; reduce; try dsimp only [n1, n2, n3]⟩
def a117 : F := g117.1
theorem e117 : E 117 a117 := K func117 g117.2 (by kernel_rfl)
def u117 (v : List AV) := (show a117 v = _ from by unfold a117 g117; dsimp only)
def g118 : G [] f118 [] := ⟨_, by funext v; conv => lhs; reduce; try dsimp only [n1, n2, n3]⟩
def a118 : F := g118.1
theorem e118 : E 118 a118 := K func118 g118.2 (by kernel_rfl)
def u118 (v : List AV) := (show a118 v = _ from by unfold a118 g118; dsimp only)
def g119 : G [] f119 [] := ⟨_, by funext v; conv => lhs; reduce; try dsimp only [n1, n2, n3]⟩
def a119 : F := g119.1
theorem e119 : E 119 a119 := K func119 g119.2 (by kernel_rfl)
def u119 (v : List AV) := (show a119 v = _ from by unfold a119 g119; dsimp only)
def g120 : G [] f120 [18] := ⟨_, by funext v; conv => lhs; reduce; try dsimp only [n1, n2, n3]⟩
def a120 : F := g120.1
theorem e120 : E 120 a120 := K func120 g120.2 (by kernel_rfl)
def u120 (v : List AV) := (show a120 v = _ from by unfold a120 g120; dsimp only)
def g121 : G [] f121 [] := ⟨_, by funext v; conv => lhs; reduce; try dsimp only [n1, n2, n3]⟩
def a121 : F := g121.1
theorem e121 : E 121 a121 := K func121 g121.2 (by kernel_rfl)
def u121 (v : List AV) := (show a121 v = _ from by unfold a121 g121; dsimp only)
def g122 : G [] f122 [4] := ⟨_, by funext v; conv => lhs; reduce; try dsimp only [n1, n2, n3]⟩
def a122 : F := g122.1
theorem e122 : E 122 a122 := K func122 g122.2 (by kernel_rfl)
def u122 (v : List AV) := (show a122 v = _ from by unfold a122 g122; dsimp only)
def a123x0 (v1 : AV) : AC := .op (.build [(I 0), (I 0), (U 0), (U 0), (B false)] []) fun v9=>.op (.store 5 v1 v9) fun v10=>.ret .ret [v1]
def a123x1 (v0 : List AV) (v22 v23 : AV) : AC := .op (.nilchk (nth v0 0)) fun v34=>.op (.faddr 2 v34) fun v35=>.op (.faddr 4 v35) fun v36=>.op (.store 1 v36 v23) fun v37=>.op (.nilchk (nth v0 3)) fun v38=>.op (.store 1 v38 v22) fun v39=>.ret .normal []
def a123x2 (v0 : List AV) (v22 v23 v25 v27 : AV) : AC := .op (.faddr 2 v27) fun v28=>.op (.store 1 v28 v25) fun v29=>.op (.nilchk (nth v0 0)) fun v30=>.op (.faddr 2 v30) fun v31=>.op (.faddr 3 v31) fun v32=>.op (.store 1 v32 v22) fun v33=>(a123x1 v0 v22 v23)
def a123x3 (v0 : List AV) (v21 : AV) : AC := .op (.extract 0 v21) fun v22=>.op (.extract 1 v21) fun v23=>.op (.nilchk (nth v0 3)) fun v24=>.op (.load 1 false v24) fun v25=>.op (.nilchk (nth v0 0)) fun v26=>.op (.faddr 2 v26) fun v27=>(a123x2 v0 v22 v23 v25 v27)
def a123x4 (v1 v24 : AV) : AC := .op (.store 5 v1 v24) fun v25=>.ret .ret [v1]
def a123x5 (v0 : List AV) (v1 v20 : AV) : AC := .bind (.ite v20 (.call (nth v0 4) [] fun v21=>(a123x3 v0 v21)) (.ret .normal [])) none (fun v21=>.op (.nilchk (nth v0 0)) fun v22=>.op (.faddr 2 v22) fun v23=>.op (.load 5 true v23) fun v24=>(a123x4 v1 v24)) (fun v21=>[v1])
def a123x6 (v0 : List AV) (v1 v12 v14 : AV) : AC := .op (.store 1 v14 v12) fun v15=>.op (.build [(I 0), (I 0), (U 0), (U 0), (B false)] [(0, 1, (nth v0 1)), (1, 1, (nth v0 2))]) fun v16=>.op (.nilchk (nth v0 0)) fun v17=>.op (.faddr 2 v17) fun v18=>.op (.store 5 v18 v16) fun v19=>.call (.fn (.func 170) [] []) [(nth v0 3)] fun v20=>(a123x5 v0 v1 v20)
def a123x7 (v0 : List AV) (v1 : AV) : AC := .op (.nilchk (nth v0 0)) fun v9=>.op (.faddr 7 v9) fun v10=>.op (.load 1 false v10) fun v11=>.op (.bin .add v11 (I 1)) fun v12=>.op (.nilchk (nth v0 0)) fun v13=>.op (.faddr 7 v13) fun v14=>(a123x6 v0 v1 v12 v14)
def a123x8 (v0 : List AV) (v1 v2 v3 : AV) : AC := .gop v2 false (.nilchk v3) fun v4=>.gop v2 false (.faddr 0 v4) fun v5=>.gop v2 false (.load 1 false v5) fun v6=>.gop v2 false (.eq 171 false v6 Np) fun v7=>.op (.pick v2 (B true) v7) fun v8=>.ite v8 ((a123x0 v1)) ((a123x7 v0 v1))
def a123 : List AV → AC := fun v0=>.fin (.op (.alloc [(I 0), (I 0), (U 0), (U 0), (B false)]) fun v1=>.op (.eq 97 false (nth v0 0) Np) fun v2=>.gop v2 false (.mv (nth v0 0)) fun v3=>(a123x8 v0 v1 v2 v3)) fun v1=>.op (.load 5 true (nth v1 0)) fun v2=>.ret .ret [v2]
theorem e123 : E 123 a123 := ⟨f123, [], func123, by kernel_rfl, by kernel_rfl⟩
def g124 : G [] f124 [] := ⟨_, by funext v; conv => lhs; reduce; try dsimp only [n1, n2, n3]⟩
def a124 : F := g124.1
theorem e124 : E 124 a124 := K func124 g124.2 (by kernel_rfl)
def u124 (v : List AV) := (show a124 v = _ from by unfold a124 g124; dsimp only)
def g125 : G [] f125 [] := ⟨_, by funext v; conv => lhs; reduce; try dsimp only [n1, n2, n3]⟩
def a125 : F := g125.1
theorem e125 : E 125 a125 := K func125 g125.2 (by kernel_rfl)
def u125 (v : List AV) := (show a125 v = _ from by unfold a125 g125; dsimp only)
def g126 : G [] f126 [] := ⟨_, by funext v; conv => lhs; reduce; try dsimp only [n1, n2, n3]⟩
def a126 : F := g126.1
theorem e126 : E 126 a126 := K func126 g126.2 (by kernel_rfl)
def u126 (v : List AV) := (show a126 v = _ from by unfold a126 g126; dsimp only)
def g127 : G [] f127 [6] := ⟨_, by funext v; conv => lhs; reduce; try dsimp only [n1, n2, n3]⟩
def a127 : F := g127.1
theorem e127 : E 127 a127 := K func127 g127.2 (by kernel_rfl)
def u127 (v : List AV) := (show a127 v = _ from by unfold a127 g127; dsimp only)
def g128 : G [] f128 [2] := ⟨_, by funext v; conv => lhs; reduce; try dsimp only [n1, n2, n3]⟩
def a128 : F := g128.1
theorem e128 : E 128 a128 := K func128 g128.2 (by kernel_rfl)
def u128 (v : List AV) := (show a128 v = _ from by unfold a128 g128; dsimp only)
def a129x0 (v4 : AV) : AC := .op (.nilchk v4) fun v8=>.op (.faddr 38 v8) fun v9=>.op (.store 1 v9 (I 3)) fun v10=>.ret .normal []
def a129x1 (v0 : List AV) (v4 v7 : AV) : AC := .ite v7 (.op (.nilchk v4) fun v8=>.op (.faddr 38 v8) fun v9=>.op (.store 1 v9 (I 2)) fun v10=>.ret .normal []) (.bind (.ite (nth v0 3) ((a129x0 v4)) (.ret .normal [])) none (fun v8=>.ret .normal []) (fun v8=>[]))
def a129x2 (v0 : List AV) (v1 v4 : AV) : AC := .op (.load 29 true v1) fun v5=>.call (.fn (.func 66) [] []) [v5] fun v6=>.op (.un .not v6) fun v7=>.bind ((a129x1 v0 v4 v7)) none (fun v8=>.ret .normal []) (fun v8=>[])
def a129x3 (v4 : AV) : AC := .op (.nilchk v4) fun v6=>.op (.faddr 0 v6) fun v7=>.op (.faddr 28 v7) fun v8=>.op (.store 1 v8 Ns) fun v9=>.ret .ret [v4]
def a129 : List AV → AC := fun v0=>.op (.box (nth v0 0)) fun v1=>.op (.load 29 true v1) fun v2=>.op (.build [(I 0), (I 0), (I 0), (I 0), (I 0), (I 0), (I 0), (I 0), (I 0), (I 0), (I 0), (I 0), (I 0), (I 0), (I 0), (I 0), (I 0), (I 0), (I 0), (I 0), (I 0), (I 0), (I 0), (I 0), (I 0), (I 0), (I 0), (I 0), Ns, (I 0), (I 0), Ns, Ns, (I 0), (U 0), (U 0), (B false), (U 0), (I 0)] [(0, 29, v2), (29, 1, (nth v0 1)), (30, 1, (nth v0 2))]) fun v3=>.op (.box v3) fun v4=>.bind ((a129x2 v0 v1 v4)) (some 0) (fun v5=>(a129x3 v4)) (fun v5=>[Np])
theorem e129 : E 129 a129 := ⟨f129, [], func129, by kernel_rfl, by kernel_rfl⟩
def a130x0 (v1 v3 v4 : AV) : AC := .op (.append 1 8 v3 v4) fun v5=>.op (.store 1 v1 v5) fun v6=>.ret .normal []
def a130x1 (v1 : AV) (v2 : List AV) : AC := .start (nth v2 0) (.bind (.op (.load 1 false v1) fun v3=>.op (.bslice 1 1 [Nf] [(0, 1, (nth v2 1))]) fun v4=>(a130x0 v1 v3 v4)) (some 3) (fun v3=>.ret .normal []) (fun v3=>[]))
def a130x2 (v0 : List AV) (v10 v13 : AV) : AC := .op (.bslice 1 1 [Nf] [(0, 1, v13)]) fun v14=>.op (.append 1 8 v10 v14) fun v15=>.op (.nilchk (nth v0 0)) fun v16=>.op (.faddr 31 v16) fun v17=>.op (.store 1 v17 v15) fun v18=>.ret .normal []
def a130x3 (v0 : List AV) (v1 : AV) (v6 : List AV) : AC := .op (.nilchk (nth v0 0)) fun v8=>.op (.faddr 31 v8) fun v9=>.op (.load 1 false v9) fun v10=>.op (.load 1 false v1) fun v11=>.op (.saddr 1 v11 (nth v6 0)) fun v12=>.op (.load 1 false v12) fun v13=>(a130x2 v0 v10 v13)
def a130x4 (v6 : List AV) : AC := .op (.bin .sub (nth v6 0) (I 1)) fun v9=>.ret .normal [v9]
def a130x5 (v0 : List AV) (v1 : AV) (v6 : List AV) : AC := .op (.bin .geq (nth v6 0) (I 0)) fun v7=>.ite v7 (.bind ((a130x3 v0 v1 v6)) (some 9) (fun v8=>(a130x4 v6)) (fun v8=>[(nth v6 0)])) (.ret (.exit 6) [(nth v6 0)])
def a130x6 (v0 : List AV) (v1 v4 : AV) : AC := .op (.bin .sub v4 (I 1)) fun v5=>.bind (.loop [v5] (fun v6=>(a130x5 v0 v1 v6)) (fun v6=>[(nth v6 0)])) (some 6) (fun v6=>.ret .ret []) (fun v6=>[])
def a130 : List AV → AC := fun v0=>.op (.alloc [Ns]) fun v1=>.bind (.rng 1 (nth v0 1) (fun v2=>(a130x1 v1 v2)) (.ret .normal []) []) (some 0) (fun v2=>.op (.load 1 false v1) fun v3=>.op (.len false v3) fun v4=>(a130x6 v0 v1 v4)) (fun v2=>[])
theorem e130 : E 130 a130 := ⟨f130, [6], func130, by kernel_rfl, by kernel_rfl⟩
def g131 : G [] f131 [] := ⟨_, by funext v; conv => lhs; reduce; try dsimp only [n1, n2, n3]⟩
def a131 : F := g131.1
theorem e131 : E 131 a131 := K func131 g131.2 (by kernel_rfl)
def u131 (v : List AV) := (show a131 v = _ from by unfold a131 g131; dsimp only)
def g132 : G [] f132 [] := ⟨_, by funext v; conv => lhs; reduce; try dsimp only [n1, n2, n3]⟩
def a132 : F := g132.1
theorem e132 : E 132 a132 := K func132 g132.2 (by kernel_rfl)
def g133 : G [(1,[0,2,4,6,8,10,12,14,16,26,18,20,22,24,28,30])] f133 [] := ⟨_, by funext v; conv => lhs; reduce; try dsimp only [n1, n2, n3]⟩
def a133 : F := g133.1
theorem e133 : E 133 a133 := K func133 g133.2 (by kernel_rfl)
def g134 : G [] f134 [4] := ⟨_, by funext v; conv => lhs; reduce; try dsimp only [n1, n2, n3]⟩
def a134 : F := g134.1
theorem e134 : E 134 a134 := K func134 g134.2 (by kernel_rfl)
def g135 : G [] f135 [] := ⟨_, by funext v; conv => lhs; reduce; try dsimp only [n1, n2, n3]⟩
def a135 : F := g135.1
theorem e135 : E 135 a135 := K func135 g135.2 (by kernel_rfl)
def g136 : G [] f136 [] := ⟨_, by funext v; conv => lhs; reduce; try dsimp only [n1, n2, n3]⟩
def a136 : F := g136.1
theorem e136 : E 136 a136 := K func136 g136.2 (by kernel_rfl)
def g138 : G [] f138 [4] := ⟨_, by funext v; conv => lhs; reduce; try dsimp only [n1, n2, n3]⟩
def a138 : F := g138.1
theorem e138 : E 138 a138 := K func138 g138.2 (by kernel_rfl)
def g139 : G [] f139 [4] := ⟨_, by funext v; conv => lhs; reduce; try dsimp only [n1, n2, n3]⟩
def a139 : F := g139.1
theorem e139 : E 139 a139 := K func139 g139.2 (by kernel_rfl)
def g140 : G [] f140 [4] := ⟨_, by funext v; conv => lhs; reduce; try dsimp only [n1, n2, n3]⟩
def a140 : F := g140.1
theorem e140 : E 140 a140 := K func140 g140.2 (by kernel_rfl)
def g141 : G [] f141 [] := ⟨_, by funext v; conv => lhs; reduce; try dsimp only [n1, n2, n3]⟩
def a141 : F := g141.1
theorem e141 : E 141 a141 := K func141 g141.2 (by kernel_rfl)
def g142 : G [] f142 [] := ⟨_, by funext v; conv => lhs; reduce; try dsimp only [n1, n2, n3]⟩
def a142 : F := g142.1
theorem e142 : E 142 a142 := K func142 g142.2 (by kernel_rfl)
def u142 (v : List AV) := (show a142 v = _ from by unfold a142 g142; dsimp only)
def g143 : G [] f143 [2,8] := ⟨_, by funext v; conv => lhs; reduce; try dsimp only [n1, n2, n3]⟩
def a143 : F := g143.1
theorem e143 : E 143 a143 := K func143 g143.2 (by kernel_rfl)
def u143 (v : List AV) := (show a143 v = _ from by unfold a143 g143; dsimp only)
def g144 : G [] f144 [4] := ⟨_, by funext v; conv => lhs; reduce; try dsimp only [n1, n2, n3]⟩
def a144 : F := g144.1
theorem e144 : E 144 a144 := K func144 g144.2 (by kernel_rfl)
def u144 (v : List AV) := (show a144 v = _ from by unfold a144 g144; dsimp only)
def g145 : G [] f145 [] := ⟨_, by funext v; conv => lhs; reduce; try dsimp only [n1, n2, n3]⟩
def a145 : F := g145.1
theorem e145 : E 145 a145 := K func145 g145.2 (by kernel_rfl)
def u145 (v : List AV) := (show a145 v = _ from by unfold a145 g145; dsimp only)
def a146x0 (v0 : List AV) (v14 v15 : AV) : AC := .op (.store 2 v15 v14) fun v16=>.op (.load 2 true v15) fun v17=>.call (.fn (.func 126) [] []) [(nth v0 0), v17] fun v18=>.ret .normal []
def a146x1 (v0 : List AV) (v2 : AV) (v11 : List AV) : AC := .bind (.op (.saddr 2 v2 (nth v11 0)) fun v13=>.op (.load 2 true v13) fun v14=>.op (.alloc [(I 0), (I 0)]) fun v15=>(a146x0 v0 v14 v15)) (some 3) (fun v13=>.op (.bin .add (nth v11 0) (I 1)) fun v14=>.ret .normal [v14]) (fun v13=>[(nth v11 0)])
def a146x2 (v0 : List AV) (v2 v10 : AV) : AC := .loop [(I 0)] (fun v11=>.op (.bin .lss (nth v11 0) v10) fun v12=>.ite v12 ((a146x1 v0 v2 v11)) (.ret (.exit 0) [(nth v11 0)])) (fun v11=>[(nth v11 0)])
def a146x3 (v0 : List AV) (v2 : AV) : AC := .op (.nilchk (nth v0 0)) fun v7=>.op (.faddr 0 v7) fun v8=>.op (.store 1 v8 (nth v0 1)) fun v9=>.op (.len false v2) fun v10=>.bind ((a146x2 v0 v2 v10)) (some 0) (fun v11=>.ret .ret []) (fun v11=>[])
def a146 : List AV → AC := fun v0=>.call (.fn (.func 142) [] []) [(nth v0 0)] fun v1=>.call (.fn (.func 235) [] []) [v1] fun v2=>.op (.build (List.replicate 176 Ns) []) fun v3=>.op (.nilchk (nth v0 0)) fun v4=>.op (.faddr 2 v4) fun v5=>.op (.store 176 v5 v3) fun v6=>(a146x3 v0 v2)
theorem e146 : E 146 a146 := ⟨f146, [20], func146, by kernel_rfl, by kernel_rfl⟩
def g147 : G [] f147 [] := ⟨_, by funext v; conv => lhs; reduce; try dsimp only [n1, n2, n3]⟩
def a147 : F := g147.1
theorem e147 : E 147 a147 := K func147 g147.2 (by kernel_rfl)
def g148 : G [] f148 [] := ⟨_, by funext v; conv => lhs; reduce; try dsimp only [n1, n2, n3]⟩
def a148 : F := g148.1
theorem e148 : E 148 a148 := K func148 g148.2 (by kernel_rfl)
def u148 (v : List AV) := (show a148 v = _ from by unfold a148 g148; dsimp only)
def g149 : G [(3,[0,2,4,6,8,10,18,12,3,14,16,20,22])] f149 [6] := ⟨_, by funext v; conv => lhs; reduce; try dsimp only [n1, n2, n3]⟩
def a149 : F := g149.1
theorem e149 : E 149 a149 := K func149 g149.2 (by kernel_rfl)
def u149 (v : List AV) := (show a149 v = _ from by unfold a149 g149; dsimp only)
def g150 : G [] f150 [] := ⟨_, by funext v; conv => lhs; reduce; try dsimp only [n1, n2, n3]⟩
def a150 : F := g150.1
theorem e150 : E 150 a150 := K func150 g150.2 (by kernel_rfl)
def g151 : G [(3,[0,2,4,6,8,10,18,12,3,14,16,20,22])] f151 [6] := ⟨_, by funext v; conv => lhs; reduce; try dsimp only [n1, n2, n3]⟩
def a151 : F := g151.1
theorem e151 : E 151 a151 := K func151 g151.2 (by kernel_rfl)
def g152 : G [] f152 [3,1,11,10,2,13,14] := ⟨_, by funext v; conv => lhs; reduce; try dsimp only [n1, n2, n3]⟩
def a152 : F := g152.1
theorem e152 : E 152 a152 := K func152 g152.2 (by kernel_rfl)
def g153 : G [] f153 [2] := ⟨_, by funext v; conv => lhs; reduce; try dsimp only [n1, n2, n3]⟩
def a153 : F := g153.1
theorem e153 : E 153 a153 := K func153 g153.2 (by kernel_rfl)
def g154 : G [] f154 [2,8] := ⟨_, by funext v; conv => lhs; reduce; try dsimp only [n1, n2, n3]⟩
def a154 : F := g154.1
theorem e154 : E 154 a154 := K func154 g154.2 (by kernel_rfl)
def u154 (v : List AV) := (show a154 v = _ from by unfold a154 g154; dsimp only)
def g155 : G [] f155 [4] := ⟨_, by funext v; conv => lhs; reduce; try dsimp only [n1, n2, n3]⟩
def a155 : F := g155.1
theorem e155 : E 155 a155 := K func155 g155.2 (by kernel_rfl)
end
end Go.Proofs.Tryz
