/- The bodies of functions of this cut, gone through by Lean itself. No condition. -/
import Derived.Test.YtdidccjcbfcklaaGreatT0
set_option linter.unusedVariables false
set_option linter.defProp false
set_option maxRecDepth 100000
set_option maxHeartbeats 0
namespace Go.Proofs.Tryz
noncomputable section
open Go.Abs
open Int renaming ofNat_eq_natCast → n1, cast_ofNat_Int → n2
def g156 : G [] f156 [4] := ⟨_, by funext v; conv => lhs; reduce; try dsimp only [n1, n2, n3]⟩
def a156 : F := g156.1
theorem e156 : E 156 a156 := K func156 g156.2 (by kernel_rfl)
def u156 (v : List AV) := (show a156 v = _ from by unfold a156 g156; dsimp only)
def g157 : G [] f157 [7] := ⟨_, by funext v; conv => lhs; reduce; try dsimp only [n1, n2, n3]⟩
def a157 : F := g157.1
theorem e157 : E 157 a157 := K func157 g157.2 (by kernel_rfl)
def u157 (v : List AV) := (show a157 v = _ from by unfold a157 g157; dsimp only)
def g158 : G [] f158 [] := ⟨_, by funext v; conv => lhs; reduce; try dsimp only [n1, n2, n3]⟩
def a158 : F := g158.1
theorem e158 : E 158 a158 := K func158 g158.2 (by kernel_rfl)
def u158 (v : List AV) := (show a158 v = _ from by unfold a158 g158; dsimp only)
def g159 : G [] f159 [3] := ⟨_, by funext v; conv => lhs; reduce; try dsimp only [n1, n2, n3]⟩
def a159 : F := g159.1
theorem e159 : E 159 a159 := K func159 g159.2 (by kernel_rfl)
def g160 : G [] f160 [] := ⟨_, by funext v; conv => lhs; reduce; try dsimp only [n1, n2, n3]⟩
def a160 : F := g160.1
theorem e160 : E 160 a160 := K func160 g160.2 (by kernel_rfl)
def g161 : G [] f161 [] := ⟨_, by funext v; conv => lhs; reduce; try dsimp only [n1, n2, n3]⟩
def a161 : F := g161.1
theorem e161 : E 161 a161 := K func161 g161.2 (by kernel_rfl)
def g162 : G [] f162 [] := ⟨_, by funext v; conv => lhs; reduce; try dsimp only [n1, n2, n3]⟩
def a162 : F := g162.1
theorem e162 : E 162 a162 := K func162 g162.2 (by kernel_rfl)
def g163 : G [] f163 [7,8,6] := ⟨_, by funext v; conv => lhs; reduce; try dsimp only [n1, n2, n3]⟩
def a163 : F := g163.1
theorem e163 : E 163 a163 := K func163 g163.2 (by kernel_rfl)
def g164 : G [] f164 [19] := ⟨_, by funext v; conv => lhs; reduce; try dsimp only [n1, n2, n3]⟩
def a164 : F := g164.1
theorem e164 : E 164 a164 := K func164 g164.2 (by kernel_rfl)
def u164 (v : List AV) := (show a164 v = _ from by unfold a164 g164; dsimp only)
def a165x0 (v2 : AV) (v12 : List AV) : AC := .start (nth v12 0) (.bind (.op (.load 1 false v2) fun v13=>.call (.fn (.func 81) [] []) [v13, (nth v12 2), (U 0)] fun v14=>.ret .normal []) (some 3) (fun v13=>.ret .normal []) (fun v13=>[]))
def a165x1 (v2 v11 : AV) : AC := .bind (.rng 2 v11 (fun v12=>(a165x0 v2 v12)) (.ret .normal []) []) (some 0) (fun v12=>.ret .ret []) (fun v12=>[])
def a165x2 (v1 v2 : AV) : AC := .op (.load 1 false v2) fun v6=>.op (.faddr 0 v1) fun v7=>.op (.load 1 false v7) fun v8=>.call (.fn (.func 81) [] []) [v6, v8, (U 0)] fun v9=>.op (.load 3 true v1) fun v10=>.call (.fn (.func 255) [] []) [v10] fun v11=>(a165x1 v2 v11)
def a165 : List AV → AC := fun v0=>.op (.box (nth v0 0)) fun v1=>.op (.box (nth v0 1)) fun v2=>.op (.load 3 true v1) fun v3=>.call (.fn (.func 254) [] []) [v3] fun v4=>.op (.un .not v4) fun v5=>.ite v5 (.ret .ret []) ((a165x2 v1 v2))
theorem e165 : E 165 a165 := ⟨f165, [], func165, by kernel_rfl, by kernel_rfl⟩
def g166 : G [] f166 [] := ⟨_, by funext v; conv => lhs; reduce; try dsimp only [n1, n2, n3]⟩
def a166 : F := g166.1
theorem e166 : E 166 a166 := K func166 g166.2 (by kernel_rfl)
def u166 (v : List AV) := (show a166 v = _ from by unfold a166 g166; dsimp only)
def g167 : G [] f167 [6] := ⟨_, by funext v; conv => lhs; reduce; try dsimp only [n1, n2, n3]⟩
def a167 : F := g167.1
theorem e167 : E 167 a167 := K func167 g167.2 (by kernel_rfl)
def u167 (v : List AV) := (show a167 v = _ from by unfold a167 g167; dsimp only)
def g168 : G [] f168 [] := ⟨_, by funext v; conv => lhs; reduce; try dsimp only [n1, n2, n3]⟩
def a168 : F := g168.1
theorem e168 : E 168 a168 := K func168 g168.2 (by kernel_rfl)
def u168 (v : List AV) := (show a168 v = _ from by unfold a168 g168; dsimp only)
def g169 : G [] f169 [] := ⟨_, by funext v; conv => lhs; reduce; try dsimp only [n1, n2, n3]⟩
def a169 : F := g169.1
theorem e169 : E 169 a169 := K func169 g169.2 (by kernel_rfl)
def u169 (v : List AV) := (show a169 v = _ from by unfold a169 g169; dsimp only)
def g170 : G [] f170 [] := ⟨_, by funext v; conv => lhs; reduce; try dsimp only [n1, n2, n3]⟩
def a170 : F := g170.1
theorem e170 : E 170 a170 := K func170 g170.2 (by kernel_rfl)
def u170 (v : List AV) := (show a170 v = _ from by unfold a170 g170; dsimp only)
def a171x0 (v7 v8 : AV) : AC := .ite v8 (.op (.bin .sub v7 (I 1)) fun v9=>.op (.bin .quo v9 (I 4)) fun v10=>.ret .normal [v10]) (.ret .normal [(I 0)])
def a171x1 (v0 : List AV) (v1 : AV) (v9 : List AV) : AC := .op (.bin .mul (I 4) (nth v9 0)) fun v10=>.op (.bin .shr (nth v0 1) v10) fun v11=>.op (.bin .rem v11 (I 16)) fun v12=>.op (.build [(I 0), (I 0)] [(0, 1, (nth v9 0)), (1, 1, v12)]) fun v13=>.op (.store 2 v1 v13) fun v14=>.ret .ret [v1]
def a171x2 (v0 : List AV) (v1 v3 : AV) : AC := .op (.load 1 false v3) fun v4=>.op (.bin .xor (nth v0 1) v4) fun v5=>.op (.conv .u64 v5) fun v6=>.call (.fn (.func 246) [] []) [v6] fun v7=>.op (.bin .gtr v7 (I 0)) fun v8=>.bind ((a171x0 v7 v8)) none (fun v9=>(a171x1 v0 v1 v9)) (fun v9=>[v1])
def a171 : List AV → AC := fun v0=>.fin (.op (.alloc [(I 0), (I 0)]) fun v1=>.op (.nilchk (nth v0 0)) fun v2=>.op (.faddr 0 v2) fun v3=>(a171x2 v0 v1 v3)) fun v1=>.op (.load 2 true (nth v1 0)) fun v2=>.ret .ret [v2]
theorem e171 : E 171 a171 := ⟨f171, [5], func171, by kernel_rfl, by kernel_rfl⟩
def g172 : G [] f172 [4,5,6] := ⟨_, by funext v; conv => lhs; reduce; try dsimp only [n1, n2, n3]⟩
def a172 : F := g172.1
theorem e172 : E 172 a172 := K func172 g172.2 (by kernel_rfl)
def u172 (v : List AV) := (show a172 v = _ from by unfold a172 g172; dsimp only)
def g173 : G [] f173 [] := ⟨_, by funext v; conv => lhs; reduce; try dsimp only [n1, n2, n3]⟩
def a173 : F := g173.1
theorem e173 : E 173 a173 := K func173 g173.2 (by kernel_rfl)
def u173 (v : List AV) := (show a173 v = _ from by unfold a173 g173; dsimp only)
def g174 : G [] f174 [9,10] := ⟨_, by funext v; conv => lhs; reduce; try dsimp only [n1, n2, n3]⟩
def a174 : F := g174.1
theorem e174 : E 174 a174 := K func174 g174.2 (by kernel_rfl)
def u174 (v : List AV) := (show a174 v = _ from by unfold a174 g174; dsimp only)
def g175 : G [(1,[0,2,4,6,10,12,14,16,8,13,17,18,20,22,24])] f175 [] := ⟨_, by funext v; conv => lhs; reduce; try dsimp only [n1, n2, n3]⟩
def a175 : F := g175.1
theorem e175 : E 175 a175 := K func175 g175.2 (by kernel_rfl)
def u175 (v : List AV) := (show a175 v = _ from by unfold a175 g175; dsimp only)
def g177 : G [] f177 [4] := ⟨_, by funext v; conv => lhs; reduce; try dsimp only [n1, n2, n3]⟩
def a177 : F := g177.1
theorem e177 : E 177 a177 := K func177 g177.2 (by kernel_rfl)
def u177 (v : List AV) := (show a177 v = _ from by unfold a177 g177; dsimp only)
def g178 : G [] f178 [4] := ⟨_, by funext v; conv => lhs; reduce; try dsimp only [n1, n2, n3]⟩
def a178 : F := g178.1
theorem e178 : E 178 a178 := K func178 g178.2 (by kernel_rfl)
def u178 (v : List AV) := (show a178 v = _ from by unfold a178 g178; dsimp only)
def g179 : G [] f179 [] := ⟨_, by funext v; conv => lhs; reduce; try dsimp only [n1, n2, n3]⟩
def a179 : F := g179.1
theorem e179 : E 179 a179 := K func179 g179.2 (by kernel_rfl)
def u179 (v : List AV) := (show a179 v = _ from by unfold a179 g179; dsimp only)
def g180 : G [] f180 [] := ⟨_, by funext v; conv => lhs; reduce; try dsimp only [n1, n2, n3]⟩
def a180 : F := g180.1
theorem e180 : E 180 a180 := K func180 g180.2 (by kernel_rfl)
def g181 : G [] f181 [] := ⟨_, by funext v; conv => lhs; reduce; try dsimp only [n1, n2, n3]⟩
def a181 : F := g181.1
theorem e181 : E 181 a181 := K func181 g181.2 (by kernel_rfl)
def g182 : G [] f182 [8] := ⟨_, by funext v; conv => lhs; reduce; try dsimp only [n1, n2, n3]⟩
def a182 : F := g182.1
theorem e182 : E 182 a182 := K func182 g182.2 (by kernel_rfl)
def g183 : G [] f183 [] := ⟨_, by funext v; conv => lhs; reduce; try dsimp only [n1, n2, n3]⟩
def a183 : F := g183.1
theorem e183 : E 183 a183 := K func183 g183.2 (by kernel_rfl)
def g184 : G [] f184 [2] := ⟨_, by funext v; conv => lhs; reduce; try dsimp only [n1, n2, n3]⟩
def a184 : F := g184.1
theorem e184 : E 184 a184 := K func184 g184.2 (by kernel_rfl)
def g185 : G [] f185 [] := ⟨_, by funext v; conv => lhs; reduce; try dsimp only [n1, n2, n3]⟩
def a185 : F := g185.1
theorem e185 : E 185 a185 := K func185 g185.2 (by kernel_rfl)
def g186 : G [] f186 [] := ⟨_, by funext v; conv => lhs; reduce; try dsimp only [n1, n2, n3]⟩
def a186 : F := g186.1
theorem e186 : E 186 a186 := K func186 g186.2 (by kernel_rfl)
def g187 : G [] f187 [] := ⟨_, by funext v; conv => lhs; reduce; try dsimp only [n1, n2, n3]⟩
def a187 : F := g187.1
theorem e187 : E 187 a187 := K func187 g187.2 (by kernel_rfl)
def g188 : G [(1,[0,2,4,6,8,1,10,12,14])] f188 [] := ⟨_, by funext v; conv => lhs; reduce; try dsimp only [n1, n2, n3]⟩
def a188 : F := g188.1
theorem e188 : E 188 a188 := K func188 g188.2 (by kernel_rfl)
def g189 : G [(1,[0,2,4,6,8,1,3,10,12,14,16,3,18,20,22])] f189 [] := ⟨_, by funext v; conv => lhs; reduce; try dsimp only [n1, n2, n3]⟩
def a189 : F := g189.1
theorem e189 : E 189 a189 := K func189 g189.2 (by kernel_rfl)
def g190 : G [] f190 [2,3] := ⟨_, by funext v; conv => lhs; reduce; try dsimp only [n1, n2, n3]⟩
def a190 : F := g190.1
theorem e190 : E 190 a190 := K func190 g190.2 (by kernel_rfl)
def g191 : G [] f191 [] := ⟨_, by funext v; conv => lhs; reduce; try dsimp only [n1, n2, n3]⟩
def a191 : F := g191.1
theorem e191 : E 191 a191 := K func191 g191.2 (by kernel_rfl)
def g192 : G [] f192 [] := ⟨_, by funext v; conv => lhs; reduce; try dsimp only [n1, n2, n3]⟩
def a192 : F := g192.1
theorem e192 : E 192 a192 := K func192 g192.2 (by kernel_rfl)
def u192 (v : List AV) := (show a192 v = _ from by unfold a192 g192; dsimp only)
def g193 : G [(3,[0,2,4,6,8,10,12,1,14,16,18,20,22,24])] f193 [] := ⟨_, by funext v; conv => lhs; reduce; try dsimp only [n1, n2, n3]⟩
def a193 : F := g193.1
theorem e193 : E 193 a193 := K func193 g193.2 (by kernel_rfl)
def g194 : G [] f194 [] := ⟨_, by funext v; conv => lhs; reduce; try dsimp only [n1, n2, n3]⟩
def a194 : F := g194.1
theorem e194 : E 194 a194 := K func194 g194.2 (by kernel_rfl)
def g196 : G [] f196 [2,3] := ⟨_, by funext v; conv => lhs; reduce; try dsimp only [n1, n2, n3]⟩
def a196 : F := g196.1
theorem e196 : E 196 a196 := K func196 g196.2 (by kernel_rfl)
def g197 : G [] f197 [] := ⟨_, by funext v; conv => lhs; reduce; try dsimp only [n1, n2, n3]⟩
def a197 : F := g197.1
theorem e197 : E 197 a197 := K func197 g197.2 (by kernel_rfl)
def u197 (v : List AV) := (show a197 v = _ from by unfold a197 g197; dsimp only)
def g198 : G [] f198 [] := ⟨_, by funext v; conv => lhs; reduce; try dsimp only [n1, n2, n3]⟩
def a198 : F := g198.1
theorem e198 : E 198 a198 := K func198 g198.2 (by kernel_rfl)
def g199 : G [] f199 [] := ⟨_, by funext v; conv => lhs; reduce; try dsimp only [n1, n2, n3]⟩
def a199 : F := g199.1
theorem e199 : E 199 a199 := K func199 g199.2 (by kernel_rfl)
def g200 : G [(1,[0,2,4,6,8,10,12,14,16,18,20,22,26,28,30,32,24,1,9,27,33,34,36])] f200 [] := ⟨_, by funext v; conv => lhs; reduce; try dsimp only [n1, n2, n3]⟩
def a200 : F := g200.1
theorem e200 : E 200 a200 := K func200 g200.2 (by kernel_rfl)
def g201 : G [] f201 [] := ⟨_, by funext v; conv => lhs; reduce; try dsimp only [n1, n2, n3]⟩
def a201 : F := g201.1
theorem e201 : E 201 a201 := K func201 g201.2 (by kernel_rfl)
def g202 : G [] f202 [4] := ⟨_, by funext v; conv => lhs; reduce; try dsimp only [n1, n2, n3]⟩
def a202 : F := g202.1
theorem e202 : E 202 a202 := K func202 g202.2 (by kernel_rfl)
def g203 : G [] f203 [] := ⟨_, by funext v; conv => lhs; reduce; try dsimp only [n1, n2, n3]⟩
def a203 : F := g203.1
theorem e203 : E 203 a203 := K func203 g203.2 (by kernel_rfl)
def g204 : G [] f204 [2] := ⟨_, by funext v; conv => lhs; reduce; try dsimp only [n1, n2, n3]⟩
def a204 : F := g204.1
theorem e204 : E 204 a204 := K func204 g204.2 (by kernel_rfl)
def a205x0 (v3 v4 : AV) : AC := .op (.build [(I 0), (I 0), (I 0), (I 0)] []) fun v8=>.op (.store 4 v3 v8) fun v9=>.op (.store 1 v4 (B false)) fun v10=>.ret .ret [v3, v4]
def a205x1 (v4 : AV) : AC := .op (.store 1 v4 (B true)) fun v17=>.ret .ret []
def a205x2 (v2 v3 v4 : AV) (v10 : List AV) (v11 : AV) : AC := .op (.load 1 false v2) fun v13=>.op (.bin .eql (nth v10 1) v13) fun v14=>.ite v14 (.op (.load 4 true v11) fun v15=>.op (.store 4 v3 v15) fun v16=>(a205x1 v4)) (.ret .normal [])
def a205x3 (v2 v3 v4 : AV) (v10 : List AV) : AC := .op (.alloc [(I 0), (I 0), (I 0), (I 0)]) fun v11=>.op (.store 4 v11 (nth v10 2)) fun v12=>.start (nth v10 0) (.bind ((a205x2 v2 v3 v4 v10 v11)) (some 3) (fun v13=>.ret .normal []) (fun v13=>[]))
def a205x4 (v3 v4 v11 : AV) : AC := .op (.store 4 v3 v11) fun v12=>.op (.store 1 v4 (B false)) fun v13=>.ret .ret [v3, v4]
def a205x5 (v1 v2 v3 v4 : AV) : AC := .op (.load 3 true v1) fun v8=>.call (.fn (.func 108) [] []) [v8] fun v9=>.bind (.rng 2 v9 (fun v10=>(a205x3 v2 v3 v4 v10)) (.ret .normal []) []) (some 0) (fun v10=>.op (.build [(I 0), (I 0), (I 0), (I 0)] []) fun v11=>(a205x4 v3 v4 v11)) (fun v10=>[v3, v4])
def a205x6 (v1 v2 v3 : AV) : AC := .op (.alloc [(B false)]) fun v4=>.op (.load 3 true v1) fun v5=>.call (.fn (.func 107) [] []) [v5] fun v6=>.op (.un .not v6) fun v7=>.ite v7 ((a205x0 v3 v4)) ((a205x5 v1 v2 v3 v4))
def a205 : List AV → AC := fun v0=>.fin (.op (.box (nth v0 0)) fun v1=>.op (.box (nth v0 1)) fun v2=>.op (.alloc [(I 0), (I 0), (I 0), (I 0)]) fun v3=>(a205x6 v1 v2 v3)) fun v1=>.op (.load 4 true (nth v1 0)) fun v2=>.op (.load 1 false (nth v1 1)) fun v3=>.ret .ret [v2, v3]
theorem e205 : E 205 a205 := ⟨f205, [], func205, by kernel_rfl, by kernel_rfl⟩
def g206 : G [(0,[0,2,4,1,6,8,10,12])] f206 [] := ⟨_, by funext v; conv => lhs; reduce; try dsimp only [n1, n2, n3]⟩
def a206 : F := g206.1
theorem e206 : E 206 a206 := K func206 g206.2 (by kernel_rfl)
def g207 : G [] f207 [] := ⟨_, by funext v; conv => lhs; reduce; try dsimp only [n1, n2, n3]⟩
def a207 : F := g207.1
theorem e207 : E 207 a207 := K func207 g207.2 (by kernel_rfl)
def g208 : G [] f208 [] := ⟨_, by funext v; conv => lhs; reduce; try dsimp only [n1, n2, n3]⟩
def a208 : F := g208.1
theorem e208 : E 208 a208 := K func208 g208.2 (by kernel_rfl)
def g209 : G [] f209 [] := ⟨_, by funext v; conv => lhs; reduce; try dsimp only [n1, n2, n3]⟩
def a209 : F := g209.1
theorem e209 : E 209 a209 := K func209 g209.2 (by kernel_rfl)
def g210 : G [] f210 [] := ⟨_, by funext v; conv => lhs; reduce; try dsimp only [n1, n2, n3]⟩
def a210 : F := g210.1
theorem e210 : E 210 a210 := K func210 g210.2 (by kernel_rfl)
def g211 : G [] f211 [] := ⟨_, by funext v; conv => lhs; reduce; try dsimp only [n1, n2, n3]⟩
def a211 : F := g211.1
theorem e211 : E 211 a211 := K func211 g211.2 (by kernel_rfl)
def u211 (v : List AV) := (show a211 v = _ from by unfold a211 g211; dsimp only)
def g212 : G [] f212 [] := ⟨_, by funext v; conv => lhs; reduce; try dsimp only [n1, n2, n3]⟩
def a212 : F := g212.1
theorem e212 : E 212 a212 := K func212 g212.2 (by kernel_rfl)
def g213 : G [] f213 [] := ⟨_, by funext v; conv => lhs; reduce; try dsimp only [n1, n2, n3]⟩
def a213 : F := g213.1
theorem e213 : E 213 a213 := K func213 g213.2 (by kernel_rfl)
def g214 : G [] f214 [] := ⟨_, by funext v; conv => lhs; reduce; try dsimp only [n1, n2, n3]⟩
def a214 : F := g214.1
theorem e214 : E 214 a214 := K func214 g214.2 (by kernel_rfl)
def g215 : G [] f215 [] := ⟨_, by funext v; conv => lhs; reduce; try dsimp only [n1, n2, n3]⟩
def a215 : F := g215.1
theorem e215 : E 215 a215 := K func215 g215.2 (by kernel_rfl)
def g216 : G [] f216 [] := ⟨_, by funext v; conv => lhs; reduce; try dsimp only [n1, n2, n3]⟩
def a216 : F := g216.1
theorem e216 : E 216 a216 := K func216 g216.2 (by kernel_rfl)
def g217 : G [] f217 [] := ⟨_, by funext v; conv => lhs; reduce; try dsimp only [n1, n2, n3]⟩
def a217 : F := g217.1
theorem e217 : E 217 a217 := K func217 g217.2 (by kernel_rfl)
def g218 : G [] f218 [5,7] := ⟨_, by funext v; conv => lhs; reduce; try dsimp only [n1, n2, n3]⟩
def a218 : F := g218.1
theorem e218 : E 218 a218 := K func218 g218.2 (by kernel_rfl)
def g219 : G [] f219 [2] := ⟨_, by funext v; conv => lhs; reduce; try dsimp only [n1, n2, n3]⟩
def a219 : F := g219.1
theorem e219 : E 219 a219 := K func219 g219.2 (by kernel_rfl)
def g220 : G [] f220 [] := ⟨_, by funext v; conv => lhs; reduce; try dsimp only [n1, n2, n3]⟩
def a220 : F := g220.1
theorem e220 : E 220 a220 := K func220 g220.2 (by kernel_rfl)
def g221 : G [] f221 [] := ⟨_, by funext v; conv => lhs; reduce; try dsimp only [n1, n2, n3]⟩
def a221 : F := g221.1
theorem e221 : E 221 a221 := K func221 g221.2 (by kernel_rfl)
def g222 : G [(2,[0,2,4,1,6])] f222 [] := ⟨_, by funext v; conv => lhs; reduce; try dsimp only [n1, n2, n3]⟩
def a222 : F := g222.1
theorem e222 : E 222 a222 := K func222 g222.2 (by kernel_rfl)
def g223 : G [] f223 [] := ⟨_, by funext v; conv => lhs; reduce; try dsimp only [n1, n2, n3]⟩
def a223 : F := g223.1
theorem e223 : E 223 a223 := K func223 g223.2 (by kernel_rfl)
def g224 : G [] f224 [] := ⟨_, by funext v; conv => lhs; reduce; try dsimp only [n1, n2, n3]⟩
def a224 : F := g224.1
theorem e224 : E 224 a224 := K func224 g224.2 (by kernel_rfl)
def g225 : G [] f225 [] := ⟨_, by funext v; conv => lhs; reduce; try dsimp only [n1, n2, n3]⟩
def a225 : F := g225.1
theorem e225 : E 225 a225 := K func225 g225.2 (by kernel_rfl)
def g226 : G [] f226 [] := ⟨_, by funext v; conv => lhs; reduce; try dsimp only [n1, n2, n3]⟩
def a226 : F := g226.1
theorem e226 : E 226 a226 := K func226 g226.2 (by kernel_rfl)
def g227 : G [] f227 [] := ⟨_, by funext v; conv => lhs; reduce; try dsimp only [n1, n2, n3]⟩
def a227 : F := g227.1
theorem e227 : E 227 a227 := K func227 g227.2 (by kernel_rfl)
def g228 : G [(1,[0,2,4,1,6]),(3,[0,2,4,6,1,8])] f228 [] := ⟨_, by funext v; conv => lhs; reduce; try dsimp only [n1, n2, n3]⟩
def a228 : F := g228.1
theorem e228 : E 228 a228 := K func228 g228.2 (by kernel_rfl)
def g229 : G [(4,[0,2,4,6,8,10,12,14,16,18,20,22,26,30,34,36,24,1,31,35,28,1,31,35,32,1,35,38,1,40,42,44,46])] f229 [] := ⟨_, by funext v; conv => lhs; reduce; try dsimp only [n1, n2, n3]⟩
def a229 : F := g229.1
theorem e229 : E 229 a229 := K func229 g229.2 (by kernel_rfl)
def a232x0 (v1 v7 : AV) : AC := .op (.load 1 false v1) fun v9=>.op (.load 2 true v7) fun v10=>.call v9 [v10] fun v11=>.op (.un .not v11) fun v12=>.ite v12 (.ret .ret []) (.ret .normal [])
def a232x1 (v1 : AV) (v6 : List AV) : AC := .op (.alloc [(I 0), (I 0)]) fun v7=>.op (.store 2 v7 (nth v6 1)) fun v8=>.start (nth v6 0) (.bind ((a232x0 v1 v7)) (some 9) (fun v9=>.ret .normal []) (fun v9=>[]))
def a232x2 (v0 : List AV) (v1 : AV) (v2 : List AV) : AC := .op (.load 1 false (nth v0 1)) fun v4=>.call (.fn (.func 233) [] []) [v4, (nth v2 0)] fun v5=>.bind (.rng 1 v5 (fun v6=>(a232x1 v1 v6)) (.ret .normal []) []) (some 6) (fun v6=>.ret .normal []) (fun v6=>[])
def a232x3 (v2 : List AV) : AC := .op (.bin .add (nth v2 0) (I 1)) fun v5=>.ret .normal [v5]
def a232x4 (v0 : List AV) (v1 : AV) (v2 : List AV) : AC := .op (.bin .lss (nth v2 0) (I 11)) fun v3=>.ite v3 (.bind ((a232x2 v0 v1 v2)) (some 3) (fun v4=>(a232x3 v2)) (fun v4=>[(nth v2 0)])) (.ret (.exit 0) [(nth v2 0)])
def a232 : List AV → AC := fun v0=>.op (.box (nth v0 0)) fun v1=>.bind (.loop [(I 0)] (fun v2=>(a232x4 v0 v1 v2)) (fun v2=>[(nth v2 0)])) (some 0) (fun v2=>.ret .ret []) (fun v2=>[])
theorem e232 : E 232 a232 := ⟨f232, [5], func232, by kernel_rfl, by kernel_rfl⟩
def g233 : G [] f233 [] := ⟨_, by funext v; conv => lhs; reduce; try dsimp only [n1, n2, n3]⟩
def a233 : F := g233.1
theorem e233 : E 233 a233 := K func233 g233.2 (by kernel_rfl)
def u233 (v : List AV) := (show a233 v = _ from by unfold a233 g233; dsimp only)
def a234x0 (v0 : List AV) (v3 v4 v12 v13 v14 : AV) : AC := .op (.load 1 false (nth v0 2)) fun v15=>.op (.bin .leq v14 v15) fun v16=>.op (.store 2 v3 v12) fun v17=>.chk (.load 1 false v13) v14 (.chk (.load 1 false (nth v0 2)) v15 (.op (.store 1 v4 v16) fun v18=>.ret (.exit 6) []))
def a234x1 (v0 : List AV) (v3 v4 v10 : AV) : AC := .bind (.op (.load 2 true v10) fun v12=>.op (.faddr 1 v10) fun v13=>.op (.load 1 false v13) fun v14=>(a234x0 v0 v3 v4 v12 v13 v14)) (some 9) (fun v12=>.ret .normal []) (fun v12=>[])
def a234x2 (v0 : List AV) (v3 v4 v8 : AV) : AC := .rng 1 v8 (fun v9=>.op (.alloc [(I 0), (I 0)]) fun v10=>.op (.store 2 v10 (nth v9 1)) fun v11=>.start (nth v9 0) ((a234x1 v0 v3 v4 v10))) (.ret .normal []) []
def a234x3 (v0 : List AV) (v3 v12 v13 : AV) : AC := .op (.load 1 false v13) fun v14=>.call (.fn (.func 125) [] []) [v12, v14] fun v15=>.op (.load 2 true v3) fun v16=>.call (nth v0 0) [v16] fun v17=>.op (.un .not v17) fun v18=>.ite v18 (.ret .ret []) (.ret .normal [])
def a234x4 (v0 : List AV) (v3 v4 : AV) : AC := .op (.load 1 false v4) fun v10=>.op (.un .not v10) fun v11=>.ite v11 (.ret .ret []) (.op (.load 1 false (nth v0 1)) fun v12=>.op (.faddr 0 v3) fun v13=>(a234x3 v0 v3 v12 v13))
def a234x5 (v0 : List AV) (v2 v3 v4 : AV) : AC := .op (.store 2 v3 v2) fun v5=>.op (.store 1 v4 (B false)) fun v6=>.op (.load 1 false (nth v0 1)) fun v7=>.call (.fn (.func 142) [] []) [v7] fun v8=>.bind ((a234x2 v0 v3 v4 v8)) (some 6) (fun v9=>(a234x4 v0 v3 v4)) (fun v9=>[])
def a234x6 (v0 : List AV) : AC := .bind (.op (.build [(I 0), (I 0)] []) fun v2=>.op (.alloc [(I 0), (I 0)]) fun v3=>.op (.alloc [(B false)]) fun v4=>(a234x5 v0 v2 v3 v4)) (some 3) (fun v2=>.ret .normal []) (fun v2=>[])
def a234 : List AV → AC := fun v0=>.bind (.loop [] (fun v1=>(a234x6 v0)) (fun v1=>[])) (some 0) (fun v1=>.ret .ret []) (fun v1=>[])
theorem e234 : E 234 a234 := ⟨f234, [], func234, by kernel_rfl, by kernel_rfl⟩
def g235 : G [] f235 [] := ⟨_, by funext v; conv => lhs; reduce; try dsimp only [n1, n2, n3]⟩
def a235 : F := g235.1
theorem e235 : E 235 a235 := K func235 g235.2 (by kernel_rfl)
def u235 (v : List AV) := (show a235 v = _ from by unfold a235 g235; dsimp only)
def g236 : G [] f236 [10] := ⟨_, by funext v; conv => lhs; reduce; try dsimp only [n1, n2, n3]⟩
def a236 : F := g236.1
theorem e236 : E 236 a236 := K func236 g236.2 (by kernel_rfl)
def g237 : G [] f237 [8,9] := ⟨_, by funext v; conv => lhs; reduce; try dsimp only [n1, n2, n3]⟩
def a237 : F := g237.1
theorem e237 : E 237 a237 := K func237 g237.2 (by kernel_rfl)
def a246x0 (v0 : List AV) : AC := .op (.bin .shr (nth v0 0) (U 32)) fun v2=>.ret .normal [(I 32), v2]
def a246x1 (v2 : List AV) (v3 : AV) : AC := .ite v3 (.op (.bin .shr (nth v2 1) (U 16)) fun v4=>.op (.bin .add (nth v2 0) (I 16)) fun v5=>.ret .normal [v5, v4]) (.ret .normal [(nth v2 0), (nth v2 1)])
def a246x2 (v4 : List AV) : AC := .op (.bin .shr (nth v4 1) (U 8)) fun v6=>.op (.bin .add (nth v4 0) (I 8)) fun v7=>.ret .normal [v7, v6]
def a246x3 (v6 : List AV) (v8 : AV) : AC := .op (.conv .i64 v8) fun v9=>.op (.bin .add (nth v6 0) v9) fun v10=>.ret .ret [v10]
def a246x4 (v4 : List AV) : AC := .op (.bin .geq (nth v4 1) (U 256)) fun v5=>.bind (.ite v5 ((a246x2 v4)) (.ret .normal [(nth v4 0), (nth v4 1)])) none (fun v6=>.op (.conv .u8 (nth v6 1)) fun v7=>.op (.sidx (.sc (.string ⟨#[0, 1, 2, 2, 3, 3, 3, 3, 4, 4, 4, 4, 4, 4, 4, 4, 5, 5, 5, 5, 5, 5, 5, 5, 5, 5, 5, 5, 5, 5, 5, 5, 6, 6, 6, 6, 6, 6, 6, 6, 6, 6, 6, 6, 6, 6, 6, 6, 6, 6, 6, 6, 6, 6, 6, 6, 6, 6, 6, 6, 6, 6, 6, 6, 7, 7, 7, 7, 7, 7, 7, 7, 7, 7, 7, 7, 7, 7, 7, 7, 7, 7, 7, 7, 7, 7, 7, 7, 7, 7, 7, 7, 7, 7, 7, 7, 7, 7, 7, 7, 7, 7, 7, 7, 7, 7, 7, 7, 7, 7, 7, 7, 7, 7, 7, 7, 7, 7, 7, 7, 7, 7, 7, 7, 7, 7, 7, 7, 8, 8, 8, 8, 8, 8, 8, 8, 8, 8, 8, 8, 8, 8, 8, 8, 8, 8, 8, 8, 8, 8, 8, 8, 8, 8, 8, 8, 8, 8, 8, 8, 8, 8, 8, 8, 8, 8, 8, 8, 8, 8, 8, 8, 8, 8, 8, 8, 8, 8, 8, 8, 8, 8, 8, 8, 8, 8, 8, 8, 8, 8, 8, 8, 8, 8, 8, 8, 8, 8, 8, 8, 8, 8, 8, 8, 8, 8, 8, 8, 8, 8, 8, 8, 8, 8, 8, 8, 8, 8, 8, 8, 8, 8, 8, 8, 8, 8, 8, 8, 8, 8, 8, 8, 8, 8, 8, 8, 8, 8, 8, 8, 8, 8, 8, 8, 8, 8, 8, 8, 8, 8, 8, 8, 8, 8, 8, 8]⟩)) v7) fun v8=>(a246x3 v6 v8)) (fun v6=>[(nth v6 0)])
def a246 : List AV → AC := fun v0=>.op (.bin .geq (nth v0 0) (U 4294967296)) fun v1=>.bind (.ite v1 ((a246x0 v0)) (.ret .normal [(I 0), (nth v0 0)])) none (fun v2=>.op (.bin .geq (nth v2 1) (U 65536)) fun v3=>.bind ((a246x1 v2 v3)) none (fun v4=>(a246x4 v4)) (fun v4=>[(nth v4 0)])) (fun v2=>[(nth v2 0)])
theorem e246 : E 246 a246 := ⟨f246, [0,2], func246, by kernel_rfl, by kernel_rfl⟩
def g247 : G [] f247 [] := ⟨_, by funext v; conv => lhs; reduce; try dsimp only [n1, n2, n3]⟩
def a247 : F := g247.1
theorem e247 : E 247 a247 := K func247 g247.2 (by kernel_rfl)
def g248 : G [] f248 [] := ⟨_, by funext v; conv => lhs; reduce; try dsimp only [n1, n2, n3]⟩
def a248 : F := g248.1
theorem e248 : E 248 a248 := K func248 g248.2 (by kernel_rfl)
def u248 (v : List AV) := (show a248 v = _ from by unfold a248 g248; dsimp only)
def g249 : G [(3,[0,2,4,10,12,6,1,11,8,11,14,16,18,20,22,24,26,28,30])] f249 [4,11] := ⟨_, by funext v; conv => lhs; reduce; try dsimp only [n1, n2, n3]⟩
def a249 : F := g249.1
theorem e249 : E 249 a249 := K func249 g249.2 (by kernel_rfl)
def g250 : G [] f250 [] := ⟨_, by funext v; conv => lhs; reduce; try dsimp only [n1, n2, n3]⟩
def a250 : F := g250.1
theorem e250 : E 250 a250 := K func250 g250.2 (by kernel_rfl)
def g251 : G [] f251 [] := ⟨_, by funext v; conv => lhs; reduce; try dsimp only [n1, n2, n3]⟩
def a251 : F := g251.1
theorem e251 : E 251 a251 := K func251 g251.2 (by kernel_rfl)
def g253 : G [] f253 [] := ⟨_, by funext v; conv => lhs; reduce; try dsimp only [n1, n2, n3]⟩
def a253 : F := g253.1
theorem e253 : E 253 a253 := K func253 g253.2 (by kernel_rfl)
def u253 (v : List AV) := (show a253 v = _ from by unfold a253 g253; dsimp only)
def g254 : G [] f254 [] := ⟨_, by funext v; conv => lhs; reduce; try dsimp only [n1, n2, n3]⟩
def a254 : F := g254.1
theorem e254 : E 254 a254 := K func254 g254.2 (by kernel_rfl)
def u254 (v : List AV) := (show a254 v = _ from by unfold a254 g254; dsimp only)
def g255 : G [] f255 [] := ⟨_, by funext v; conv => lhs; reduce; try dsimp only [n1, n2, n3]⟩
def a255 : F := g255.1
theorem e255 : E 255 a255 := K func255 g255.2 (by kernel_rfl)
def u255 (v : List AV) := (show a255 v = _ from by unfold a255 g255; dsimp only)
def g256 : G [] f256 [2,3] := ⟨_, by funext v; conv => lhs; reduce; try dsimp only [n1, n2, n3]⟩
def a256 : F := g256.1
theorem e256 : E 256 a256 := K func256 g256.2 (by kernel_rfl)
def u256 (v : List AV) := (show a256 v = _ from by unfold a256 g256; dsimp only)
def g257 : G [] f257 [4,8] := ⟨_, by funext v; conv => lhs; reduce; try dsimp only [n1, n2, n3]⟩
def a257 : F := g257.1
theorem e257 : E 257 a257 := K func257 g257.2 (by kernel_rfl)
def u257 (v : List AV) := (show a257 v = _ from by unfold a257 g257; dsimp only)
def g260 : G [] f260 [9] := ⟨_, by funext v; conv => lhs; reduce; try dsimp only [n1, n2, n3]⟩
def a260 : F := g260.1
theorem e260 : E 260 a260 := K func260 g260.2 (by kernel_rfl)
def g261 : G [] f261 [] := ⟨_, by funext v; conv => lhs; reduce; try dsimp only [n1, n2, n3]⟩
def a261 : F := g261.1
theorem e261 : E 261 a261 := K func261 g261.2 (by kernel_rfl)
def g262 : G [] f262 [9] := ⟨_, by funext v; conv => lhs; reduce; try dsimp only [n1, n2, n3]⟩
def a262 : F := g262.1
theorem e262 : E 262 a262 := K func262 g262.2 (by kernel_rfl)
def g263 : G [] f263 [] := ⟨_, by funext v; conv => lhs; reduce; try dsimp only [n1, n2, n3]⟩
def a263 : F := g263.1
theorem e263 : E 263 a263 := K func263 g263.2 (by kernel_rfl)
def g264 : G [] f264 [] := ⟨_, by funext v; conv => lhs; reduce; try dsimp only [n1, n2, n3]⟩
def a264 : F := g264.1
theorem e264 : E 264 a264 := K func264 g264.2 (by kernel_rfl)
def g265 : G [] f265 [2] := ⟨_, by funext v; conv => lhs; reduce; try dsimp only [n1, n2, n3]⟩
def a265 : F := g265.1
theorem e265 : E 265 a265 := K func265 g265.2 (by kernel_rfl)
def g266 : G [] f266 [] := ⟨_, by funext v; conv => lhs; reduce; try dsimp only [n1, n2, n3]⟩
def a266 : F := g266.1
theorem e266 : E 266 a266 := K func266 g266.2 (by kernel_rfl)
def g269 : G [] f269 [] := ⟨_, by funext v; conv => lhs; reduce; try dsimp only [n1, n2, n3]⟩
def a269 : F := g269.1
theorem e269 : E 269 a269 := K func269 g269.2 (by kernel_rfl)
def g270 : G [] f270 [] := ⟨_, by funext v; conv => lhs; reduce; try dsimp only [n1, n2, n3]⟩
def a270 : F := g270.1
theorem e270 : E 270 a270 := K func270 g270.2 (by kernel_rfl)
def g271 : G [] f271 [2,7] := ⟨_, by funext v; conv => lhs; reduce; try dsimp only [n1, n2, n3]⟩
def a271 : F := g271.1
theorem e271 : E 271 a271 := K func271 g271.2 (by kernel_rfl)
def u271 (v : List AV) := (show a271 v = _ from by unfold a271 g271; dsimp only)
def g272 : G [] f272 [] := ⟨_, by funext v; conv => lhs; reduce; try dsimp only [n1, n2, n3]⟩
def a272 : F := g272.1
theorem e272 : E 272 a272 := K func272 g272.2 (by kernel_rfl)
def g273 : G [] f273 [5,10] := ⟨_, by funext v; conv => lhs; reduce; try dsimp only [n1, n2, n3]⟩
def a273 : F := g273.1
theorem e273 : E 273 a273 := K func273 g273.2 (by kernel_rfl)
def u273 (v : List AV) := (show a273 v = _ from by unfold a273 g273; dsimp only)
def g274 : G [] f274 [] := ⟨_, by funext v; conv => lhs; reduce; try dsimp only [n1, n2, n3]⟩
def a274 : F := g274.1
theorem e274 : E 274 a274 := K func274 g274.2 (by kernel_rfl)
def g275 : G [(1,[0,2,4,6,8,10,12,14,16,18,20,1,9,11,17,22,24])] f275 [] := ⟨_, by funext v; conv => lhs; reduce; try dsimp only [n1, n2, n3]⟩
def a275 : F := g275.1
theorem e275 : E 275 a275 := K func275 g275.2 (by kernel_rfl)
def g276 : G [] f276 [] := ⟨_, by funext v; conv => lhs; reduce; try dsimp only [n1, n2, n3]⟩
def a276 : F := g276.1
theorem e276 : E 276 a276 := K func276 g276.2 (by kernel_rfl)
def g277 : G [] f277 [9] := ⟨_, by funext v; conv => lhs; reduce; try dsimp only [n1, n2, n3]⟩
def a277 : F := g277.1
theorem e277 : E 277 a277 := K func277 g277.2 (by kernel_rfl)
def g278 : G [] f278 [4] := ⟨_, by funext v; conv => lhs; reduce; try dsimp only [n1, n2, n3]⟩
def a278 : F := g278.1
theorem e278 : E 278 a278 := K func278 g278.2 (by kernel_rfl)
def g279 : G [] f279 [] := ⟨_, by funext v; conv => lhs; reduce; try dsimp only [n1, n2, n3]⟩
def a279 : F := g279.1
theorem e279 : E 279 a279 := K func279 g279.2 (by kernel_rfl)
def g280 : G [] f280 [] := ⟨_, by funext v; conv => lhs; reduce; try dsimp only [n1, n2, n3]⟩
def a280 : F := g280.1
theorem e280 : E 280 a280 := K func280 g280.2 (by kernel_rfl)
def g281 : G [] f281 [] := ⟨_, by funext v; conv => lhs; reduce; try dsimp only [n1, n2, n3]⟩
def a281 : F := g281.1
theorem e281 : E 281 a281 := K func281 g281.2 (by kernel_rfl)
def g282 : G [] f282 [] := ⟨_, by funext v; conv => lhs; reduce; try dsimp only [n1, n2, n3]⟩
def a282 : F := g282.1
theorem e282 : E 282 a282 := K func282 g282.2 (by kernel_rfl)
def g283 : G [] f283 [] := ⟨_, by funext v; conv => lhs; reduce; try dsimp only [n1, n2, n3]⟩
def a283 : F := g283.1
theorem e283 : E 283 a283 := K func283 g283.2 (by kernel_rfl)
def g284 : G [] f284 [] := ⟨_, by funext v; conv => lhs; reduce; try dsimp only [n1, n2, n3]⟩
def a284 : F := g284.1
theorem e284 : E 284 a284 := K func284 g284.2 (by kernel_rfl)
def g285 : G [] f285 [] := ⟨_, by funext v; conv => lhs; reduce; try dsimp only [n1, n2, n3]⟩
def a285 : F := g285.1
theorem e285 : E 285 a285 := K func285 g285.2 (by kernel_rfl)
def g286 : G [(1,[0,2,4,6,8,1,3,10,12,14,3,16,18,20])] f286 [] := ⟨_, by funext v; conv => lhs; reduce; try dsimp only [n1, n2, n3]⟩
def a286 : F := g286.1
theorem e286 : E 286 a286 := K func286 g286.2 (by kernel_rfl)
def g287 : G [(3,[0,2,4,6,8,10,12,14,7,16,18])] f287 [2,3] := ⟨_, by funext v; conv => lhs; reduce; try dsimp only [n1, n2, n3]⟩
def a287 : F := g287.1
theorem e287 : E 287 a287 := K func287 g287.2 (by kernel_rfl)
def g288 : G [] f288 [2] := ⟨_, by funext v; conv => lhs; reduce; try dsimp only [n1, n2, n3]⟩
def a288 : F := g288.1
theorem e288 : E 288 a288 := K func288 g288.2 (by kernel_rfl)
def g289 : G [] f289 [] := ⟨_, by funext v; conv => lhs; reduce; try dsimp only [n1, n2, n3]⟩
def a289 : F := g289.1
theorem e289 : E 289 a289 := K func289 g289.2 (by kernel_rfl)
def g290 : G [] f290 [] := ⟨_, by funext v; conv => lhs; reduce; try dsimp only [n1, n2, n3]⟩
def a290 : F := g290.1
theorem e290 : E 290 a290 := K func290 g290.2 (by kernel_rfl)
def g291 : G [] f291 [] := ⟨_, by funext v; conv => lhs; reduce; try dsimp only [n1, n2, n3]⟩
def a291 : F := g291.1
theorem e291 : E 291 a291 := K func291 g291.2 (by kernel_rfl)
def g292 : G [(0,[0,2,4,1,6,8,10,12,14,16]),(2,[0,2,4,6,8,10,1,12,14,16])] f292 [] := ⟨_, by funext v; conv => lhs; reduce; try dsimp only [n1, n2, n3]⟩
def a292 : F := g292.1
theorem e292 : E 292 a292 := K func292 g292.2 (by kernel_rfl)
def g293 : G [] f293 [2,3] := ⟨_, by funext v; conv => lhs; reduce; try dsimp only [n1, n2, n3]⟩
def a293 : F := g293.1
theorem e293 : E 293 a293 := K func293 g293.2 (by kernel_rfl)
def g294 : G [(2,[0,2,4,8,10,12,16,18,20,26,6,13,21,14,21,22,24,28])] f294 [3] := ⟨_, by funext v; conv => lhs; reduce; try dsimp only [n1, n2, n3]⟩
def a294 : F := g294.1
theorem e294 : E 294 a294 := K func294 g294.2 (by kernel_rfl)
def g295 : G [] f295 [] := ⟨_, by funext v; conv => lhs; reduce; try dsimp only [n1, n2, n3]⟩
def a295 : F := g295.1
theorem e295 : E 295 a295 := K func295 g295.2 (by kernel_rfl)
def g296 : G [(1,[0,2,4,6,8,10,12,14,16,18,22,24,26,28,30,20,1,9,11,17,23,29,31,32,34])] f296 [] := ⟨_, by funext v; conv => lhs; reduce; try dsimp only [n1, n2, n3]⟩
def a296 : F := g296.1
theorem e296 : E 296 a296 := K func296 g296.2 (by kernel_rfl)
def g297 : G [] f297 [] := ⟨_, by funext v; conv => lhs; reduce; try dsimp only [n1, n2, n3]⟩
def a297 : F := g297.1
theorem e297 : E 297 a297 := K func297 g297.2 (by kernel_rfl)
def g298 : G [] f298 [] := ⟨_, by funext v; conv => lhs; reduce; try dsimp only [n1, n2, n3]⟩
def a298 : F := g298.1
theorem e298 : E 298 a298 := K func298 g298.2 (by kernel_rfl)
def g299 : G [] f299 [2] := ⟨_, by funext v; conv => lhs; reduce; try dsimp only [n1, n2, n3]⟩
def a299 : F := g299.1
theorem e299 : E 299 a299 := K func299 g299.2 (by kernel_rfl)
def g300 : G [] f300 [9] := ⟨_, by funext v; conv => lhs; reduce; try dsimp only [n1, n2, n3]⟩
def a300 : F := g300.1
theorem e300 : E 300 a300 := K func300 g300.2 (by kernel_rfl)
def g301 : G [] f301 [] := ⟨_, by funext v; conv => lhs; reduce; try dsimp only [n1, n2, n3]⟩
def a301 : F := g301.1
theorem e301 : E 301 a301 := K func301 g301.2 (by kernel_rfl)
def g302 : G [(0,[0,2,4,6,8,10,12,14,16,18,22,24,26,28,30,32,34,36,38,20,31,39,40,42,44,46])] f302 [] := ⟨_, by funext v; conv => lhs; reduce; try dsimp only [n1, n2, n3]⟩
def a302 : F := g302.1
theorem e302 : E 302 a302 := K func302 g302.2 (by kernel_rfl)
def g303 : G [] f303 [] := ⟨_, by funext v; conv => lhs; reduce; try dsimp only [n1, n2, n3]⟩
def a303 : F := g303.1
theorem e303 : E 303 a303 := K func303 g303.2 (by kernel_rfl)
def g304 : G [] f304 [] := ⟨_, by funext v; conv => lhs; reduce; try dsimp only [n1, n2, n3]⟩
def a304 : F := g304.1
theorem e304 : E 304 a304 := K func304 g304.2 (by kernel_rfl)
def g305 : G [(1,[0,2,4,6,8,10,12,14,16,3,7,11,18,20,22])] f305 [] := ⟨_, by funext v; conv => lhs; reduce; try dsimp only [n1, n2, n3]⟩
def a305 : F := g305.1
theorem e305 : E 305 a305 := K func305 g305.2 (by kernel_rfl)
def g306 : G [] f306 [] := ⟨_, by funext v; conv => lhs; reduce; try dsimp only [n1, n2, n3]⟩
def a306 : F := g306.1
theorem e306 : E 306 a306 := K func306 g306.2 (by kernel_rfl)
def g307 : G [] f307 [] := ⟨_, by funext v; conv => lhs; reduce; try dsimp only [n1, n2, n3]⟩
def a307 : F := g307.1
theorem e307 : E 307 a307 := K func307 g307.2 (by kernel_rfl)
def g308 : G [] f308 [] := ⟨_, by funext v; conv => lhs; reduce; try dsimp only [n1, n2, n3]⟩
def a308 : F := g308.1
theorem e308 : E 308 a308 := K func308 g308.2 (by kernel_rfl)
def g309 : G [] f309 [] := ⟨_, by funext v; conv => lhs; reduce; try dsimp only [n1, n2, n3]⟩
def a309 : F := g309.1
theorem e309 : E 309 a309 := K func309 g309.2 (by kernel_rfl)
def g310 : G [] f310 [] := ⟨_, by funext v; conv => lhs; reduce; try dsimp only [n1, n2, n3]⟩
def a310 : F := g310.1
theorem e310 : E 310 a310 := K func310 g310.2 (by kernel_rfl)
def g311 : G [(3,[0,2,4,6,10,12,14,16,18,20,22,24,8,1,21,26,1,28,30,32,34,36])] f311 [] := ⟨_, by funext v; conv => lhs; reduce; try dsimp only [n1, n2, n3]⟩
def a311 : F := g311.1
theorem e311 : E 311 a311 := K func311 g311.2 (by kernel_rfl)
def g312 : G [(1,[0,2,4,6,8,10,12,14,16,11,18,20,22])] f312 [] := ⟨_, by funext v; conv => lhs; reduce; try dsimp only [n1, n2, n3]⟩
def a312 : F := g312.1
theorem e312 : E 312 a312 := K func312 g312.2 (by kernel_rfl)
def g313 : G [] f313 [] := ⟨_, by funext v; conv => lhs; reduce; try dsimp only [n1, n2, n3]⟩
def a313 : F := g313.1
theorem e313 : E 313 a313 := K func313 g313.2 (by kernel_rfl)
def g314 : G [] f314 [] := ⟨_, by funext v; conv => lhs; reduce; try dsimp only [n1, n2, n3]⟩
def a314 : F := g314.1
theorem e314 : E 314 a314 := K func314 g314.2 (by kernel_rfl)
def g315 : G [] f315 [] := ⟨_, by funext v; conv => lhs; reduce; try dsimp only [n1, n2, n3]⟩
def a315 : F := g315.1
theorem e315 : E 315 a315 := K func315 g315.2 (by kernel_rfl)
def g316 : G [] f316 [] := ⟨_, by funext v; conv => lhs; reduce; try dsimp only [n1, n2, n3]⟩
def a316 : F := g316.1
theorem e316 : E 316 a316 := K func316 g316.2 (by kernel_rfl)
def g318 : G [] f318 [] := ⟨_, by funext v; conv => lhs; reduce; try dsimp only [n1, n2, n3]⟩
def a318 : F := g318.1
theorem e318 : E 318 a318 := K func318 g318.2 (by kernel_rfl)
def g320 : G [] f320 [] := ⟨_, by funext v; conv => lhs; reduce; try dsimp only [n1, n2, n3]⟩
def a320 : F := g320.1
theorem e320 : E 320 a320 := K func320 g320.2 (by kernel_rfl)
def g321 : G [] f321 [] := ⟨_, by funext v; conv => lhs; reduce; try dsimp only [n1, n2, n3]⟩
def a321 : F := g321.1
theorem e321 : E 321 a321 := K func321 g321.2 (by kernel_rfl)
def g322 : G [] f322 [14,19] := ⟨_, by funext v; conv => lhs; reduce; try dsimp only [n1, n2, n3]⟩
def a322 : F := g322.1
theorem e322 : E 322 a322 := K func322 g322.2 (by kernel_rfl)
def u322 (v : List AV) := (show a322 v = _ from by unfold a322 g322; dsimp only)
def a323x0 (v1 v3 : AV) : AC := .op (.load 1 false v1) fun v5=>.op (.load 2 true v3) fun v6=>.op (.bslice 2 1 [(I 0), (I 0)] [(0, 2, v6)]) fun v7=>.op (.append 2 16 v5 v7) fun v8=>.op (.store 1 v1 v8) fun v9=>.ret .normal []
def a323x1 (v1 : AV) (v2 : List AV) : AC := .op (.alloc [(I 0), (I 0)]) fun v3=>.op (.store 2 v3 (nth v2 1)) fun v4=>.start (nth v2 0) (.bind ((a323x0 v1 v3)) (some 3) (fun v5=>.ret .normal []) (fun v5=>[]))
def a323 : List AV → AC := fun v0=>.op (.box (nth v0 0)) fun v1=>.bind (.rng 1 (nth v0 1) (fun v2=>(a323x1 v1 v2)) (.ret .normal []) []) (some 0) (fun v2=>.op (.load 1 false v1) fun v3=>.ret .ret [v3]) (fun v2=>[Ns])
theorem e323 : E 323 a323 := ⟨f323, [], func323, by kernel_rfl, by kernel_rfl⟩
def g330 : G [] f330 [6] := ⟨_, by funext v; conv => lhs; reduce; try dsimp only [n1, n2, n3]⟩
def a330 : F := g330.1
theorem e330 : E 330 a330 := K func330 g330.2 (by kernel_rfl)
def u330 (v : List AV) := (show a330 v = _ from by unfold a330 g330; dsimp only)
end
end Go.Proofs.Tryz
