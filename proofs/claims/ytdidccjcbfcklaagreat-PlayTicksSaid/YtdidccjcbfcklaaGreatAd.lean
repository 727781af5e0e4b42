/- slices.Insert is known: what it answers, on each of its roads. No condition: it holds of every program that has a table of bodies. -/
import Derived.Test.YtdidccjcbfcklaaGreatAc
import Derived.Shelf.Spec.SlicesInsertGrow
set_option linter.unusedVariables false
namespace Go.Abs
noncomputable section
set_option linter.unusedSectionVars false
variable [Tok]
open Go.Proofs Go.RowKit Go.Lib
set_option linter.unusedVariables false
set_option linter.unusedSimpArgs false
variable {P : Program}

noncomputable def insF (ν : Go.Shelf.Ren) (nm : String) : Func := { Body2.n22 ν with name := nm }
theorem insF_ntmps (ν : Go.Shelf.Ren) (nm : String) : (insF ν nm).ntmps = 95 := by unfold insF; exact Body2.n22_ntmps ν
structure InsL (P : Program) (ν : Go.Shelf.Ren) (nm : String) (es : Nat) (i : TypeInfo) (z : Value) : Prop where
  mixed : P.follows .mixedOrders = true
  f22 : P.funcs[ν.f 22]? = some (insF ν nm)
  nmOk : (nm == "runtime.NumGoroutine") = false
  t3 : P.underlying (ν.t 3) = some (TypeDesc.int IntKind.i64)
  a3 : ∀ w, (isAgg (ν.t 3)).run P w = .ok false w
  z3 : ∀ w, (Go.sizeOf (ν.t 3)).run P w = .ok 1 w
  t4 : P.underlying (ν.t 4) = some (TypeDesc.bool)
  t24 : P.underlying (ν.t 24) = some (TypeDesc.slice (ν.t 9))
  z9 : ∀ w, (Go.sizeOf (ν.t 9)).run P w = .ok es w
  i9 : P.info? (ν.t 9) = some i
  iz : i.zero = some z
  isz : i.size = es
  es0 : 0 < es
  ov : ∀ (w : World) (a b : Addr) (la ca lb cb : Nat), a.block ≠ b.block → ∀ (tA tB : TypeId) (kA kB : Nat), w.shape? a.block = some (tA, kA) → w.shape? b.block = some (tB, kB) → kB ≠ 0 →
    w.frozen? a = false → w.frozen? { block := a.block, off := kA } = false → (callFunc (ν.f 29) #[.slice (some a) la ca, .slice (some b) lb cb]).run P w = .ok (.value (.bool false)) w

section
variable {ν : Go.Shelf.Ren} {nm : String} {es : Nat} {it : TypeInfo} {z : Value}
set_option maxHeartbeats 4000000 in
set_option maxRecDepth 100000 in
theorem ins_shift (L : InsL P ν nm es it z) {b off n c i vb voff m vc : Nat} {w w1 w2 : World} {r1 r2 : Value} (hi : i < n) (hm : 0 < m) (hroom : n + m ≤ c) (h63 : n + m ≤ 9223372036854775807)
    (hov : ∀ lb cb, (callFunc (ν.f 29) #[.slice (some ⟨vb, voff, none⟩) m vc, .slice (some ⟨b, off + (i + m) * es, none⟩) lb cb]).run P w = .ok (.value (.bool false)) w)
    (hcp1 : ∀ ty dc sc, (Builtin.copy_ #[ν.t 24, ν.t 24] ty #[.slice (some ⟨b, off + (i + m) * es, none⟩) (n + m - (i + m)) dc, .slice (some ⟨b, off + i * es, none⟩) (n + m - i) sc]).run P w.drew = .ok r1 w1)
    (hcp2 : ∀ ty dc, (Builtin.copy_ #[ν.t 24, ν.t 24] ty #[.slice (some ⟨b, off + i * es, none⟩) (n + m - i) dc, .slice (some ⟨vb, voff, none⟩) m vc]).run P w1 = .ok r2 w2) :
    Calls P (ν.f 22) #[.slice (some ⟨b, off, none⟩) n c, .int .i64 i, .slice (some ⟨vb, voff, none⟩) m vc] w fun e w' => e = .returned (.slice (some ⟨b, off, none⟩) (n + m) c) ∧ w' = w2 := by
  have t3 := L.t3; have a3 := L.a3; have z3 := L.z3; have t4 := L.t4; have z9 := L.z9; have t24 := L.t24
  have u3 := run_underlying L.t3; have u4 := run_underlying L.t4; have u24 := run_underlying L.t24
  have hz1 : ¬ ((m : Int) = 0) := by omega
  have hz2 : ¬ ((i : Int) = (n : Int)) := by omega
  have mixed := L.mixed
  have hw1 : IntKind.i64.wrap ((i : Int) + (m : Int)) = (i : Int) + (m : Int) := by rw [IntKind.wrap_i64]; omega
  have hb1 : (0 : Int) ≤ (i : Int) + (m : Int) := by omega
  have hin : i ≤ n := by omega
  have htn : ((i : Int) + (m : Int)).toNat = i + m := by omega
  have hb2 : ¬ (c = i + m) := by omega
  have hb3 : (i : Int) ≤ (n : Int) + (m : Int) := by omega
  have hb4 : ¬ (c = i) := by omega
  go_enter L.f22, insF_ntmps ν nm
  go_wp2_with (simp only [hov])
  go_region_law_o (refine step_copy_runI rfl _ _ (ν.t 24) (ν.t 24) rfl _ _ (by simp [Act.eval, Act.put]) (by simp [Act.eval, Act.put]) (hcp1 _ _ _) ?_)
  go_wp2_with (at_builtin; refine wpList_copy_runI _ rfl _ _ (ν.t 24) (ν.t 24) rfl _ _ rfl rfl (hcp2 _ _) ?_)
  go_ret
  exact ⟨rfl, rfl⟩
set_option maxHeartbeats 4000000 in
set_option maxRecDepth 100000 in
theorem ins_end (L : InsL P ν nm es it z) {base : Option Addr} {n c vb voff m vc : Nat} {w w1 : World} {r : Value} (hm : 0 < m) (hnc : n ≤ c) (hnil : base = none → n = 0)
    (hap : ∀ ty, (Builtin.append_ #[ν.t 24, ν.t 24] ty #[.slice base n c, .slice (some ⟨vb, voff, none⟩) m vc]).run P w = .ok r w1) :
    Calls P (ν.f 22) #[.slice base n c, .int .i64 n, .slice (some ⟨vb, voff, none⟩) m vc] w fun e w' => e = .returned r ∧ w' = w1 := by
  have t3 := L.t3; have a3 := L.a3; have z3 := L.z3; have t4 := L.t4; have z9 := L.z9; have t24 := L.t24
  have u3 := run_underlying L.t3; have u4 := run_underlying L.t4; have u24 := run_underlying L.t24
  have hz1 : ¬ ((m : Int) = 0) := by omega
  have mixed := L.mixed
  go_enter L.f22, insF_ntmps ν nm
  cases base with
  | none =>
    have h0 := hnil rfl
    subst h0
    go_wp2_with (at_builtin; refine Lib.wpList_append_run _ rfl _ _ _ _ rfl _ _ rfl rfl _ _ (hap _) ?_)
    go_ret
    exact ⟨rfl, rfl⟩
  | some a =>
    obtain ⟨ab, ao, asp⟩ := a
    go_wp2_with (at_builtin; refine Lib.wpList_append_run _ rfl _ _ _ _ rfl _ _ rfl rfl _ _ (hap _) ?_)
    all_goals (go_ret; exact ⟨rfl, rfl⟩)

set_option maxHeartbeats 4000000 in
set_option maxRecDepth 100000 in
theorem ins_grow (L : InsL P ν nm es it z) {b off n c i vb voff m vc nb G : Nat} {w wA w1 w2 : World} {r1 r2 : Value} (hi : i < n) (hm : 0 < m) (hnc : n ≤ c) (hroom : c < n + m) (hG : n + m ≤ G) (h63 : n + m ≤ 9223372036854775807)
    (hrz : ∀ ty, (Builtin.append_ #[ν.t 24, ν.t 3] ty #[.slice (some ⟨b, off, none⟩) i c, .int .i64 ((n : Int) + (m : Int) - (i : Int))]).run P w = .ok (.slice (some ⟨nb, 0, none⟩) (n + m) G) wA)
    (hcp1 : ∀ ty dc, (Builtin.copy_ #[ν.t 24, ν.t 24] ty #[.slice (some ⟨nb, i * es, none⟩) (n + m - i) dc, .slice (some ⟨vb, voff, none⟩) m vc]).run P wA = .ok r1 w1)
    (hcp2 : ∀ ty dc sc, (Builtin.copy_ #[ν.t 24, ν.t 24] ty #[.slice (some ⟨nb, (i + m) * es, none⟩) (n + m - (i + m)) dc, .slice (some ⟨b, off + i * es, none⟩) (n - i) sc]).run P w1.drew = .ok r2 w2) :
    Calls P (ν.f 22) #[.slice (some ⟨b, off, none⟩) n c, .int .i64 i, .slice (some ⟨vb, voff, none⟩) m vc] w fun e w' => e = .returned (.slice (some ⟨nb, 0, none⟩) (n + m) G) ∧ w' = w2 := by
  have t3 := L.t3; have a3 := L.a3; have z3 := L.z3; have t4 := L.t4; have z9 := L.z9; have t24 := L.t24
  have u3 := run_underlying L.t3; have u4 := run_underlying L.t4; have u24 := run_underlying L.t24
  have hz1 : ¬ ((m : Int) = 0) := by omega
  have hz2 : ¬ ((i : Int) = (n : Int)) := by omega
  have hz3 : (c : Int) < (n : Int) + (m : Int) := by omega
  have mixed := L.mixed
  have hGi : ¬ (G = i) := by omega
  have hGim : ¬ (G = i + m) := by omega
  have hci : ¬ (c = i) := by omega
  have hw1 : IntKind.i64.wrap ((i : Int) + (m : Int)) = (i : Int) + (m : Int) := by rw [IntKind.wrap_i64]; omega
  have hb1 : (0 : Int) ≤ (i : Int) + (m : Int) := by omega
  have hin : i ≤ n := by omega
  have htn : ((i : Int) + (m : Int)).toNat = i + m := by omega
  have hb3 : (i : Int) ≤ (n : Int) := by omega
  go_enter L.f22, insF_ntmps ν nm
  go_wp2_with (first
    | (at_builtin; refine Lib.wpList_append_run _ rfl _ _ _ _ rfl _ _ rfl rfl _ _ (hrz _) ?_)
    | (at_builtin; refine wpList_copy_runI _ rfl _ _ (ν.t 24) (ν.t 24) rfl _ _ rfl rfl (hcp1 _ _) ?_))
  go_region_law_o (refine step_copy_runI rfl _ _ (ν.t 24) (ν.t 24) rfl _ _ (by simp [Act.eval, Act.put]) (by simp [Act.eval, Act.put]) (hcp2 _ _ _) ?_)
  go_wp2
  go_ret
  exact ⟨rfl, rfl⟩
end
end
end Go.Abs
namespace Go.Abs
noncomputable section
set_option linter.unusedSectionVars false
variable [Tok]
open Go.Proofs Go.RowKit Go.Lib
set_option linter.unusedVariables false
set_option linter.unusedSimpArgs false
variable {P : Program} {ν : Go.Shelf.Ren} {nm : String} {es : Nat} {it : TypeInfo} {z : Value} {ρ : Ren} {S : AH} {w : World}

theorem lay3_get {cur : Array Value} {od : Nat} {xs : List Value} (h : od + xs.length ≤ cur.size) (j : Nat) :
    (cur.toList.take od ++ xs ++ cur.toList.drop (od + xs.length)).toArray[j]? = if j < od then cur[j]? else if j < od + xs.length then xs[j - od]? else cur[j]? := by
  have ht : (cur.toList.take od).length = od := by simp; omega
  simp only [List.getElem?_toArray, List.append_assoc]
  by_cases h1 : j < od
  · rw [if_pos h1, List.getElem?_append_left (by omega), List.getElem?_take, if_pos h1]; simp
  · rw [if_neg h1, List.getElem?_append_right (by omega), ht]
    by_cases h2 : j < od + xs.length
    · rw [if_pos h2, List.getElem?_append_left (by omega)]
    · rw [if_neg h2, List.getElem?_append_right (by omega), List.getElem?_drop]
      rw [show od + xs.length + (j - od - xs.length) = j by omega]; simp
theorem lay3_size {cur : Array Value} {od : Nat} {xs : List Value} (h : od + xs.length ≤ cur.size) : (cur.toList.take od ++ xs ++ cur.toList.drop (od + xs.length)).toArray.size = cur.size := by
  simp; omega

theorem run_copy_row {t e te : TypeId} (ht : P.underlying t = some (.slice e)) (hz : ∀ w, (Go.sizeOf e).run P w = .ok es w) {W : World} {bd od ld dc bs os ls sc : Nat} {cur : Array Value} {xs : List Value}
    (hcur : W.heap[bd]? = some (.cells cur te (0, 0))) (hle : od + xs.length ≤ cur.size) (hxl : xs.length = Nat.min ls ld * es) (h1 : ∀ x ∈ xs, x.oneCell' = true)
    (hsrc : ∀ (j : Nat) v, xs[j]? = some v → W.cell? ((⟨bs, os, none⟩ : Addr).add j) = some v) (ty : TypeId) :
    (Builtin.copy_ #[t, t] ty #[.slice (some ⟨bd, od, none⟩) ld dc, .slice (some ⟨bs, os, none⟩) ls sc]).run P W =
      .ok (goInt (Nat.min ls ld)) (W.setRow bd (cur.toList.take od ++ xs ++ cur.toList.drop (od + xs.length)).toArray) := by
  have hf := firstCells_at (P := P) (es := es) (n := Nat.min ls ld) (b := bs) (q := os) (len := ls) (cap := sc) (xs := xs) (w := W) (by omega) hsrc
  rw [List.take_of_length_le (by omega)] at hf
  have hst := run_storeCells_at P bd od te xs 0 cur W hcur (by omega) h1
  simp only [Nat.add_zero] at hst
  simp only [Builtin.copy_, List.getElem?_toArray, List.getElem?_cons_zero, List.getElem?_cons_succ]
  simp [run_underlying ht, hz, hf, hst, goInt, Builtin.lenOf]

theorem heap_drew (w : World) : w.drew.heap = w.heap := rfl

theorem ins_shift_ok (L : InsL P ν nm es it z) (hR : R P ρ S w) {id vid b o1 l o len cap i vb vo1 vl vo m vcap : Nat} {c vc : List AV} (hg : S.get id = some (.row c)) (hb : ρ id = some (b, o1, l))
    (hv : S.get vid = some (.row vc)) (hvb : ρ vid = some (vb, vo1, vl)) (hne : id ≠ vid) (hm : 0 < m) (hvl : vo + m * es ≤ vc.length) (hle : o + len * es ≤ c.length) (hcl : o1 + o + cap * es ≤ l) (hroom : len + m ≤ cap)
    (hi : i < len) (h63 : len + m ≤ 9223372036854775807) :
    Calls P (ν.f 22) #[.slice (some ⟨b, o1 + o, none⟩) len cap, .int .i64 i, .slice (some ⟨vb, vo1 + vo, none⟩) m vcap] w
      (CallPost P ρ S w (.op S.next 0 (len + m) (len + m) es) ((S.kill id).new (.row ((c.drop o).take (i * es) ++ ((vc.drop vo).take (m * es) ++ (c.drop (o + i * es)).take ((len - i) * es)))))) := by
  obtain ⟨c', e, g1, g2, g3, g4⟩ := hR.objs hg hb
  obtain ⟨vc', ve, k1, k2, k3, k4⟩ := hR.objs hv hvb
  have hbv : vb ≠ b := by
    intro e; subst e
    exact hne (hR.inj hg hv hb hvb (.inl rfl))
  have hes := L.es0
  have ecut : len * es = i * es + (len - i) * es := by rw [← Nat.add_mul]; congr 1; omega
  have eim : (i + m) * es = i * es + m * es := Nat.add_mul _ _ _
  have elm : (len + m) * es = len * es + m * es := Nat.add_mul _ _ _
  have hcap2 : (len + m) * es ≤ cap * es := Nat.mul_le_mul_right _ hroom
  have hmes : 0 < m * es := Nat.mul_pos hm hes
  have hcells : S.cells? id = some c := by unfold AH.cells?; rw [hg]; rfl
  have hvcells : S.cells? vid = some vc := by unfold AH.cells?; rw [hv]; rfl
  obtain ⟨ys, y1, y2, y3, y4⟩ := hR.stretch hcells hb (o + i * es) ((len - i) * es) (by omega)
  obtain ⟨xs, x1, x2, x3, x4⟩ := hR.stretch hvcells hvb vo (m * es) (by omega)
  obtain ⟨A1, hA1⟩ : ∃ A, A = (c'.toList.take (o1 + o + (i + m) * es) ++ ys ++ c'.toList.drop (o1 + o + (i + m) * es + ys.length)).toArray := ⟨_, rfl⟩
  have hl1 : o1 + o + (i + m) * es + ys.length ≤ c'.size := by rw [y1, g2]; omega
  have hs1 : A1.size = c'.size := by rw [hA1]; exact lay3_size hl1
  have hn1 : ∀ j, A1[j]? = if j < o1 + o + (i + m) * es then c'[j]? else if j < o1 + o + (i + m) * es + ys.length then ys[j - (o1 + o + (i + m) * es)]? else c'[j]? := fun j => by rw [hA1]; exact lay3_get hl1 j
  obtain ⟨A2, hA2⟩ : ∃ A, A = (A1.toList.take (o1 + o + i * es) ++ xs ++ A1.toList.drop (o1 + o + i * es + xs.length)).toArray := ⟨_, rfl⟩
  have hl2 : o1 + o + i * es + xs.length ≤ A1.size := by rw [x1, hs1, g2]; omega
  have hs2 : A2.size = c'.size := by rw [hA2, lay3_size hl2, hs1]
  have hn2 : ∀ j, A2[j]? = if j < o1 + o + i * es then A1[j]? else if j < o1 + o + i * es + xs.length then xs[j - (o1 + o + i * es)]? else A1[j]? := fun j => by rw [hA2]; exact lay3_get hl2 j
  have hrow1 := setRow_heap w.drew b c' A1 e (0, 0) g1
  have hcp1 : ∀ ty dc sc, (Builtin.copy_ #[ν.t 24, ν.t 24] ty #[.slice (some ⟨b, o1 + o + (i + m) * es, none⟩) (len + m - (i + m)) dc, .slice (some ⟨b, o1 + o + i * es, none⟩) (len + m - i) sc]).run P w.drew = .ok (goInt (Nat.min (len + m - i) (len + m - (i + m)))) (w.drew.setRow b A1) := fun ty dc sc => by
    rw [hA1]
    refine run_copy_row L.t24 L.z9 (W := w.drew) g1 hl1 ?_ y3 (fun j v hj => ?_) ty
    · rw [y1]; congr 1; simp only [Nat.min_def]; split <;> omega
    · rw [show o1 + o + i * es = o1 + (o + i * es) by omega]; exact y4 j v hj
  have hcp2 : ∀ ty dc, (Builtin.copy_ #[ν.t 24, ν.t 24] ty #[.slice (some ⟨b, o1 + o + i * es, none⟩) (len + m - i) dc, .slice (some ⟨vb, vo1 + vo, none⟩) m vcap]).run P (w.drew.setRow b A1) = .ok (goInt (Nat.min m (len + m - i))) ((w.drew.setRow b A1).setRow b A2) := fun ty dc => by
    rw [hA2]
    refine run_copy_row L.t24 L.z9 hrow1 hl2 ?_ x3 (fun j v hj => ?_) ty
    · rw [x1]; congr 1; simp only [Nat.min_def]; split <;> omega
    · have := x4 j v hj
      rw [addr_add] at this ⊢
      simp only [World.cell?, setRow_other w.drew b vb A1 hbv]
      exact this
  have hov : ∀ lb cb, (callFunc (ν.f 29) #[.slice (some ⟨vb, vo1 + vo, none⟩) m vcap, .slice (some ⟨b, o1 + o + (i + m) * es, none⟩) lb cb]).run P w = .ok (.value (.bool false)) w := fun lb cb => by
    refine L.ov w ⟨vb, vo1 + vo, none⟩ ⟨b, o1 + o + (i + m) * es, none⟩ m vcap lb cb hbv ve e vc'.size c'.size ?_ ?_ ?_ ?_ ?_
    · simp [World.shape?, k1]
    · simp [World.shape?, g1]
    · rw [g2]; omega
    · simp [World.frozen?, k1]
    · simp [World.frozen?, k1]
  refine (ins_shift L (w1 := w.drew.setRow b A1) (w2 := (w.drew.setRow b A1).setRow b A2) hi hm hroom h63 hov hcp1 hcp2).mono fun e' w' ⟨he, hw'⟩ => ?_
  subst he hw'
  have hrow2 := setRow_heap (w.drew.setRow b A1) b A1 A2 e (0, 0) hrow1
  have hn : ρ S.next = none := by
    cases e : ρ S.next with
    | none => rfl
    | some x => exact absurd (hR.dom e) (Nat.lt_irrefl _)
  have hlep := Ren.le_put (x := (b, o1 + o, l)) hn
  obtain ⟨hR', hE⟩ := hR.swap (w' := (w.drew.setRow b A1).setRow b A2) (o' := o1 + o) (ob' := .row ((c.drop o).take (i * es) ++ ((vc.drop vo).take (m * es) ++ (c.drop (o + i * es)).take ((len - i) * es)))) hg rfl hb ⟨rfl, rfl, rfl⟩
    (by rw [setRow_size, setRow_size]; rfl) (fun k hk => by rw [setRow_other _ _ _ _ hk, setRow_other _ _ _ _ hk]; rfl) ⟨A2, e, hrow2, by rw [hs2, g2], by simp; omega, fun k v hk => by
      have t1 : ((c.drop o).take (i * es)).length = i * es := by simp; omega
      have t2 : ((vc.drop vo).take (m * es)).length = m * es := by simp; omega
      by_cases hA : k < i * es
      · rw [List.getElem?_append_left (by omega), List.getElem?_take, if_pos hA, List.getElem?_drop] at hk
        obtain ⟨x, e1, e2, e3⟩ := g4 _ v hk
        refine ⟨x, ?_, e2.mono hlep, e3⟩
        rw [hn2, if_pos (by omega), hn1, if_pos (by omega), Nat.add_assoc]
        exact e1
      · rw [List.getElem?_append_right (by omega), t1] at hk
        by_cases hB : k - i * es < m * es
        · rw [List.getElem?_append_left (by omega)] at hk
          obtain ⟨x, e1, e2⟩ := x2.get hk
          refine ⟨x, ?_, e2.mono hlep, x3 x (List.mem_of_getElem? e1)⟩
          rw [hn2, if_neg (by omega), if_pos (by omega), show o1 + o + k - (o1 + o + i * es) = k - i * es by omega]
          exact e1
        · rw [List.getElem?_append_right (by omega), t2] at hk
          obtain ⟨x, e1, e2⟩ := y2.get hk
          have hlt := (List.getElem?_eq_some_iff.1 e1).1
          refine ⟨x, ?_, e2.mono hlep, y3 x (List.mem_of_getElem? e1)⟩
          rw [hn2, if_neg (by omega), if_neg (by omega), hn1, if_neg (by omega), if_pos (by omega), show o1 + o + k - (o1 + o + (i + m) * es) = k - i * es - m * es by omega]
          exact e1⟩ rfl
  refine ⟨_, _, rfl, ?_, hR', hE⟩
  have : V (ρ.put S.next (b, o1 + o, l)) (.op S.next 0 (len + m) (len + m) es) (.slice (some ⟨b, (o1 + o) + 0, none⟩) (len + m) cap) :=
    .op (Ren.put_same _ _ _) (Nat.le_refl _) hroom (by omega)
  simpa using this

theorem ins_grow_ok (L : InsL P ν nm es it z) (hR : R P ρ S w) {id vid b o1 l o len cap i vb vo1 vl vo m vcap : Nat} {c vc : List AV} (hg : S.get id = some (.row c)) (hb : ρ id = some (b, o1, l))
    (hv : S.get vid = some (.row vc)) (hvb : ρ vid = some (vb, vo1, vl)) (hm : 0 < m) (hvl : vo + m * es ≤ vc.length) (hle : o + len * es ≤ c.length) (hlc : len ≤ cap) (hroom : cap < len + m)
    (hi : i < len) (h1 : (len + m) * it.bytes ≤ maxBytes) (h2 : len + m ≤ maxLenN) (hz : z.cells.size = es) :
    Calls P (ν.f 22) #[.slice (some ⟨b, o1 + o, none⟩) len cap, .int .i64 i, .slice (some ⟨vb, vo1 + vo, none⟩) m vcap] w
      (CallPost P ρ S w (.op S.next 0 (len + m) (len + m) es) ((S.kill id).new (.row ((c.drop o).take (i * es) ++ ((vc.drop vo).take (m * es) ++ (c.drop (o + i * es)).take ((len - i) * es)))))) := by
  have hes := L.es0
  have h63 : len + m ≤ 9223372036854775807 := h2
  have ecut : len * es = i * es + (len - i) * es := by rw [← Nat.add_mul]; congr 1; omega
  have eim : (i + m) * es = i * es + m * es := Nat.add_mul _ _ _
  have elm : (len + m) * es = len * es + m * es := Nat.add_mul _ _ _
  have emi : (len + m) * es = i * es + (len + m - i) * es := by rw [← Nat.add_mul]; congr 1; omega
  have hcells : S.cells? id = some c := by unfold AH.cells?; rw [hg]; rfl
  have hvcells : S.cells? vid = some vc := by unfold AH.cells?; rw [hv]; rfl
  obtain ⟨zs, z1, z2, z3, z4⟩ := hR.stretch hcells hb o (i * es) (by omega)
  obtain ⟨ys, y1, y2, y3, y4⟩ := hR.stretch hcells hb (o + i * es) ((len - i) * es) (by omega)
  obtain ⟨xs, x1, x2, x3, x4⟩ := hR.stretch hvcells hvb vo (m * es) (by omega)
  have hbw := hR.blk hb
  have hvw := hR.blk hvb
  obtain ⟨G, hG⟩ : ∃ G, G = grownCap w (len + m) cap (ν.t 9) := ⟨_, rfl⟩
  have hGe : len + m ≤ G := by rw [hG]; exact grownCap_ge w _ _ _
  have hold : (Builtin.firstCells it.size i (.slice (some ⟨b, o1 + o, none⟩) i cap)).run P w.drew = .ok zs.toArray w.drew := by
    rw [L.isz]
    have := firstCells_at (P := P) (es := es) (n := i) (b := b) (q := o1 + o) (len := i) (cap := cap) (xs := zs) (w := w.drew) (by omega) (fun j v hv => by simpa using z4 j v hv)
    rwa [List.take_of_length_le (by omega)] at this
  obtain ⟨A0, hA0⟩ : ∃ A : Array Value, A = zs.toArray ++ Builtin.zeroCells z.cells (len + m - i) ++ Builtin.zeroCells z.cells (G - (len + m)) := ⟨_, rfl⟩
  have hs0 : A0.size = G * es := by
    rw [hA0]
    simp only [Array.size_append, size_zeroCells, hz, List.size_toArray, z1]
    have : G * es = (len + m) * es + (G - (len + m)) * es := by rw [← Nat.add_mul]; congr 1; omega
    omega
  have hGes : (len + m) * es ≤ G * es := Nat.mul_le_mul_right _ hGe
  have hn0 : ∀ j, j < i * es → A0[j]? = zs[j]? := fun j hj => by
    rw [hA0, Array.append_assoc, Array.getElem?_append_left (by simp; omega)]; simp
  have hrz : ∀ ty, (Builtin.append_ #[ν.t 24, ν.t 3] ty #[.slice (some ⟨b, o1 + o, none⟩) i cap, .int .i64 ((len : Int) + (m : Int) - (i : Int))]).run P w = .ok (.slice (some ⟨w.heap.size, 0, none⟩) (len + m) G) (w.drew.alloc (.cells A0 (ν.t 9))) := fun ty => by
    have hik : i + (len + m - i) = len + m := by omega
    have h := Lib.run_append_grow_zeros w (ν.t 24) (ν.t 3) ty (ν.t 9) it z .i64 .i64 L.t24 L.t3 L.i9 L.iz (some ⟨b, o1 + o, none⟩) i cap zs hold (len + m - i) (by omega) (by rw [L.isz]; exact hes) (by omega) (by omega)
      (by
        have h3 : (len + m - i) * it.bytes ≤ (len + m) * it.bytes := Nat.mul_le_mul_right _ (by omega)
        have h4 : maxBytes = 140737488355328 := rfl
        omega) (by rw [hik]; exact growslice_fits hroom h1)
    rw [hik, ← hG, ← hA0] at h
    rw [show (len : Int) + (m : Int) - (i : Int) = ((len + m - i : Nat) : Int) by omega]
    exact h
  obtain ⟨wA, hwA⟩ : ∃ x, x = w.drew.alloc (.cells A0 (ν.t 9)) := ⟨_, rfl⟩
  rw [← hwA] at hrz
  have hrA : wA.heap[w.heap.size]? = some (.cells A0 (ν.t 9) (0, 0)) := by rw [hwA]; exact alloc_at w.drew _
  have hoA : ∀ k, k < w.heap.size → wA.heap[k]? = w.heap[k]? := fun k hk => by rw [hwA]; exact alloc_old w.drew _ k hk
  obtain ⟨A1, hA1⟩ : ∃ A, A = (A0.toList.take (i * es) ++ xs ++ A0.toList.drop (i * es + xs.length)).toArray := ⟨_, rfl⟩
  have hl1 : i * es + xs.length ≤ A0.size := by rw [x1, hs0]; omega
  have hs1 : A1.size = A0.size := by rw [hA1]; exact lay3_size hl1
  have hn1 : ∀ j, A1[j]? = if j < i * es then A0[j]? else if j < i * es + xs.length then xs[j - i * es]? else A0[j]? := fun j => by rw [hA1]; exact lay3_get hl1 j
  obtain ⟨A2, hA2⟩ : ∃ A, A = (A1.toList.take ((i + m) * es) ++ ys ++ A1.toList.drop ((i + m) * es + ys.length)).toArray := ⟨_, rfl⟩
  have hl2 : (i + m) * es + ys.length ≤ A1.size := by rw [y1, hs1, hs0]; omega
  have hs2 : A2.size = G * es := by rw [hA2, lay3_size hl2, hs1, hs0]
  have hn2 : ∀ j, A2[j]? = if j < (i + m) * es then A1[j]? else if j < (i + m) * es + ys.length then ys[j - (i + m) * es]? else A1[j]? := fun j => by rw [hA2]; exact lay3_get hl2 j
  have hr1 : (wA.setRow w.heap.size A1).drew.heap[w.heap.size]? = some (.cells A1 (ν.t 9) (0, 0)) := setRow_heap wA _ A0 A1 _ (0, 0) hrA
  have hcp1 : ∀ ty dc, (Builtin.copy_ #[ν.t 24, ν.t 24] ty #[.slice (some ⟨w.heap.size, i * es, none⟩) (len + m - i) dc, .slice (some ⟨vb, vo1 + vo, none⟩) m vcap]).run P wA = .ok (goInt (Nat.min m (len + m - i))) (wA.setRow w.heap.size A1) := fun ty dc => by
    rw [hA1]
    refine run_copy_row L.t24 L.z9 hrA hl1 ?_ x3 (fun j v hj => ?_) ty
    · rw [x1]; congr 1; simp only [Nat.min_def]; split <;> omega
    · have := x4 j v hj
      rw [addr_add] at this ⊢
      simp only [World.cell?, hoA vb hvw]
      exact this
  have hcp2 : ∀ ty dc sc, (Builtin.copy_ #[ν.t 24, ν.t 24] ty #[.slice (some ⟨w.heap.size, (i + m) * es, none⟩) (len + m - (i + m)) dc, .slice (some ⟨b, o1 + o + i * es, none⟩) (len - i) sc]).run P (wA.setRow w.heap.size A1).drew = .ok (goInt (Nat.min (len - i) (len + m - (i + m)))) ((wA.setRow w.heap.size A1).drew.setRow w.heap.size A2) := fun ty dc sc => by
    rw [hA2]
    refine run_copy_row L.t24 L.z9 hr1 hl2 ?_ y3 (fun j v hj => ?_) ty
    · rw [y1]; congr 1; simp only [Nat.min_def]; split <;> omega
    · have := y4 j v hj
      rw [addr_add] at this ⊢
      have hbn : b ≠ w.heap.size := by omega
      simp only [World.cell?, heap_drew, setRow_other wA _ b A1 hbn, hoA b hbw]
      rw [show o1 + o + i * es + j = o1 + (o + i * es) + j by omega]
      exact this
  refine (ins_grow L hi hm hlc hroom hGe h63 hrz hcp1 hcp2).mono fun e' w' ⟨he, hw'⟩ => ?_
  subst he hw'
  obtain ⟨hR0, hE0⟩ := hR.kill hb
  have hr2 := setRow_heap (wA.setRow w.heap.size A1).drew w.heap.size A1 A2 _ (0, 0) hr1
  have hn : ρ S.next = none := by
    cases e : ρ S.next with
    | none => rfl
    | some x => exact absurd (hR.dom e) (Nat.lt_irrefl _)
  have hlep := Ren.le_put (x := (w.heap.size, 0, G * es)) hn
  obtain ⟨hR', hE⟩ := hR0.new (w' := (wA.setRow w.heap.size A1).drew.setRow w.heap.size A2) (l := G * es) (ob := .row ((c.drop o).take (i * es) ++ ((vc.drop vo).take (m * es) ++ (c.drop (o + i * es)).take ((len - i) * es)))) (by rw [hwA]; exact ⟨rfl, rfl, rfl⟩)
    (by rw [setRow_size, heap_drew, setRow_size, hwA]; exact alloc_size w.drew _) (fun k hk => by
      have hkn : k ≠ w.heap.size := by omega
      rw [setRow_other _ _ _ _ hkn, heap_drew, setRow_other _ _ _ _ hkn, hoA k hk]) ⟨A2, ν.t 9, hr2, hs2, by simp; omega, fun k v hk => by
      have t1 : ((c.drop o).take (i * es)).length = i * es := by simp; omega
      have t2 : ((vc.drop vo).take (m * es)).length = m * es := by simp; omega
      rw [Nat.zero_add]
      by_cases hA : k < i * es
      · rw [List.getElem?_append_left (by omega)] at hk
        obtain ⟨x, e1, e2⟩ := z2.get hk
        refine ⟨x, ?_, e2.mono hlep, z3 x (List.mem_of_getElem? e1)⟩
        rw [hn2, if_pos (by omega), hn1, if_pos hA, hn0 k hA]
        exact e1
      · rw [List.getElem?_append_right (by omega), t1] at hk
        by_cases hB : k - i * es < m * es
        · rw [List.getElem?_append_left (by omega)] at hk
          obtain ⟨x, e1, e2⟩ := x2.get hk
          refine ⟨x, ?_, e2.mono hlep, x3 x (List.mem_of_getElem? e1)⟩
          rw [hn2, if_pos (by omega), hn1, if_neg (by omega), if_pos (by omega)]
          exact e1
        · rw [List.getElem?_append_right (by omega), t2] at hk
          obtain ⟨x, e1, e2⟩ := y2.get hk
          have hlt := (List.getElem?_eq_some_iff.1 e1).1
          refine ⟨x, ?_, e2.mono hlep, y3 x (List.mem_of_getElem? e1)⟩
          rw [hn2, if_neg (by omega), if_pos (by omega), show k - (i + m) * es = k - i * es - m * es by omega]
          exact e1⟩ rfl
  refine ⟨_, _, rfl, ?_, hR', hE0.trans hE⟩
  have : V (ρ.put S.next (w.heap.size, 0, G * es)) (.op S.next 0 (len + m) (len + m) es) (.slice (some ⟨w.heap.size, 0 + 0, none⟩) (len + m) G) :=
    .op (Ren.put_same _ _ _) (Nat.le_refl _) hGe (by omega)
  simpa using this

theorem ins_anew_ok (L : InsL P ν nm es it z) {S0 : AH} (hR0 : R P ρ S0 w) {base : Option Addr} {len cap vb voff m vcap : Nat} {olds news : List AV} {ys xs : List Value} (hm : 0 < m) (hlc : len ≤ cap) (hnil : base = none → len = 0)
    (hol : VL ρ olds ys) (hy1 : ∀ y ∈ ys, y.oneCell' = true) (hyl : ys.length = len * es) (hne : VL ρ news xs) (hx1 : ∀ y ∈ xs, y.oneCell' = true) (hxl : xs.length = m * es)
    (hold : (Builtin.firstCells it.size len (.slice base len cap)).run P w.drew = .ok ys.toArray w.drew) (hnew : (Builtin.firstCells it.size m (.slice (some ⟨vb, voff, none⟩) m vcap)).run P w.drew = .ok xs.toArray w.drew)
    (hroom : cap < len + m) (h1 : (len + m) * it.bytes ≤ maxBytes) (h2 : len + m ≤ maxLenN) (hz : z.cells.size = es) :
    Calls P (ν.f 22) #[.slice base len cap, .int .i64 len, .slice (some ⟨vb, voff, none⟩) m vcap] w (CallPost P ρ S0 w (.op S0.next 0 (len + m) (len + m) es) (S0.new (.row (olds ++ news)))) := by
  have hrun := fun ty => run_append_more (P := P) (ty := ty) (x := .slice (some ⟨vb, voff, none⟩) m vcap) (n := m) L.t24 (.inl ⟨_, L.t24⟩) L.i9 L.iz rfl hold hnew hroom h2 (growslice_fits hroom h1)
  obtain ⟨ρ', g1, g2, g3⟩ := new_append (P := P) hR0 (e := ν.t 9) (need := len + m) (sCap := cap) (cells := olds ++ news) (c0 := ys.toArray ++ xs.toArray) (z := z.cells) (by simpa using hol.append hne)
    (fun y hy => by
      simp only [Array.toList_append, List.mem_append] at hy
      rcases hy with hy | hy
      · exact hy1 y (by simpa using hy)
      · exact hx1 y (by simpa using hy)) hz (by simp [hyl, hxl, Nat.add_mul])
  refine (ins_end L hm hlc hnil hrun).mono fun e' w' ⟨he, hw'⟩ => ?_
  subst he hw'
  exact ⟨_, ρ', rfl, g1, g2, g3⟩

theorem ins_row_ok (L : InsL P ν nm es it z) (hR : R P ρ S w) {id vid b o1 l o len cap i vb vo1 vl vo m vcap : Nat} {c vc : List AV} (hg : S.get id = some (.row c)) (hb : ρ id = some (b, o1, l))
    (hv : S.get vid = some (.row vc)) (hvb : ρ vid = some (vb, vo1, vl)) (hne : id ≠ vid) (hm : 0 < m) (hvl : vo + m * es ≤ vc.length) (hle : o + len * es ≤ c.length) (hcl : o1 + o + cap * es ≤ l) (hlc : len ≤ cap)
    (hi : i ≤ len) (h1 : (len + m) * it.bytes ≤ maxBytes) (h2 : len + m ≤ maxLenN) (hz : z.cells.size = es) :
    Calls P (ν.f 22) #[.slice (some ⟨b, o1 + o, none⟩) len cap, .int .i64 i, .slice (some ⟨vb, vo1 + vo, none⟩) m vcap] w
      (CallPost P ρ S w (.op S.next 0 (len + m) (len + m) es) ((S.kill id).new (.row ((c.drop o).take (i * es) ++ ((vc.drop vo).take (m * es) ++ (c.drop (o + i * es)).take ((len - i) * es)))))) := by
  rcases Nat.lt_or_ge i len with hlt | hge
  · rcases Nat.lt_or_ge cap (len + m) with hr | hr
    · exact ins_grow_ok L hR hg hb hv hvb hm hvl hle hlc hr hlt h1 h2 hz
    · exact ins_shift_ok L hR hg hb hv hvb hne hm hvl hle hcl hr hlt h2
  · have e : i = len := by omega
    subst e
    have ez : ((c.drop o).take (i * es) ++ ((vc.drop vo).take (m * es) ++ (c.drop (o + i * es)).take ((i - i) * es))) = (c.drop o).take (i * es) ++ (vc.drop vo).take (m * es) := by simp
    rw [ez]
    have hcells : S.cells? id = some c := by unfold AH.cells?; rw [hg]; rfl
    have hvcells : S.cells? vid = some vc := by unfold AH.cells?; rw [hv]; rfl
    obtain ⟨zs, z1, z2, z3, z4⟩ := hR.stretch hcells hb o (i * es) (by omega)
    obtain ⟨xs, x1, x2, x3, x4⟩ := hR.stretch hvcells hvb vo (m * es) (by omega)
    have hnew : ∀ w' : World, w'.heap = w.heap → (Builtin.firstCells it.size m (.slice (some ⟨vb, vo1 + vo, none⟩) m vcap)).run P w' = .ok xs.toArray w' := fun w' hw => by
      rw [L.isz]
      have := firstCells_at (P := P) (es := es) (n := m) (b := vb) (q := vo1 + vo) (len := m) (cap := vcap) (xs := xs) (w := w') (by omega) (fun j v hv => by
        have := x4 j v hv
        simpa [World.cell?, hw] using this)
      rwa [List.take_of_length_le (by omega)] at this
    rcases Nat.lt_or_ge cap (i + m) with hr | hr
    · obtain ⟨hR0, hE0⟩ := hR.kill hb
      refine (ins_anew_ok L hR0 hm hlc (by simp) z2 z3 z1 x2 x3 x1 ?_ (hnew _ rfl) hr h1 h2 hz).mono fun e' w' q => ?_
      · rw [L.isz]
        have := firstCells_at (P := P) (es := es) (n := i) (b := b) (q := o1 + o) (len := i) (cap := cap) (xs := zs) (w := w.drew) (by omega) (fun j v hv => by simpa using z4 j v hv)
        rwa [List.take_of_length_le (by omega)] at this
      · obtain ⟨x, ρ', q0, q1, q2, q3⟩ := q
        exact ⟨x, ρ', q0, q1, q2, hE0.trans q3⟩
    · have hcap2 : (i + m) * es ≤ cap * es := Nat.mul_le_mul_right _ hr
      rw [Nat.add_mul] at hcap2
      obtain ⟨w', hst, hR', hE⟩ := hR.grow (off := o) (k := i * es) hg hb x2 x3 (by omega) (by rw [x1]; omega)
      have hrun := fun ty => run_append_in (P := P) (ty := ty) (x := .slice (some ⟨vb, vo1 + vo, none⟩) m vcap) (n := m) (base := some ⟨b, o1 + o, none⟩) (sLen := i) (sCap := cap) L.t24 (.inl ⟨_, L.t24⟩) L.i9 rfl (hnew w rfl) hr (w' := w') (by
        simp only [addr_add, L.isz]
        exact hst)
      refine (ins_end L hm hlc (by simp) hrun).mono fun e' w'' ⟨he, hw'⟩ => ?_
      subst he hw'
      refine ⟨_, _, rfl, ?_, hR', hE⟩
      have : V (ρ.put S.next (b, o1 + o, l)) (.op S.next 0 (i + m) (i + m) es) (.slice (some ⟨b, (o1 + o) + 0, none⟩) (i + m) cap) :=
        .op (Ren.put_same _ _ _) (Nat.le_refl _) hr (by omega)
      simpa using this

/-! ### the answer -/
def insRow (es bytes id o len cap i vid m : Nat) (news : List AV) (S : AH) : Option (AV × AH) := match S.get id with
  | some (.row c) => match not (Nat.beq id vid) && (Nat.ble (o + cap * es) (lenL c) && (Nat.ble len cap && (Nat.ble i len && (Nat.ble ((len + m) * bytes) maxBytes && Nat.ble (len + m) maxLenN)))) with
    | true => some (.op S.next 0 (len + m) (len + m) es, (S.kill id).new (.row (appL (takeL (i * es) (dropL o c)) (appL news (takeL ((len - i) * es) (dropL (o + i * es) c))))))
    | false => none
  | _ => none
def insTo (es bytes : Nat) (s : AV) (i vid m : Nat) (news : List AV) (S : AH) : Option (AV × AH) := match s with
  | .sc (.slice none 0 0) => match Nat.beq i 0 && (Nat.ble (m * bytes) maxBytes && Nat.ble m maxLenN) with
    | true => some (.op S.next 0 m m es, S.new (.row news))
    | false => none
  | .sl id o len cap => insRow es bytes id o len cap i vid m news S
  | .op id o len cmin es' => match Nat.beq es' es with
    | true => insRow es bytes id o len cmin i vid m news S
    | false => none
  | _ => none
def insK (es bytes : Nat) (args : List AV) (S : AH) : Option (AV × AH) := match args with
  | [s, i, .sl vid vo m _] => match asInt i with
    | some (k, i) => match kindEq k .i64 with
      | true => match nat? i with
        | some i => match S.get vid with
          | some (.row vc) => match Nat.ble 1 m && Nat.ble (vo + m * es) (lenL vc) with
            | true => insTo es bytes s i vid m (takeL (m * es) (dropL vo vc)) S
            | false => none
          | _ => none
        | none => none
      | false => none
    | none => none
  | _ => none

theorem insRow_some {es bytes id o len cap i vid m : Nat} {news : List AV} {v : AV} {S' : AH} (h : insRow es bytes id o len cap i vid m news S = some (v, S')) :
    ∃ c, S.get id = some (.row c) ∧ id ≠ vid ∧ o + cap * es ≤ c.length ∧ len ≤ cap ∧ i ≤ len ∧ (len + m) * bytes ≤ maxBytes ∧ len + m ≤ maxLenN ∧ v = .op S.next 0 (len + m) (len + m) es ∧
      S' = (S.kill id).new (.row ((c.drop o).take (i * es) ++ (news ++ (c.drop (o + i * es)).take ((len - i) * es)))) := by
  unfold insRow at h
  split at h
  · next c hc =>
    split at h
    · next hcond =>
      cases h
      simp only [Bool.and_eq_true, Bool.not_eq_true'] at hcond
      obtain ⟨h1, h2, h3, h4, h5, h6⟩ := hcond
      have h2 := Nat.le_of_ble_eq_true h2
      rw [lenL_eq] at h2
      refine ⟨c, hc, fun e => ?_, h2, Nat.le_of_ble_eq_true h3, Nat.le_of_ble_eq_true h4, Nat.le_of_ble_eq_true h5, Nat.le_of_ble_eq_true h6, rfl, ?_⟩
      · rw [e, Nat.beq_refl] at h1; cases h1
      · simp only [appL_eq, takeL_eq, dropL_eq]
    · cases h
  · cases h

theorem insK_ok (L : InsL P ν nm es it z) (hz : z.cells.size = es) : ∀ args v S S', insK es it.bytes args S = some (v, S') → ∀ ρ w xs, R P ρ S w → VL ρ args xs → CallsIn Fence.wide 0 P (ν.f 22) xs.toArray w (CallPost P ρ S w v S') := by
  intro args v S S' h ρ w xs hR hV
  refine callsIn_wide.2 ?_
  unfold insK at h
  split at h
  · next s i vid vo m vcap =>
    split at h
    · next k i' hi =>
      split at h
      · next hk =>
        split at h
        · next i2 hn =>
          split at h
          · next vc hvc =>
            split at h
            · next hcond =>
              simp only [Bool.and_eq_true] at hcond
              have hm := Nat.le_of_ble_eq_true hcond.1
              have hvl := Nat.le_of_ble_eq_true hcond.2
              rw [lenL_eq] at hvl
              have hi := asInt_some hi
              have hk := kindEq_true hk
              have hn := nat?_some hn
              subst hi hk hn
              cases hV with
              | cons hs hV =>
              cases hV with
              | cons hiV hV =>
              cases hV with
              | cons hvV hV =>
              cases hV
              have hiE := hiV.int_inv
              subst hiE
              cases hvV with
              | @sl _ vb vo1 vl _ _ _ hvb =>
              rw [takeL_eq, dropL_eq] at h
              have hvcells : S.cells? vid = some vc := by unfold AH.cells?; rw [hvc]; rfl
              obtain ⟨ns, x1, x2, x3, x4⟩ := hR.stretch hvcells hvb vo (m * es) (by omega)
              have hnew : (Builtin.firstCells it.size m (.slice (some ⟨vb, vo1 + vo, none⟩) m vcap)).run P w.drew = .ok ns.toArray w.drew := by
                rw [L.isz]
                have := firstCells_at (P := P) (es := es) (n := m) (b := vb) (q := vo1 + vo) (len := m) (cap := vcap) (xs := ns) (w := w.drew) (by omega) (fun j v hv => by simpa using x4 j v hv)
                rwa [List.take_of_length_le (by omega)] at this
              have row : ∀ {id o len cmin cap b o1 l : Nat}, insRow es it.bytes id o len cmin i2 vid m ((vc.drop vo).take (m * es)) S = some (v, S') → ρ id = some (b, o1, l) → cmin ≤ cap → (∀ c, S.get id = some (.row c) → o + cmin * es ≤ c.length → o1 + o + cap * es ≤ l) →
                  Calls P (ν.f 22) #[.slice (some ⟨b, o1 + o, none⟩) len cap, .int .i64 i2, .slice (some ⟨vb, vo1 + vo, none⟩) m vcap] w (CallPost P ρ S w v S') := by
                intro id o len cmin cap b o1 l h hb hcc hl
                obtain ⟨c, g1, g2, g3, g4, g5, g6, g7, rfl, rfl⟩ := insRow_some h
                have : len * es ≤ cmin * es := Nat.mul_le_mul_right _ g4
                exact ins_row_ok L hR g1 hb hvc hvb g2 hm hvl (by omega) (hl c g1 g3) (by omega) g5 g6 g7 hz
              have empty : ∀ {S0 : AH} {base : Option Addr}, R P ρ S0 w → m * it.bytes ≤ maxBytes → m ≤ maxLenN → Calls P (ν.f 22) #[.slice base 0 0, .int .i64 (0 : Nat), .slice (some ⟨vb, vo1 + vo, none⟩) m vcap] w
                  (CallPost P ρ S0 w (.op S0.next 0 m m es) (S0.new (.row ((vc.drop vo).take (m * es))))) := by
                intro S0 base hR0 q1 q2
                have := ins_anew_ok L hR0 (base := base) (len := 0) (cap := 0) (olds := []) (ys := []) hm (Nat.le_refl _) (fun _ => rfl) .nil (by simp) (by simp) x2 x3 x1 (by
                  cases base with
                  | none => simp [run_firstCells_none]
                  | some a => simp only [Builtin.firstCells, Nat.mul_zero, Nat.zero_mul, loadCells, loadCellsFrom, Sem.run_pure]) hnew (by omega) (by simpa using q1) (by simpa using q2) hz
                simpa using this
              unfold insTo at h
              split at h
              · have hsE := hs.sc_inv.1
                subst hsE
                split at h
                · next hc =>
                  cases h
                  simp only [Bool.and_eq_true] at hc
                  have h0 := Nat.eq_of_beq_eq_true hc.1
                  subst h0
                  exact empty hR (Nat.le_of_ble_eq_true hc.2.1) (Nat.le_of_ble_eq_true hc.2.2)
                · cases h
              · next id o len cap =>
                cases hs with
                | @sl _ b o1 l _ _ _ hb =>
                refine row h hb (Nat.le_refl _) fun c g1 g2 => ?_
                obtain ⟨c', e, k1, k2, k3, k4⟩ := hR.objs g1 hb
                omega
              · next id o len cmin es' =>
                split at h
                · next he =>
                  have he := Nat.eq_of_beq_eq_true he
                  subst he
                  cases hs with
                  | op hb p0 p1 p2 => exact row h hb p1 fun c _ _ => p2
                  | @opE _ b o1 l _ q _ hb =>
                    obtain ⟨c, g1, g2, g3, g4, g5, g6, g7, rfl, rfl⟩ := insRow_some h
                    have h0 : i2 = 0 := by omega
                    subst h0
                    obtain ⟨hR0, hE0⟩ := hR.kill hb
                    refine (empty (base := some ⟨b, q, none⟩) hR0 (by simpa using g6) (by simpa using g7)).mono fun e' w' q => ?_
                    obtain ⟨x, ρ', q0, q1, q2, q3⟩ := q
                    refine ⟨x, ρ', q0, ?_, ?_, hE0.trans ?_⟩
                    · simpa using q1
                    · simpa using q2
                    · simpa using q3
                · cases h
              · cases h
            · cases h
          · cases h
        · cases h
      · cases h
    · cases h
  · cases h
end
end Go.Abs
namespace Go.Abs
noncomputable section
set_option linter.unusedSectionVars false
variable [Tok]
open Go.Proofs Go.RowKit Go.Lib
set_option linter.unusedVariables false
variable {P : Program}

abbrev XFn := List AV → AH → Option (AV × AH)
def xOf : List (FuncId × XFn) → FuncId → Option XFn
  | [], _ => none
  | (f, g) :: r, h => match Nat.beq h f with
    | true => some g
    | false => xOf r h
def XEnt (P : Program) (f : FuncId) (g : XFn) : Prop := ∃ fn c, P.funcs[f]? = some fn ∧ (fn.name == "runtime.NumGoroutine") = false ∧ fn.body = some c ∧ Nat.ble fn.params.size 2 = false ∧
  ∀ args v S S', g args S = some (v, S') → ∀ ρ w xs, R P ρ S w → VL ρ args xs → CallsIn Fence.wide 0 P f xs.toArray w (CallPost P ρ S w v S')
theorem xOf_ok : ∀ {l : List (FuncId × XFn)}, (∀ x ∈ l, XEnt P x.1 x.2) → KnXOk P (xOf l)
  | [], _ => fun _ _ h => by cases h
  | (f, g) :: r, hl => by
    intro h g' hg
    unfold xOf at hg
    split at hg
    · next e =>
      have e := Nat.eq_of_beq_eq_true e
      subst e
      cases hg
      exact hl (h, g) (by simp)
    · exact xOf_ok (l := r) (fun x hx => hl x (by simp [hx])) h g' hg

def insInfo (P : Program) (t : TypeId) (es bytes : Nat) : Bool := match P.info? t with
  | some i => match i.zero with
    | some z => Nat.beq i.size es && (Nat.beq i.bytes bytes && (Nat.beq z.cells.size es && Nat.ble 1 es))
    | none => false
  | none => false
theorem insX_ok {ν : Go.Shelf.Ren} {nm : String} {es bytes : Nat} {fo : Func} (mixed : P.follows .mixedOrders = true) (f22 : P.funcs[ν.f 22]? = some (insF ν nm)) (nmOk : (nm == "runtime.NumGoroutine") = false)
    (t3 : P.underlying (ν.t 3) = some (TypeDesc.int IntKind.i64)) (a3 : isAggT P (ν.t 3) = some false) (z3 : sizeT P (ν.t 3) = some 1) (t4 : P.underlying (ν.t 4) = some (TypeDesc.bool))
    (t24 : P.underlying (ν.t 24) = some (TypeDesc.slice (ν.t 9))) (hi : insInfo P (ν.t 9) es bytes = true)
    (hfo : P.funcs[ν.f 29]? = some fo) (hno : (fo.name == "runtime.NumGoroutine") = false) (hbo : fo.body.isNone = true) (hn : Extern.findNext fo = none)
    (he : Extern.find fo = some (Extern.SlicesOverlaps.overlaps #[ν.t 24, ν.t 24] #[ν.t 4])) : XEnt P (ν.f 22) (insK es bytes) := by
  unfold insInfo at hi
  split at hi
  · next i h9 =>
    split at hi
    · next z hz =>
      simp only [Bool.and_eq_true] at hi
      obtain ⟨q1, q2, q3, q4⟩ := hi
      have q1 := Nat.eq_of_beq_eq_true q1
      have q2 := Nat.eq_of_beq_eq_true q2
      have q3 := Nat.eq_of_beq_eq_true q3
      have q4 := Nat.le_of_ble_eq_true q4
      have z9 : ∀ w, (Go.sizeOf (ν.t 9)).run P w = .ok es w := fun w => by
        have : sizeT P (ν.t 9) = some es := by unfold sizeT; rw [h9]; simp [q1]
        exact run_sizeT this w
      have L : InsL P ν nm es i z := ⟨mixed, f22, nmOk, t3, fun w => isAggT_some a3 w, fun w => run_sizeT z3 w, t4, t24, z9, h9, hz, q1, q4, fun w a b la ca lb cb hne tA tB kA kB hsa hsb hkB hfa hfe => by
        rw [run_callFunc_extern hfo hno hbo hn he, Lib.run_overlaps_apart w (ν.t 24) (ν.t 4) (ν.t 9) t24 es z9 a b la ca lb cb hne tA tB kA kB hsa hsb hkB hfa hfe]
        rfl⟩
      refine ⟨insF ν nm, _, f22, nmOk, rfl, rfl, ?_⟩
      subst q2
      exact insK_ok L q3
    · cases hi
  · cases hi
end
end Go.Abs
