/- functions of this cut: what they compute, in the abstract machine. Conditions: stated in each theorem -/
import Derived.Test.YtegdfgoanklohaaE0
set_option linter.unusedVariables false
set_option linter.unusedSimpArgs false
namespace Go.Abs
open Go.Proofs
set_option maxRecDepth 100000
set_option linter.unusedVariables false
/-! ### a stable sort: blocks of twenty, then merged -/
/-- blocks of s, each in order; the last one may be shorter -/
inductive Blk (s : Nat) : List Lv → List Lv → Prop
  | last {x m : List Lv} : StS x m → m.length = x.length → x.length ≤ s → Blk s x m
  | cons {x m X L : List Lv} : StS x m → x.length = s → m.length = s → Blk s X L → Blk s (x ++ X) (m ++ L)
inductive Ful (s : Nat) : List Lv → List Lv → Prop
  | nil : Ful s [] []
  | snoc {x m X L : List Lv} : Ful s X L → StS x m → x.length = s → m.length = s → Ful s (X ++ x) (L ++ m)
theorem Blk.len {s : Nat} {X L : List Lv} (h : Blk s X L) : L.length = X.length := by
  induction h with
  | last _ h _ => exact h
  | cons _ h1 h2 _ ih => rw [List.length_append, List.length_append, h1, h2, ih]
theorem Ful.len {s : Nat} {X L : List Lv} (h : Ful s X L) : L.length = X.length := by
  induction h with
  | nil => rfl
  | snoc _ _ h1 h2 ih => rw [List.length_append, List.length_append, h1, h2, ih]
theorem Ful.blk {s : Nat} {X L : List Lv} (h : Ful s X L) : ∀ {X2 L2 : List Lv}, Blk s X2 L2 → Blk s (X ++ X2) (L ++ L2) := by
  induction h with
  | nil => intro X2 L2 h; exact h
  | snoc _ h1 h2 h3 ih => intro X2 L2 h; rw [List.append_assoc, List.append_assoc]; exact ih (.cons h1 h2 h3 h)
theorem Blk.one {s : Nat} {X L : List Lv} (h : Blk s X L) (hn : X.length ≤ s) : StS X L := by
  cases h with
  | last h _ _ => exact h
  | @cons x m X' L' h h1 h2 h3 =>
    rw [List.length_append, h1] at hn
    have e1 : X' = [] := List.eq_nil_of_length_eq_zero (by omega)
    have h4 := h3.len
    have e2 : L' = [] := List.eq_nil_of_length_eq_zero (by rw [h4, e1]; rfl)
    subst e1 e2
    simpa using h
theorem Blk.cut {s : Nat} {X L : List Lv} (h : Blk s X L) (hn : s ≤ X.length) : ∃ x m X' L', X = x ++ X' ∧ L = m ++ L' ∧ x.length = s ∧ m.length = s ∧ StS x m ∧ Blk s X' L' := by
  cases h with
  | last h h1 h2 => exact ⟨X, L, [], [], by simp, by simp, by omega, by omega, h, .last (StS.self List.Pairwise.nil) rfl (Nat.zero_le _)⟩
  | cons h h1 h2 h3 => exact ⟨_, _, _, _, rfl, rfl, h1, h2, h, h3⟩
theorem StS.two {a b m n r : List Lv} (h1 : StS a m) (h2 : StS b n) (h : StS (m ++ n) r) : StS (a ++ b) r := h.perm fun k j => by rw [cls_app, cls_app, h1.2, h2.2]
section
variable {B0 S : AH} {W : List Nat} {own : List Own} {ro : List Fct} {Q : Post} {k : AV → AC} {v : AV} {L : List Lv}
theorem stable_ok {X : List Lv} (hl : X.length < 100000) (H : Cx B0 W S (.sl v 4 (lvs X) :: own) ro) :
    wpC EM (.fn (.func 46) [] []) [v, I (X.length : Int), ordF] S fun _ S' => ∃ m, StS X m ∧ m.length = X.length ∧ Cx B0 W S' (.sl v 4 (lvs m) :: own) ro := by
  refine wpC_fn (b := Try.a46) rfl rfl ?_
  unfold Try.a46 Try.a46x8 Try.a46x7 Try.a46x6 Try.a46x5 Try.a46x4 Try.a46x3 Try.a46x2 Try.a46x1 Try.a46x0
  refine wp_bind (wp_loop (wpL_inv (fun n vs S1 => ∃ (a : Nat) (L : List Lv), vs = [I ((a + 20 : Nat) : Int), I (a : Int)] ∧ a ≤ X.length ∧ n = X.length - a ∧ Ful 20 (X.take a) L ∧ Cx B0 W S1 (.sl v 4 (lvs (L ++ X.drop a)) :: own) ro) ?_ X.length ⟨0, [], rfl, by omega, by omega, .nil, by simpa using H⟩))
  clear H
  rintro n vs S1 ⟨a, L, rfl, ha, rfl, hL, H⟩
  have La : L.length = a := by rw [hL.len, List.length_take]; omega
  refine wp_leq (fun hle => ?_) (fun hgt => ?_)
  · have hle : a + 20 ≤ X.length := by omega
    repeat (first|refine zA ?_|refine zB rfl ?_|refine zC ?_|refine zD ?_|refine zE rfl ?_|refine zF ?_|refine zG ?_|refine zH ?_|refine zI ?_|refine zJ ?_|refine zK ?_|refine zL rfl ?_|refine zN rfl ?_)
    refine wp_bind ?_
    have e1 : X.drop a = (X.drop a).take 20 ++ X.drop (a + 20) := by rw [← List.drop_drop, List.take_append_drop]
    have l1 : ((X.drop a).take 20).length = 20 := by rw [List.length_take, List.length_drop]; omega
    have t1 : X.take (a + 20) = X.take a ++ (X.drop a).take 20 := List.take_add
    generalize (X.drop a).take 20 = x at e1 l1 t1
    rw [e1] at H
    have K := insertion_ok (P := L) (X := x) (R := X.drop (a + 20)) (by simp only [List.length_append, l1, List.length_drop]; omega) H
    rw [l1, La] at K
    show wp EM (.call _ [v, I (a : Int), I ((a + 20 : Nat) : Int), ordF] _) _ _
    refine wp_call (wpC_mono K fun r S2 q => ?_)
    obtain ⟨m, k1, k2, H2⟩ := q
    refine wp_add64 (by omega) (by omega) (wp_ret ?_)
    show wp EM _ _ _
    refine wp_ret (.inl ⟨rfl, X.length - (a + 20), by omega, a + 20, L ++ m, rfl, by omega, rfl, ?_, ?_⟩)
    · rw [t1]; exact hL.snoc k1 l1 k2
    · simpa using H2
  · repeat (first|refine zA ?_|refine zB rfl ?_|refine zC ?_|refine zD ?_|refine zE rfl ?_|refine zF ?_|refine zG ?_|refine zH ?_|refine zI ?_|refine zJ ?_|refine zK ?_|refine zL rfl ?_|refine zN rfl ?_)
    refine wp_ret (.inr ⟨by simp, ?_⟩)
    show wp EM _ _ _
    have l1 : (X.drop a).length = X.length - a := List.length_drop ..
    have e1 : X.take a ++ X.drop a = X := List.take_append_drop ..
    generalize X.drop a = x at e1 l1 H
    have K := insertion_ok (P := L) (X := x) (R := []) (by simp only [List.length_append, l1, List.length_nil]; omega) (by simpa using H)
    have e2 : a + (X.length - a) = X.length := by omega
    rw [l1, La, e2] at K
    show wp EM (.call _ [v, I (a : Int), I (X.length : Int), ordF] _) _ _
    refine wp_call (wpC_mono K fun r S2 q => ?_)
    obtain ⟨m, k1, k2, H2⟩ := q
    have hB : Blk 20 X (L ++ m) := by
      have := hL.blk (.last k1 (by rw [k2, l1]) (by rw [l1]; omega))
      rwa [e1] at this
    have H2 : Cx B0 W S2 (.sl v 4 (lvs (L ++ m)) :: own) ro := by simpa using H2
    generalize L ++ m = M0 at hB H2
    clear H K hL
    refine wp_bind (wp_loop (wpL_inv (fun n vs S1 => ∃ (s : Nat) (u w : AV) (M : List Lv), vs = [I (s : Int), u, w] ∧ 20 ≤ s ∧ n = X.length - s ∧ Blk s X M ∧ Cx B0 W S1 (.sl v 4 (lvs M) :: own) ro) ?_ (X.length - 20) ⟨20, _, _, M0, rfl, by omega, rfl, hB, H2⟩))
    clear H2 hB
    rintro n vs S3 ⟨s, u, w, M, rfl, hs, rfl, hB, H⟩
    refine wp_lss (fun hlt => ?_) (fun hge => ?_)
    · have hlt : s < X.length := by omega
      repeat (first|refine zA ?_|refine zB rfl ?_|refine zC ?_|refine zD ?_|refine zE rfl ?_|refine zF ?_|refine zG ?_|refine zH ?_|refine zI ?_|refine zJ ?_|refine zK ?_|refine zL rfl ?_|refine zN rfl ?_)
      refine wp_bind ?_
      refine wp_mul (κ := .i64) (c := ((2 * s : Nat) : Int)) (by rw [wrap64 (by omega) (by omega)]; omega) ?_
      refine wp_bind (wp_loop (wpL_inv (fun n vs S1 => ∃ (X1 M1 X2 L2 : List Lv), vs = [I ((M1.length + 2 * s : Nat) : Int), I (M1.length : Int)] ∧ n = L2.length ∧ X1 ++ X2 = X ∧ Ful (2 * s) X1 M1 ∧ Blk s X2 L2 ∧ Cx B0 W S1 (.sl v 4 (lvs (M1 ++ L2)) :: own) ro) ?_ M.length ⟨[], [], X, M, by simp, rfl, rfl, .nil, hB, H⟩))
      clear H hB
      rintro n vs S4 ⟨X1, M1, X2, L2, rfl, rfl, hX, hF, hB, H⟩
      have c1 := hF.len
      have c2 := hB.len
      have c3 : X1.length + X2.length = X.length := by rw [← hX, List.length_append]
      refine wp_leq (fun hle => ?_) (fun hgt => ?_)
      · obtain ⟨x1, m1, X3, L3, rfl, rfl, a1, a2, a3, hB⟩ := hB.cut (by omega)
        rw [List.length_append] at c3
        obtain ⟨x2, m2, X4, L4, rfl, rfl, b1, b2, b3, hB⟩ := hB.cut (by omega)
        have c4 := hB.len
        rw [List.length_append] at c3
        repeat (first|refine zA ?_|refine zB rfl ?_|refine zC ?_|refine zD ?_|refine zE rfl ?_|refine zF ?_|refine zG ?_|refine zH ?_|refine zI ?_|refine zJ ?_|refine zK ?_|refine zL rfl ?_|refine zN rfl ?_)
        refine wp_bind ?_
        refine wp_add64 (by omega) (by omega) ?_
        have n1 : m1 ≠ [] := by rw [← List.length_pos_iff]; omega
        have n2 : m2 ≠ [] := by rw [← List.length_pos_iff]; omega
        have K := symMerge_ok _ (P := M1) (X := m1) (Y := m2) (R := L4) rfl n1 n2 a3.1 b3.1 (by simp only [List.length_append]; omega) H
        rw [a2, b2] at K
        have e2 : M1.length + 2 * s = M1.length + s + s := by omega
        rw [e2]
        show wp EM (.call _ [v, I (M1.length : Int), I ((M1.length + s : Nat) : Int), I ((M1.length + s + s : Nat) : Int), ordF] _) _ _
        refine wp_call (wpC_mono K fun r S5 q => ?_)
        obtain ⟨m, k1, k2, H2⟩ := q
        refine wp_mul (κ := .i64) (c := ((2 * s : Nat) : Int)) (by rw [wrap64 (by omega) (by omega)]; omega) ?_
        refine wp_add64 (by omega) (by omega) (wp_ret ?_)
        show wp EM _ _ _
        have q1 : (M1 ++ m).length = M1.length + s + s := by rw [List.length_append, k2]; omega
        refine wp_ret (.inl ⟨rfl, L4.length, by simp only [List.length_append]; omega, X1 ++ (x1 ++ x2), M1 ++ m, X4, L4, ?_, rfl, ?_, ?_, hB, by simpa using H2⟩)
        · rw [q1]; rfl
        · rw [← hX]; simp
        · exact hF.snoc (StS.two a3 b3 k1) (by rw [List.length_append]; omega) (by rw [k2]; omega)
      · repeat (first|refine zA ?_|refine zB rfl ?_|refine zC ?_|refine zD ?_|refine zE rfl ?_|refine zF ?_|refine zG ?_|refine zH ?_|refine zI ?_|refine zJ ?_|refine zK ?_|refine zL rfl ?_|refine zN rfl ?_)
        refine wp_ret (.inr ⟨by simp, ?_⟩)
        show wp EM _ _ _
        refine wp_add64 (by omega) (by omega) ?_
        have fin : ∀ {m : List Lv}, StS X2 m → m.length = X2.length → Blk (2 * s) X (M1 ++ m) := fun k1 k2 => by rw [← hX]; exact hF.blk (.last k1 k2 (by omega))
        refine wp_lss (fun hlt2 => ?_) (fun hge2 => ?_)
        · obtain ⟨x1, m1, X3, L3, rfl, rfl, a1, a2, a3, hB⟩ := hB.cut (by omega)
          rw [List.length_append] at c3
          have c4 := hB.len
          have hone := hB.one (by omega)
          refine wp_bind (wp_ite_t ?_)
          have n1 : m1 ≠ [] := by rw [← List.length_pos_iff]; omega
          have n2 : L3 ≠ [] := by rw [← List.length_pos_iff]; omega
          have K := symMerge_ok _ (P := M1) (X := m1) (Y := L3) (R := []) rfl n1 n2 a3.1 hone.1 (by simp only [List.length_append, List.length_nil]; omega) (by simpa using H)
          have e : M1.length + m1.length + L3.length = X.length := by omega
          rw [e, a2] at K
          show wp EM (.call _ [v, I (M1.length : Int), I ((M1.length + s : Nat) : Int), I (X.length : Int), ordF] _) _ _
          refine wp_call (wpC_mono K fun r S5 q => ?_)
          obtain ⟨m, k1, k2, H2⟩ := q
          refine wp_ret ?_
          show wp EM _ _ _
          refine wp_mul (κ := .i64) (c := ((2 * s : Nat) : Int)) (by rw [wrap64 (by omega) (by omega)]; omega) (wp_ret ?_)
          show wp EM _ _ _
          refine wp_ret (.inl ⟨rfl, X.length - 2 * s, by omega, 2 * s, _, _, M1 ++ m, rfl, by omega, rfl, fin (StS.two a3 hone k1) (by rw [k2, List.length_append]; omega), by simpa using H2⟩)
        · have hone := hB.one (by omega)
          refine wp_bind (wp_ite_f (wp_ret ?_))
          show wp EM _ _ _
          refine wp_mul (κ := .i64) (c := ((2 * s : Nat) : Int)) (by rw [wrap64 (by omega) (by omega)]; omega) (wp_ret ?_)
          show wp EM _ _ _
          refine wp_ret (.inl ⟨rfl, X.length - 2 * s, by omega, 2 * s, _, _, M1 ++ L2, rfl, by omega, rfl, fin hone (by omega), H⟩)
    · repeat (first|refine zA ?_|refine zB rfl ?_|refine zC ?_|refine zD ?_|refine zE rfl ?_|refine zF ?_|refine zG ?_|refine zH ?_|refine zI ?_|refine zJ ?_|refine zK ?_|refine zL rfl ?_|refine zN rfl ?_)
      refine wp_ret (.inr ⟨by simp, ?_⟩)
      show wp EM _ _ _
      exact wp_ret ⟨rfl, M, hB.one (by omega), hB.len, H⟩
end
end Go.Abs
namespace Go.Abs
open Go.Proofs
set_option maxRecDepth 100000
set_option linter.unusedVariables false
/-! ### parts of one's own slices -/
section
variable {M : Mach} {B0 S : AH} {W : List Nat} {own : List Own} {ro : List Fct} {Q : Post} {k : AV → AC}
theorem slForm_from {v : AV} {es n id off i : Nat} {c : List AV} (h : slForm v es n id off c) (hi : i ≤ n) : ∃ v' off', evalOp M.P (.sslice es v (some (I (i : Int))) none none) S = some (v', S) ∧ slForm v' es (n - i) id off' c ∧ (i < n → off' = off + i * es) := by
  have hb : ∀ cap, n ≤ cap → bnds (some (I (i : Int))) none none n cap = some (i, n, cap) := by
    intro cap hc
    have h1 : bndO (some (I (i : Int))) 0 n = some i := by
      show below i (Nat.succ n) = some i
      unfold below; rw [ble_t (by omega)]
    show (match bndO (some (I (i : Int))) 0 n with | some l => (if (none : Option AV).isSome && (none : Option AV).isNone then none else some (l, n, cap)) | none => none) = _
    rw [h1]; rfl
  rcases h with ⟨cap, q1, q2, rfl⟩ | ⟨cmin, q1, q2, rfl⟩
  · have hm : i * es ≤ cap * es := Nat.mul_le_mul_right es (by omega)
    refine ⟨.sl id (if Nat.beq cap i = true then off else off + i * es) (n - i) (cap - i), _, ?_, .inl ⟨cap - i, by omega, ?_, rfl⟩, ?_⟩
    · show pur (pSslice es (.sl id off n cap) (some (I (i : Int))) none none) S = _
      unfold pSslice
      simp only [hb cap q1]
      rfl
    · rw [Nat.sub_mul]
      split <;> omega
    · intro hlt
      rw [if_neg]
      intro h
      have := Nat.eq_of_beq_eq_true h
      omega
  · have hm : i * es ≤ cmin * es := Nat.mul_le_mul_right es (by omega)
    refine ⟨.op id (off + i * es) (n - i) (cmin - i) es, _, ?_, .inr ⟨cmin - i, by omega, ?_, rfl⟩, fun _ => rfl⟩
    · show pur (pSslice es (.op id off n cmin es) (some (I (i : Int))) none none) S = _
      unfold pSslice
      simp only [hb cmin q1, Nat.beq_refl]
      rfl
    · rw [Nat.sub_mul]; omega
theorem tk_flat : ∀ {L : List (List AV)} {es : Nat}, (∀ x ∈ L, x.length = es) → ∀ i, L.flatten.take (i * es) = (L.take i).flatten
  | [], es, _, i => by simp
  | y :: L, es, h, 0 => by simp
  | y :: L, es, h, i + 1 => by
    have hy := h y (by simp)
    have ih := tk_flat (L := L) (fun z hz => h z (by simp [hz])) i
    simp only [List.flatten_cons, List.take_succ_cons]
    rw [List.take_append, ← ih, List.take_of_length_le (by rw [hy, Nat.succ_mul]; omega)]
    congr 2
    rw [hy, Nat.succ_mul]; omega
theorem dr_flat : ∀ {L : List (List AV)} {es : Nat}, (∀ x ∈ L, x.length = es) → ∀ i, L.flatten.drop (i * es) = (L.drop i).flatten
  | [], es, _, i => by simp
  | y :: L, es, h, 0 => by simp
  | y :: L, es, h, i + 1 => by
    have hy := h y (by simp)
    have ih := dr_flat (L := L) (fun z hz => h z (by simp [hz])) i
    simp only [List.flatten_cons, List.drop_succ_cons]
    rw [List.drop_append, ← ih, List.drop_eq_nil_of_le (by rw [hy, Nat.succ_mul]; omega), List.nil_append]
    congr 1
    rw [hy, Nat.succ_mul]; omega
theorem e_copyO {d s : AV} {es n id off : Nat} {c : List AV} {N : List (List AV)} {ys : List AV} (hd : slForm d es n id off c) (hg : S.get id = some (.row c)) (hs : elems S es s = some (N.length, N.flatten)) (hn : n ≤ N.length) (hy : N.flatten.take (n * es) = ys) :
    evalOp M.P (.copy es d s) S = some (I (n : Int), S.set id (.row (setRange c off ys))) := by
  have e1 : Nat.min N.length n = n := Nat.min_eq_right hn
  have main : ∀ cap, n ≤ cap → off + cap * es ≤ c.length → (if Nat.ble (off + n * es) (lenL c) then some ((AV.sc (.int .i64 (Nat.min N.length n)) : AV), S.set id (.row (setRange c off (takeL (Nat.min N.length n * es) N.flatten)))) else none) = some (I (n : Int), S.set id (.row (setRange c off ys))) := by
    intro cap h1 h2
    have hm : n * es ≤ cap * es := Nat.mul_le_mul_right es h1
    rw [lenL_eq, ble_t (by omega), e1, takeL_eq, hy]; rfl
  show eCopy es d s S = _
  unfold eCopy
  rw [hs]
  rcases hd with ⟨cap, q1, q2, rfl⟩ | ⟨cap, q1, q2, rfl⟩
  · simp only [hg]; exact main cap q1 q2
  · simp only [hg]; exact main cap q1 q2
/-- from a place on, all are moved by one -/
theorem wp_shift (H : Cx B0 W S own ro) (n : Nat) {v : AV} {es : Nat} {A Bs : List (List AV)} {z : List AV} (hm : own[n]? = some (.sl v es (A ++ (Bs ++ [z]))))
    (h : ∀ S1 y, Cx B0 W S1 (own.set n (.sl v es (A ++ y :: Bs))) ro → wp M (k (I (Bs.length : Int))) S1 Q) :
    wp M (.op (.sslice es v (some (I ((A.length + 1 : Nat) : Int))) none none) fun a => .op (.sslice es v (some (I (A.length : Int))) none none) fun b => .op (.copy es a b) k) S Q := by
  have hw := H.oh _ (List.mem_of_getElem? hm)
  rcases hw with ⟨_, h0⟩ | ⟨id, off, c, h0, h1, h2, h3⟩
  · simp at h0
  have hlen : (A ++ (Bs ++ [z])).length = A.length + Bs.length + 1 := by simp; omega
  rw [hlen] at h0 h2
  obtain ⟨va, oa, ea, fa, ga⟩ := slForm_from (M := M) (S := S) (i := A.length + 1) h0 (by omega)
  obtain ⟨vb, ob, eb, fb, gb⟩ := slForm_from (M := M) (S := S) (i := A.length) h0 (by omega)
  have gb := gb (by omega)
  subst gb
  have n1 : A.length + Bs.length + 1 - (A.length + 1) = Bs.length := by omega
  have n2 : A.length + Bs.length + 1 - A.length = Bs.length + 1 := by omega
  rw [n1] at fa
  rw [n2] at fb
  have hB : ∀ x ∈ Bs ++ [z], x.length = es := fun x hx => h3 x (by simp only [List.mem_append] at hx ⊢; exact .inr hx)
  have hfb : (c.drop (off + A.length * es)).take ((Bs.length + 1) * es) = (Bs ++ [z]).flatten := by
    have e : (A ++ (Bs ++ [z])).flatten.drop (A.length * es) = (Bs ++ [z]).flatten := by
      rw [dr_flat h3, List.drop_left]
    rw [← e, ← h2, List.drop_take, List.drop_drop]
    congr 1
    rw [← Nat.sub_mul]; congr 1; omega
  have hel : elems S es vb = some ((Bs ++ [z]).length, (Bs ++ [z]).flatten) := slOk_elems (.inr ⟨id, _, c, by rw [List.length_append]; exact fb, row_cells h1, by rw [List.length_append]; exact hfb, hB⟩)
  have hys : (Bs ++ [z]).flatten.take (Bs.length * es) = Bs.flatten := by rw [tk_flat hB, List.take_left]
  refine wp_op ea (wp_op eb (wp_op (e_copyO fa h1 hel (by simp) hys) ?_))
  obtain ⟨y, R, hy⟩ : ∃ y R, Bs ++ [z] = y :: R := by cases Bs <;> exact ⟨_, _, rfl⟩
  have hBl : Bs.flatten.length = Bs.length * es := flatten_length fun x hx => hB x (by simp [hx])
  have hyl : y.length = es := hB y (by rw [hy]; simp)
  have hroom : off + (A.length + Bs.length + 1) * es ≤ c.length := by
    rcases h0 with ⟨cap, q1, q2, _⟩ | ⟨cap, q1, q2, _⟩
    · have := Nat.mul_le_mul_right es q1; omega
    · have := Nat.mul_le_mul_right es q1; omega
  have hall : ∀ x ∈ A ++ y :: Bs, x.length = es := by
    intro x hx
    simp only [List.mem_append, List.mem_cons] at hx
    rcases hx with hx | rfl | hx
    · exact h3 x (by simp [hx])
    · exact hyl
    · exact hB x (by simp [hx])
  have lB : (A ++ y :: Bs).length = A.length + Bs.length + 1 := by simp; omega
  have hA1 : (c.drop off).take ((A.length + 1) * es) = A.flatten ++ y := by
    have hle : (A.length + 1) * es ≤ (A.length + Bs.length + 1) * es := Nat.mul_le_mul_right es (by omega)
    have : (c.drop off).take ((A.length + 1) * es) = ((c.drop off).take ((A.length + Bs.length + 1) * es)).take ((A.length + 1) * es) := by rw [List.take_take, Nat.min_eq_left hle]
    rw [this, h2, tk_flat h3, hy, List.take_length_add_append]
    simp
  -- what lies there now
  have hnew : ((setRange c oa Bs.flatten).drop off).take ((A.length + Bs.length + 1) * es) = (A ++ y :: Bs).flatten ∧ (setRange c oa Bs.flatten).length = c.length := by
    cases hBs : Bs with
    | nil =>
      have e : setRange c oa ([] : List (List AV)).flatten = c := by rw [setRange_eq]; simp
      subst hBs
      rw [e]
      refine ⟨?_, rfl⟩
      have : A.length + ([] : List (List AV)).length + 1 = A.length + 1 := by simp
      rw [this, hA1]; simp
    | cons b R2 =>
      rw [← hBs]
      have hpos : 0 < Bs.length := by rw [hBs]; simp
      have goa : oa = off + (A.length + 1) * es := ga (by omega)
      have hmul : (A.length + Bs.length + 1) * es = (A.length + 1) * es + Bs.length * es := by rw [← Nat.add_mul]; congr 1; omega
      subst goa
      refine ⟨?_, setRange_length (by rw [hBl]; omega)⟩
      rw [take_setRange (a := (A.length + 1) * es) (by rw [hBl]; omega) (by rw [hBl]; exact hmul), hA1]
      simp
  have hmem := List.mem_of_getElem? hm
  have hS1 : (S.set id (.row (setRange c oa Bs.flatten))).next = S.next := rfl
  refine h _ y (H.step hm (Nat.le_refl _) ?_ ?_ ?_)
  · intro j hj hne
    rw [AH.get_set, if_neg (by simpa [Own.ids, h0.ids] using hne)]
  · refine .inr ⟨id, off, setRange c oa Bs.flatten, ?_, by rw [AH.get_set, if_pos rfl], by rw [lB]; exact hnew.1, hall⟩
    rw [lB]
    rcases h0 with ⟨cap, q1, q2, rfl⟩ | ⟨cap, q1, q2, rfl⟩
    · exact .inl ⟨cap, q1, by rw [hnew.2]; exact q2, rfl⟩
    · exact .inr ⟨cap, q1, by rw [hnew.2]; exact q2, rfl⟩
  · intro j hj
    exact ⟨(H.oi _ hmem j hj).1, .inl hj⟩
/-- the first ones of one's own slice: that is one's own, too -/
theorem wp_prefixO (H : Cx B0 W S own ro) (n : Nat) {v : AV} {es i : Nat} {L : List (List AV)} (hm : own[n]? = some (.sl v es L)) (hi : i ≤ L.length)
    (h : ∀ v', Cx B0 W S (own.set n (.sl v' es (L.take i))) ro → wp M (k v') S Q) : wp M (.op (.sslice es v none (some (I (i : Int))) none) k) S Q := by
  have hmem := List.mem_of_getElem? hm
  have hs := H.oh _ hmem
  rcases hs with ⟨rfl, rfl⟩ | ⟨id, off, c, h0, h1, h2, h3⟩
  · have : i = 0 := by simpa using hi
    subst this
    exact wp_op (v := Ns) rfl (h Ns (H.step hm (Nat.le_refl _) (fun _ _ _ => rfl) (.inl ⟨rfl, by simp⟩) fun id hid => by simp [Own.ids, vids] at hid))
  · obtain ⟨v', e1, e2⟩ := slForm_sub (M := M) (S := S) h0 hi
    have hll : (L.take i).length = i := by rw [List.length_take, Nat.min_eq_left hi]
    refine wp_op e1 (h v' (H.step hm (Nat.le_refl _) (fun _ _ _ => rfl) (.inr ⟨id, off, c, by rw [hll]; exact e2, h1, ?_, fun x hx => h3 x (List.mem_of_mem_take hx)⟩) fun j hj => ?_))
    · have hle := Nat.mul_le_mul_right es hi
      rw [hll, ← tk_flat h3, ← h2, List.take_take, Nat.min_eq_left hle]
    · have hj' : j ∈ Own.ids (.sl v es L) := by
        simp only [Own.ids] at hj ⊢
        rw [h0.ids]; rw [e2.ids] at hj; exact hj
      exact ⟨(H.oi _ hmem j hj').1, .inl hj'⟩
theorem wp_min2 {a b : Int} (h : wp M (k (I (min a b))) S Q) : wp M (.op (.minmax false [I a, I b]) k) S Q := wp_op (v := I (min a b)) (by
  show pur (minmax1 false (I a) (I b) >>= fun x => some x) S = _
  have e : minmax1 false (I a) (I b) = some (I (min a b)) := by
    show some (AV.sc (.int .i64 (if ltF b a then b else a))) = _
    rw [ltF_eq]
    by_cases h : b < a
    · rw [decide_eq_true h, Int.min_eq_right (by omega)]; rfl
    · rw [decide_eq_false h, Int.min_eq_left (by omega)]; rfl
  rw [e]; rfl) h
theorem wp_max2 {a b : Int} (h : wp M (k (I (max a b))) S Q) : wp M (.op (.minmax true [I a, I b]) k) S Q := wp_op (v := I (max a b)) (by
  show pur (minmax1 true (I a) (I b) >>= fun x => some x) S = _
  have e : minmax1 true (I a) (I b) = some (I (max a b)) := by
    show some (AV.sc (.int .i64 (if ltF a b then b else a))) = _
    rw [ltF_eq]
    by_cases h : a < b
    · rw [decide_eq_true h, Int.max_eq_right (by omega)]; rfl
    · rw [decide_eq_false h, Int.max_eq_left (by omega)]; rfl
  rw [e]; rfl) h
theorem wp_bslice0 (H : Cx B0 W S own ro) {es : Nat} {z : List AV} (hz : z.length = es) (h : ∀ v S1, Cx B0 W S1 (.sl v es [] :: own) ro → wp M (k v) S1 Q) : wp M (.op (.bslice es 0 z []) k) S Q := by
  refine wp_op (v := .sl S.next 0 0 0) (S1 := S.new (.row [])) ?_ (h _ _ (H.addOwn (Grows.new S _) (x := .sl (.sl S.next 0 0 0) es []) ?_ ?_))
  · show nBslice es 0 z [] S = _
    unfold nBslice
    have e : (Nat.beq (lenL ([] : List AV)) (Nat.mul 0 es) && Nat.beq (lenL z) es) = true := by
      rw [lenL_eq, lenL_eq, hz, Nat.beq_refl, show Nat.mul 0 es = 0 from Nat.zero_mul es]; rfl
    show (match Nat.beq (lenL ([] : List AV)) (Nat.mul 0 es) && Nat.beq (lenL z) es with | true => lay S (.row []) fun id => .sl id 0 0 0 | false => none) = _
    rw [e]; rfl
  · exact .inr ⟨S.next, 0, [], .inl ⟨0, by simp, by simp, rfl⟩, get_new_same _ _, by simp, by simp⟩
  · intro id hid
    simp only [Own.ids, vids, List.mem_singleton] at hid
    subst hid
    exact ⟨Nat.le_refl _, by simp [AH.new]⟩
theorem Cx.addNilS (H : Cx B0 W S own ro) (es : Nat) : Cx B0 W S (.sl Ns es [] :: own) ro := H.addOwn (Grows.refl S) (.inl ⟨rfl, rfl⟩) (fun id hid => by simp [Own.ids, vids] at hid)
/-- what a call has made is one's own -/
theorem Cx.addC {S1 : AH} {x : Own} (H : Cx B0 W S own ro) (K : Cx S [] S1 [x] []) : Cx B0 W S1 (x :: own) ro := H.addOwn K.grows (K.oh _ (List.Mem.head _)) fun id hid => by
  have h := K.oi _ (List.Mem.head _) id hid
  refine ⟨?_, h.1⟩
  have h2 := h.2
  by_cases hlt : id < S.next
  · have := h2 hlt; simp at this
  · omega
end
/-! ### which should be run: what the program says -/
section
variable {B0 S : AH} {W : List Nat} {own : List Own} {ro : List Fct} {Q : Post} {k : AV → AC} {v : AV} {L : List Lv}
theorem cloneL_ok {v : AV} {l : List Lv} (hv : RoSl S v 4 (lvs l)) (hl : l.length ≤ 100000) : wpC EM (.fn (.func 29) [] []) [v] S fun r S' => Cx S [] S' [.sl r 4 (lvs l)] [] := by
  refine wpC_fn (b := Try.a29) rfl rfl ?_
  have H := Cx.ro1 hv
  unfold Try.a29
  have some' : v ≠ Ns → evalOp EM.P (.eq 22 false v Ns) S = some (B false, S) := fun hne => by
    rcases hv.1 with ⟨rfl, _⟩ | ⟨id, off, c, (⟨_, _, _, rfl⟩ | ⟨_, _, _, rfl⟩), _⟩
    · exact absurd rfl hne
    · kernel_rfl
    · kernel_rfl
  by_cases hn : v = Ns
  · subst hn
    have h0 : lvs l = [] := by
      rcases hv.1 with ⟨_, h⟩ | ⟨id, off, c, (⟨_, _, _, h⟩ | ⟨_, _, _, h⟩), _⟩
      · exact h
      · cases h
      · cases h
    refine wp_op (v := B true) (S1 := S) (by kernel_rfl) ?_
    repeat (first|refine zA ?_|refine zB rfl ?_|refine zC ?_|refine zD ?_|refine zE rfl ?_|refine zF ?_|refine zG ?_|refine zH ?_|refine zI ?_|refine zJ ?_|refine zK ?_|refine zL rfl ?_|refine zN rfl ?_)
    refine wp_ret ⟨rfl, ?_⟩
    rw [h0]
    rw [h0] at H
    exact (H.addNilS 4).tl
  · refine wp_op (some' hn) ?_
    repeat (first|refine zA ?_|refine zB rfl ?_|refine zC ?_|refine zD ?_|refine zE rfl ?_|refine zF ?_|refine zG ?_|refine zH ?_|refine zI ?_|refine zJ ?_|refine zK ?_|refine zL rfl ?_|refine zN rfl ?_)
    refine wp_bslice0 H rfl fun u S1 H => ?_
    refine wp_appendR (x := v) (N := lvs l) H 0 rfl (by repeat (first | exact List.Mem.head _ | apply List.Mem.tail)) (lvs_all l) (by rw [lvs_len]; unfold maxBytes; simp; omega) (by rw [lvs_len]; unfold maxLenN; simp; omega) fun v1 S2 H => ?_
    refine wp_ret ⟨rfl, ?_⟩
    exact H.tl
theorem sortStable_ok {X : List Lv} (hl : X.length < 100000) (H : Cx B0 W S (.sl v 4 (lvs X) :: own) ro) :
    wpC EM (.fn (.func 30) [] []) [v, ordF] S fun _ S' => ∃ m, StS X m ∧ m.length = X.length ∧ Cx B0 W S' (.sl v 4 (lvs m) :: own) ro := by
  refine wpC_fn (b := Try.a30) rfl rfl ?_
  unfold Try.a30
  refine wp_leno H 0 rfl ?_
  rw [lvs_len]
  refine wp_call (wpC_mono (stable_ok hl H) fun r S2 q => ?_)
  exact wp_ret ⟨rfl, q⟩
/-- how many -/
def many (cores : Int) (n : Nat) : Nat := min cores.toNat n
theorem lvs_take (l : List Lv) (i : Nat) : (lvs l).take i = lvs (l.take i) := by unfold lvs; rw [List.map_take]
theorem should_ok {v : AV} {l : List Lv} {cores : Int} (hv : RoSl S v 4 (lvs l)) (hl : l.length < 100000) : wpC EM (.fn (.func 8) [] []) [v, I cores] S fun r S' => ∃ m, StS l m ∧ m.length = l.length ∧ Cx S [] S' [.sl r 4 (lvs (m.take (many cores l.length)))] [] := by
  refine wpC_fn (b := Try.a8) rfl rfl ?_
  have H : Cx S [] S [] [.sl v 4 (lvs l)] := Cx.ro1 hv
  unfold Try.a8
  refine wp_callN H (cloneL_ok (l := l) (H.roSl (by repeat (first | exact List.Mem.head _ | apply List.Mem.tail))) (by omega)) fun u S1 H => ?_
  refine wp_call (wpC_mono (sortStable_ok hl H) fun r S2 q => ?_)
  obtain ⟨m, k1, k2, H⟩ := q
  refine wp_leno H 0 rfl ?_
  rw [lvs_len, k2]
  refine wp_max2 (wp_min2 ?_)
  have e : min (l.length : Int) (max cores 0) = ((many cores l.length : Nat) : Int) := by unfold many; omega
  first
    | rw [e]
    | (have e' : min (max cores 0) (l.length : Int) = ((many cores l.length : Nat) : Int) := by unfold many; omega
       rw [e'])
  refine wp_prefixO (i := many cores l.length) H 0 rfl (by rw [lvs_len, k2]; unfold many; omega) fun v' H => ?_
  refine wp_ret ⟨rfl, m, k1, k2, ?_⟩
  rw [lvs_take] at H
  exact H.dropRo (by simp)
end
end Go.Abs
namespace Go.Abs
open Go.Proofs
set_option maxRecDepth 100000
set_option linter.unusedVariables false
/-! ### which should be run: the document's answer -/
section
variable {B0 S : AH} {W : List Nat} {own : List Own} {ro : List Fct} {Q : Post} {k : AV → AC} {v : AV} {L : List Lv}
theorem lvs_getro {l : List Lv} {i : Nat} (h : i < l.length) : (lvs l)[i]? = some (l[i].cs) := by simp [lvs, h]
end
end Go.Abs
namespace Go.Abs
open Go.Proofs
set_option maxRecDepth 100000
set_option linter.unusedVariables false
/-! ### are just these run? -/
def rightAt (m : List Lv) (n : Nat) (cores : Int) (i : Nat) (x : Lv) : Prop := (x.st = 4 ↔ i < n) ∧ (i < n → 0 ≤ x.core ∧ x.core < cores ∧ ∀ y ∈ m.take i, y.core ≠ x.core)
def rightL (m : List Lv) (n : Nat) (cores : Int) : Prop := ∀ i x, m[i]? = some x → rightAt m n cores i x
theorem not_right {m : List Lv} {n : Nat} {cores : Int} {i : Nat} {x : Lv} (h : m[i]? = some x) (k : ¬ rightAt m n cores i x) : ¬ rightL m n cores := fun q => k (q i x h)
theorem take_mem {m : List Lv} {i : Nat} {x y : Lv} (h : m[i]? = some x) : y ∈ m.take (i + 1) ↔ y ∈ m.take i ∨ y = x := by
  obtain ⟨hi, rfl⟩ := List.getElem?_eq_some_iff.1 h
  rw [List.take_succ_eq_append_getElem hi, List.mem_append, List.mem_singleton]
theorem undI : EM.P.underlying 3 = some (.int .i64) := by kernel_rfl
theorem undB : EM.P.underlying 4 = some .bool := by kernel_rfl
section
variable {B0 S : AH} {W : List Nat} {own : List Own} {ro : List Fct} {Q : Post} {k : AV → AC} {v : AV} {L : List Lv}
theorem many_self (n : Nat) : many (n : Int) n = n := by unfold many; simp
/-- which cores have been seen, each once -/
def seen (M : List (Int × AV)) (l : List Lv) : Prop := ∀ c, mget M c = if c ∈ l.map Lv.core then some (I 1) else none
theorem right_ok {v : AV} {l : List Lv} {cores : Int} (hv : RoSl S v 4 (lvs l)) (hl : l.length < 100000) : wpC EM (.fn (.func 11) [] []) [v, I cores] S fun r S' => (∃ m b, StS l m ∧ m.length = l.length ∧ r = B b ∧ (b = true ↔ rightL m (many cores l.length) cores)) ∧ Grows S S' := by
  refine wpC_fn (b := Try.a11) rfl rfl ?_
  have H : Cx S [] S [] [.sl v 4 (lvs l)] := Cx.ro1 hv
  unfold Try.a11 Try.a11x9 Try.a11x8 Try.a11x7 Try.a11x6 Try.a11x5 Try.a11x4 Try.a11x3 Try.a11x2 Try.a11x1 Try.a11x0
  refine wp_len H (by repeat (first | exact List.Mem.head _ | apply List.Mem.tail)) ?_
  rw [lvs_len]
  refine wp_call (wpC_mono (should_ok (l := l) (cores := l.length) (H.roSl (by repeat (first | exact List.Mem.head _ | apply List.Mem.tail))) hl) fun u S1 q => ?_)
  obtain ⟨m, k1, k2, K⟩ := q
  rw [many_self, ← k2, List.take_length] at K
  have H : Cx S [] S1 [.sl u 4 (lvs m)] [.sl v 4 (lvs l)] := H.addC K
  clear K
  refine wp_call (wpC_mono (should_ok (l := l) (cores := cores) (H.roSl (by repeat (first | exact List.Mem.head _ | apply List.Mem.tail))) hl) fun w S2 q => ?_)
  obtain ⟨m2, k3, k4, K⟩ := q
  obtain rfl : m2 = m := k3.uniq k1
  have hn : many cores l.length ≤ m2.length := by rw [k4]; unfold many; omega
  generalize hN : many cores l.length = N at *
  have H : Cx S [] S2 [.sl w 4 (lvs (m2.take N)), .sl u 4 (lvs m2)] [.sl v 4 (lvs l)] := H.addC K
  clear K
  refine wp_leno H 0 rfl ?_
  have hNl : (lvs (m2.take N)).length = N := by rw [lvs_len, List.length_take]; omega
  rw [hNl]
  refine wp_mkmap H fun mp S3 H => ?_
  refine wp_leno H 2 rfl ?_
  rw [lvs_len]
  have H : Cx S [] S3 [.obj mp (.map (ment [])), .sl u 4 (lvs m2)] [.sl v 4 (lvs l)] := H.dropOwn (List.Sublist.cons_cons _ (List.Sublist.cons _ (List.Sublist.refl _)))
  have done : ∀ {S1 : AH} {own} {ro} (b : Bool), Cx S [] S1 own ro → (b = true ↔ rightL m2 N cores) → (Tag.ret = .ret ∧ (∃ m b', StS l m ∧ m.length = l.length ∧ oneOf [B b] = B b' ∧ (b' = true ↔ rightL m N cores)) ∧ Grows S S1) := fun b H hb => ⟨rfl, ⟨m2, b, k1, k4, rfl, hb⟩, H.grows⟩
  refine wp_bind (wp_loop (wpL_inv (fun n vs S1 => ∃ (i : Nat) (w : AV) (Mp : List (Int × AV)), vs = [I (i : Int), w] ∧ i ≤ m2.length ∧ n = m2.length - i ∧ (∀ j x, m2[j]? = some x → j < i → rightAt m2 N cores j x) ∧ (seen Mp (m2.take (min i N))) ∧ Cx S [] S1 [.obj mp (.map (ment Mp)), .sl u 4 (lvs m2)] [.sl v 4 (lvs l)]) ?_ m2.length ⟨0, _, [], rfl, by omega, by omega, fun _ _ _ h => by omega, ?_, H⟩))
  rotate_left
  · intro c; simp [mget]
  clear H
  rintro n vs S4 ⟨i, w, Mp, rfl, hi, rfl, hr, hs, H⟩
  refine wp_lss (fun hlt => ?_) (fun hge => ?_)
  · have hlt : i < m2.length := by omega
    have hx : m2[i]? = some m2[i] := List.getElem?_eq_getElem hlt
    generalize m2[i] = x at hx
    repeat (first|refine zA ?_|refine zB rfl ?_|refine zC ?_|refine zD ?_|refine zE rfl ?_|refine zF ?_|refine zG ?_|refine zH ?_|refine zI ?_|refine zJ ?_|refine zK ?_|refine zL rfl ?_|refine zN rfl ?_)
    refine wp_bind ?_
    refine wp_ownN H 1 rfl hx ?_
    show wp EM (.op (.alloc [I 0, I 0, I 0, U 0]) _) _ _
    refine wp_alloc H fun q S5 H => ?_
    refine wp_store (n := 4) (off := 0) H 0 rfl rfl rfl (by show 0 + 4 ≤ 4; omega) fun S6 H => ?_
    have H : Cx S [] S6 [.obj q (.row x.cs), .obj mp (.map (ment Mp)), .sl u 4 (lvs m2)] [.sl v 4 (lvs l)] := H
    have H : Cx S [] S6 [.obj mp (.map (ment Mp)), .sl u 4 (lvs m2)] [.pt q 0 x.cs, .sl v 4 (lvs l)] := H.freeze (i := 0) rfl
    repeat (first|refine zA ?_|refine zB rfl ?_|refine zC ?_|refine zD ?_|refine zE rfl ?_|refine zF ?_|refine zG ?_|refine zH ?_|refine zI ?_|refine zJ ?_|refine zK ?_|refine zL rfl ?_|refine zN rfl ?_)
    refine wp_load1 (id := q) (j := 1) H (cs := x.cs) (by repeat (first | exact List.Mem.head _ | apply List.Mem.tail)) rfl ?_
    refine wp_op e_eql ?_
    refine wp_op e_lss ?_
    refine wp_op (e_eqb undB) ?_
    have hlN : ((i : Int) < (N : Int)) ↔ i < N := by omega
    by_cases hst : ¬ (x.st = 4 ↔ i < N)
    · have e : (if true = true then !(decide (x.st = 4) == decide ((i : Int) < (N : Int))) else (decide (x.st = 4) == decide ((i : Int) < (N : Int)))) = true := by
        by_cases a1 : x.st = 4 <;> by_cases a2 : i < N <;> simp_all
      rw [e]
      repeat (first|refine zA ?_|refine zB rfl ?_|refine zC ?_|refine zD ?_|refine zE rfl ?_|refine zF ?_|refine zG ?_|refine zH ?_|refine zI ?_|refine zJ ?_|refine zK ?_|refine zL rfl ?_|refine zN rfl ?_)
      exact wp_ret (.inr ⟨by simp, done false H ⟨fun h => (by cases h), fun h => absurd h (not_right hx fun h => hst h.1)⟩⟩)
    have hst := Decidable.not_not.1 hst
    have e : (if true = true then !(decide (x.st = 4) == decide ((i : Int) < (N : Int))) else (decide (x.st = 4) == decide ((i : Int) < (N : Int)))) = false := by
      by_cases a1 : x.st = 4 <;> by_cases a2 : i < N <;> simp_all
    rw [e]
    repeat (first|refine zA ?_|refine zB rfl ?_|refine zC ?_|refine zD ?_|refine zE rfl ?_|refine zF ?_|refine zG ?_|refine zH ?_|refine zI ?_|refine zJ ?_|refine zK ?_|refine zL rfl ?_|refine zN rfl ?_)
    refine wp_lss (fun hin => ?_) (fun hni => ?_)
    · have hin : i < N := by omega
      refine wp_bind ?_
      repeat (first|refine zA ?_|refine zB rfl ?_|refine zC ?_|refine zD ?_|refine zE rfl ?_|refine zF ?_|refine zG ?_|refine zH ?_|refine zI ?_|refine zJ ?_|refine zK ?_|refine zL rfl ?_|refine zN rfl ?_)
      refine wp_load1 (id := q) (j := 2) H (cs := x.cs) (by repeat (first | exact List.Mem.head _ | apply List.Mem.tail)) rfl ?_
      refine wp_lookup H 0 undI rfl ?_
      have em : min i N = i := by omega
      have em2 : min (i + 1) N = i + 1 := by omega
      rw [em] at hs
      have hcm : (x.core ∈ (m2.take i).map Lv.core) ↔ ∃ y ∈ m2.take i, y.core = x.core := List.mem_map
      have hget : (mget Mp x.core).getD (I 0) = I (if x.core ∈ (m2.take i).map Lv.core then 1 else 0) := by
        rw [hs x.core]
        by_cases hc : x.core ∈ (m2.take i).map Lv.core
        · rw [if_pos hc, if_pos hc]; rfl
        · rw [if_neg hc, if_neg hc]; rfl
      show wp EM (.op (.bin .add ((mget Mp x.core).getD (I 0)) (I 1)) _) _ _
      rw [hget]
      refine wp_add64 (by split <;> omega) (by split <;> omega) ?_
      refine wp_mapset H 0 undI rfl fun S7 H => ?_
      have H : Cx S [] S7 [.obj mp (.map (ment (mset Mp x.core (I ((if x.core ∈ (m2.take i).map Lv.core then 1 else 0) + 1))))), .sl u 4 (lvs m2)] [.pt q 0 x.cs, .sl v 4 (lvs l)] := H
      repeat (first|refine zA ?_|refine zB rfl ?_|refine zC ?_|refine zD ?_|refine zE rfl ?_|refine zF ?_|refine zG ?_|refine zH ?_|refine zI ?_|refine zJ ?_|refine zK ?_|refine zL rfl ?_|refine zN rfl ?_)
      refine wp_load1 (id := q) (j := 2) H (cs := x.cs) (by repeat (first | exact List.Mem.head _ | apply List.Mem.tail)) rfl ?_
      refine wp_lss (fun hneg => ?_) (fun hpos => ?_)
      · repeat (first|refine zA ?_|refine zB rfl ?_|refine zC ?_|refine zD ?_|refine zE rfl ?_|refine zF ?_|refine zG ?_|refine zH ?_|refine zI ?_|refine zJ ?_|refine zK ?_|refine zL rfl ?_|refine zN rfl ?_)
        exact wp_ret (.inr ⟨by simp, done false H ⟨fun h => (by cases h), fun h => absurd h (not_right hx fun h => by have := (h.2 hin).1; have : x.core < 0 := hneg; omega)⟩⟩)
      repeat (first|refine zA ?_|refine zB rfl ?_|refine zC ?_|refine zD ?_|refine zE rfl ?_|refine zF ?_|refine zG ?_|refine zH ?_|refine zI ?_|refine zJ ?_|refine zK ?_|refine zL rfl ?_|refine zN rfl ?_)
      refine wp_load1 (id := q) (j := 2) H (cs := x.cs) (by repeat (first | exact List.Mem.head _ | apply List.Mem.tail)) rfl ?_
      repeat (first|refine zA ?_|refine zB rfl ?_|refine zC ?_|refine zD ?_|refine zE rfl ?_|refine zF ?_|refine zG ?_|refine zH ?_|refine zI ?_|refine zJ ?_|refine zK ?_|refine zL rfl ?_|refine zN rfl ?_)
      refine wp_geq (fun hbig => ?_) (fun hsm => ?_)
      · repeat (first|refine zA ?_|refine zB rfl ?_|refine zC ?_|refine zD ?_|refine zE rfl ?_|refine zF ?_|refine zG ?_|refine zH ?_|refine zI ?_|refine zJ ?_|refine zK ?_|refine zL rfl ?_|refine zN rfl ?_)
        exact wp_ret (.inr ⟨by simp, done false H ⟨fun h => (by cases h), fun h => absurd h (not_right hx fun h => by have := (h.2 hin).2.1; have : x.core ≥ cores := hbig; omega)⟩⟩)
      repeat (first|refine zA ?_|refine zB rfl ?_|refine zC ?_|refine zD ?_|refine zE rfl ?_|refine zF ?_|refine zG ?_|refine zH ?_|refine zI ?_|refine zJ ?_|refine zK ?_|refine zL rfl ?_|refine zN rfl ?_)
      refine wp_load1 (id := q) (j := 2) H (cs := x.cs) (by repeat (first | exact List.Mem.head _ | apply List.Mem.tail)) rfl ?_
      repeat (first|refine zA ?_|refine zB rfl ?_|refine zC ?_|refine zD ?_|refine zE rfl ?_|refine zF ?_|refine zG ?_|refine zH ?_|refine zI ?_|refine zJ ?_|refine zK ?_|refine zL rfl ?_|refine zN rfl ?_)
      refine wp_lookup H 0 undI rfl ?_
      have hget2 : (mget (mset Mp x.core (I ((if x.core ∈ (m2.take i).map Lv.core then 1 else 0) + 1))) x.core).getD (I 0) = I ((if x.core ∈ (m2.take i).map Lv.core then 1 else 0) + 1) := by rw [mget_mset, if_pos rfl]; rfl
      show wp EM (.gop (B false) false (.bin .gtr ((mget (mset Mp x.core (I ((if x.core ∈ (m2.take i).map Lv.core then 1 else 0) + 1))) x.core).getD (I 0)) (I 1)) _) _ _
      rw [hget2]
      repeat (first|refine zA ?_|refine zB rfl ?_|refine zC ?_|refine zD ?_|refine zE rfl ?_|refine zF ?_|refine zG ?_|refine zH ?_|refine zI ?_|refine zJ ?_|refine zK ?_|refine zL rfl ?_|refine zN rfl ?_)
      refine wp_gtr (fun htwo => ?_) (fun hone => ?_)
      · repeat (first|refine zA ?_|refine zB rfl ?_|refine zC ?_|refine zD ?_|refine zE rfl ?_|refine zF ?_|refine zG ?_|refine zH ?_|refine zI ?_|refine zJ ?_|refine zK ?_|refine zL rfl ?_|refine zN rfl ?_)
        refine wp_ret (.inr ⟨by simp, done false H ⟨fun h => (by cases h), fun h => absurd h (not_right hx fun h => ?_)⟩⟩)
        by_cases hc : x.core ∈ (m2.take i).map Lv.core
        · obtain ⟨y, hy, hyc⟩ := hcm.1 hc
          exact (h.2 hin).2.2 y hy hyc
        · rw [if_neg hc] at htwo; omega
      repeat (first|refine zA ?_|refine zB rfl ?_|refine zC ?_|refine zD ?_|refine zE rfl ?_|refine zF ?_|refine zG ?_|refine zH ?_|refine zI ?_|refine zJ ?_|refine zK ?_|refine zL rfl ?_|refine zN rfl ?_)
      have hc : ¬ x.core ∈ (m2.take i).map Lv.core := fun h => by rw [if_pos h] at hone; omega
      rw [if_neg hc] at H
      refine wp_ret ?_
      show wp EM _ _ _
      refine wp_ret ?_
      show wp EM _ _ _
      refine wp_add64 (by omega) (by omega) (wp_ret (.inl ⟨rfl, m2.length - (i + 1), by omega, i + 1, _, _, rfl, by omega, rfl, ?_, ?_, H.tl⟩))
      · intro j y hy hj
        by_cases hji : j = i
        · subst hji
          rw [hx] at hy
          cases hy
          exact ⟨hst, fun _ => ⟨hpos, hsm, fun y hy hyc => hc (hcm.2 ⟨y, hy, hyc⟩)⟩⟩
        · exact hr j y hy (by omega)
      · rw [em2]
        intro c
        rw [mget_mset, hs c]
        have hmm : c ∈ (m2.take (i + 1)).map Lv.core ↔ c ∈ (m2.take i).map Lv.core ∨ x.core = c := by
          rw [List.mem_map, List.mem_map]
          constructor
          · rintro ⟨y, hy, rfl⟩
            rcases (take_mem hx).1 hy with hy | rfl
            · exact .inl ⟨y, hy, rfl⟩
            · exact .inr rfl
          · rintro (⟨y, hy, rfl⟩ | rfl)
            · exact ⟨y, (take_mem hx).2 (.inl hy), rfl⟩
            · exact ⟨x, (take_mem hx).2 (.inr rfl), rfl⟩
        by_cases h1 : x.core = c
        · rw [if_pos h1, if_pos (hmm.2 (.inr h1))]; rfl
        · rw [if_neg h1]
          by_cases h2 : c ∈ (m2.take i).map Lv.core
          · rw [if_pos h2, if_pos (hmm.2 (.inl h2))]
          · rw [if_neg h2, if_neg fun h => by rcases hmm.1 h with h | h; exact h2 h; exact h1 h]
    · have hni : ¬ i < N := by omega
      refine wp_bind ?_
      repeat (first|refine zA ?_|refine zB rfl ?_|refine zC ?_|refine zD ?_|refine zE rfl ?_|refine zF ?_|refine zG ?_|refine zH ?_|refine zI ?_|refine zJ ?_|refine zK ?_|refine zL rfl ?_|refine zN rfl ?_)
      refine wp_ret ?_
      show wp EM _ _ _
      refine wp_ret ?_
      show wp EM _ _ _
      refine wp_add64 (by omega) (by omega) (wp_ret (.inl ⟨rfl, m2.length - (i + 1), by omega, i + 1, _, _, rfl, by omega, rfl, ?_, ?_, H.tl⟩))
      · intro j y hy hj
        by_cases hji : j = i
        · subst hji
          rw [hx] at hy
          cases hy
          exact ⟨hst, fun h => absurd h hni⟩
        · exact hr j y hy (by omega)
      · have : min (i + 1) N = min i N := by omega
        rw [this]; exact hs
  · repeat (first|refine zA ?_|refine zB rfl ?_|refine zC ?_|refine zD ?_|refine zE rfl ?_|refine zF ?_|refine zG ?_|refine zH ?_|refine zI ?_|refine zJ ?_|refine zK ?_|refine zL rfl ?_|refine zN rfl ?_)
    refine wp_ret (.inr ⟨by simp, ?_⟩)
    show wp EM _ _ _
    exact wp_ret (done true H ⟨fun _ j y hy => hr j y hy (by have := (List.getElem?_eq_some_iff.1 hy).1; omega), fun _ => rfl⟩)
end
end Go.Abs
namespace Go.Abs.Tsk
open Go.Proofs
set_option maxRecDepth 100000

structure Tk where
  kind : Int
  prio : Int
  every : Int
  first : Int
def Tk.cs (x : Tk) : List AV := [I x.kind, I x.prio, I x.every, I x.first]
def tks (l : List Tk) : List (List AV) := l.map Tk.cs
theorem tks_len (l : List Tk) : (tks l).length = l.length := List.length_map ..
theorem tks_get {l : List Tk} {i : Nat} (hi : i < l.length) : (tks l)[i]? = some (l[i].cs) := by simp [tks, hi]

/-- why a task may not be -/
def tone (x : Tk) : Int := if x.kind ≠ 1 ∧ x.kind ≠ 2 then 5 else
  if x.prio < 0 ∨ 254 < x.prio ∨ x.every < 0 ∨ (x.kind = 1 ∧ x.every < 1) ∨ 1099511627776 < x.every ∨ x.first < 0 ∨ 1099511627776 < x.first ∨ (x.kind = 2 ∧ x.first ≠ 0) then 3 else 0

set_option maxHeartbeats 4000000 in
theorem one_ok {S : AH} {x : Tk} : wpC EM (.fn (.func 66) [] []) [.agg x.cs] S fun r S' => r = I (tone x) ∧ Grows S S' := by
  refine wpC_fn (b := Try.a66) rfl rfl ?_
  have H : Cx S [] S [] [] := Cx.enter (by simp)
  unfold Try.a66
  refine wp_box H rfl fun b S1 H => ?_
  repeat' (first | (first|refine zA ?_|refine zB rfl ?_|refine zC ?_|refine zD ?_|refine zE rfl ?_|refine zF ?_|refine zG ?_|refine zH ?_|refine zI ?_|refine zJ ?_|refine zK ?_|refine zL rfl ?_|refine zN rfl ?_) | refine wp_bind ?_ | refine wp_load1 H (by repeat (first | exact List.Mem.head _ | apply List.Mem.tail)) rfl ?_ | (refine wp_ret ?_; show wp EM _ _ _) | refine wp_lss (fun _ => ?_) (fun _ => ?_) | refine wp_gtr (fun _ => ?_) (fun _ => ?_) | refine wp_leq (fun _ => ?_) (fun _ => ?_) | refine wp_geq (fun _ => ?_) (fun _ => ?_) | refine wp_eql (fun _ => ?_) (fun _ => ?_) | refine wp_neq (fun _ => ?_) (fun _ => ?_))
  all_goals first
    | exact wp_ret ⟨rfl, congrArg I (by unfold tone; split <;> (try split) <;> omega), H.grows⟩
end Go.Abs.Tsk
namespace Go.Abs.Tsk
open Go.Proofs
set_option maxRecDepth 100000
def tfirst : List Tk → Int
  | [] => 0
  | x :: l => if tone x = 0 then tfirst l else tone x
def tchk (l : List Tk) : Int := if 32 < l.length then 4 else tfirst l
theorem tfirst_drop {l : List Tk} {i : Nat} (hi : i < l.length) : tfirst (l.drop i) = if tone l[i] = 0 then tfirst (l.drop (i + 1)) else tone l[i] := by
  rw [List.drop_eq_getElem_cons hi]; rfl

theorem check_ok {S : AH} {v : AV} {l : List Tk} (hv : RoSl S v 4 (tks l)) : wpC EM (.fn (.func 52) [] []) [v] S fun r S' => r = I (tchk l) ∧ Grows S S' := by
  refine wpC_fn (b := Try.a52) rfl rfl ?_
  have H := Cx.ro1 hv
  unfold Try.a52
  refine wp_len H (by repeat (first | exact List.Mem.head _ | apply List.Mem.tail)) ?_
  rw [tks_len]
  unfold tchk
  refine wp_gtr (fun hlt => ?_) (fun hge => ?_)
  · repeat (first|refine zA ?_|refine zB rfl ?_|refine zC ?_|refine zD ?_|refine zE rfl ?_|refine zF ?_|refine zG ?_|refine zH ?_|refine zI ?_|refine zJ ?_|refine zK ?_|refine zL rfl ?_|refine zN rfl ?_)
    refine wp_ret ⟨rfl, ?_, H.grows⟩
    rw [if_pos (by omega)]; rfl
  · rw [if_neg (by omega)]
    repeat (first|refine zA ?_|refine zB rfl ?_|refine zC ?_|refine zD ?_|refine zE rfl ?_|refine zF ?_|refine zG ?_|refine zH ?_|refine zI ?_|refine zJ ?_|refine zK ?_|refine zL rfl ?_|refine zN rfl ?_)
    refine wp_len H (by repeat (first | exact List.Mem.head _ | apply List.Mem.tail)) ?_
    rw [tks_len]
    refine wp_bind (wp_loop (wpL_for l.length (fun i vs S1 => ∃ u : AV, vs = [I (i : Int), u] ∧ tfirst (l.drop i) = tfirst l ∧ Cx S [] S1 [] [.sl v 4 (tks l)]) ?_ ?_ ⟨_, rfl, rfl, H⟩))
    · rintro i vs S1 hlt ⟨u, rfl, hc, H⟩
      rw [tfirst_drop hlt] at hc
      refine wp_lss_t (by omega) ?_
      repeat (first|refine zA ?_|refine zB rfl ?_|refine zC ?_|refine zD ?_|refine zE rfl ?_|refine zF ?_|refine zG ?_|refine zH ?_|refine zI ?_|refine zJ ?_|refine zK ?_|refine zL rfl ?_|refine zN rfl ?_)
      refine wp_bind ?_
      refine wp_saddr (i := i) H (by repeat (first | exact List.Mem.head _ | apply List.Mem.tail)) (tks_get hlt) fun p off H => ?_
      refine wp_loada H (cs := l[i].cs) (by repeat (first | exact List.Mem.head _ | apply List.Mem.tail)) (Nat.le_of_ble_eq_true rfl) ?_
      refine wp_alloc H fun b S3 H => ?_
      refine wp_store H 0 rfl rfl rfl (Nat.le_of_ble_eq_true rfl) fun S4 H => ?_
      replace H : Cx S [] S4 [] [.pt b 0 l[i].cs, .pt p off l[i].cs, .sl v 4 (tks l)] := H.freeze (i := 0) (c := l[i].cs) rfl
      refine wp_loada H (cs := l[i].cs) (by repeat (first | exact List.Mem.head _ | apply List.Mem.tail)) (Nat.le_of_ble_eq_true rfl) ?_
      refine wp_callV H one_ok fun S5 H => ?_
      refine wp_neq (fun hne => ?_) (fun he => ?_)
      · rw [if_neg hne] at hc
        repeat (first|refine zA ?_|refine zB rfl ?_|refine zC ?_|refine zD ?_|refine zE rfl ?_|refine zF ?_|refine zG ?_|refine zH ?_|refine zI ?_|refine zJ ?_|refine zK ?_|refine zL rfl ?_|refine zN rfl ?_)
        exact wp_ret (.inr ⟨by simp, rfl, by rw [← hc]; rfl, H.grows⟩)
      · rw [if_pos he] at hc
        repeat (first|refine zA ?_|refine zB rfl ?_|refine zC ?_|refine zD ?_|refine zE rfl ?_|refine zF ?_|refine zG ?_|refine zH ?_|refine zI ?_|refine zJ ?_|refine zK ?_|refine zL rfl ?_|refine zN rfl ?_)
        refine wp_ret ?_
        show wp EM _ _ _
        exact wp_add64 (by omega) (by omega) (wp_ret (.inl ⟨rfl, _, rfl, hc, H.tl.tl⟩))
    · rintro vs S1 ⟨u, rfl, hc, H⟩
      refine wp_lss_f (by omega) ?_
      repeat (first|refine zA ?_|refine zB rfl ?_|refine zC ?_|refine zD ?_|refine zE rfl ?_|refine zF ?_|refine zG ?_|refine zH ?_|refine zI ?_|refine zJ ?_|refine zK ?_|refine zL rfl ?_|refine zN rfl ?_)
      refine wp_ret ⟨by simp, wp_ret ⟨rfl, ?_, H.grows⟩⟩
      rw [List.drop_length] at hc
      rw [← hc]; rfl
/-! times -/
def timed (x : Tk) : Bool := decide (x.kind = 1 ∧ tone x = 0)
structure TOk (f e : Int) : Prop where
  f0 : 0 ≤ f
  f1 : f ≤ 1099511627776
  e0 : 1 ≤ e
  e1 : e ≤ 1099511627776
theorem timed_ok {x : Tk} (h : timed x = true) : TOk x.first x.every := by
  unfold timed at h
  have h := of_decide_eq_true h
  obtain ⟨h1, h2⟩ := h
  unfold tone at h2
  rw [if_neg (by omega)] at h2
  split at h2
  · cases h2
  · exact ⟨by omega, by omega, by omega, by omega⟩
def cl (f e : Int) : AV := .agg [I f, I e]
def many (f e : Int) : Int := (1099511627776 - f) / e + 1
theorem many_bd {f e : Int} (h : TOk f e) : 1 ≤ many f e ∧ many f e ≤ 1099511627777 := by
  obtain ⟨h1, h2, h3, h4⟩ := h
  have a : 0 ≤ (1099511627776 - f) / e := Int.ediv_nonneg (by omega) (by omega)
  have b : (1099511627776 - f) / e ≤ 1099511627776 - f := Int.ediv_le_self _ (by omega)
  unfold many
  omega
/-- the number of the first time that is not below a moment -/
def num (f e now : Int) : Int := if now ≤ f then 0 else (now - f) / e + (if (now - f) % e = 0 then 0 else 1)
theorem num_ceil {f e now : Int} (he : 1 ≤ e) (hn : f < now) : num f e now = (now - f + e - 1) / e := by
  unfold num
  rw [if_neg (by omega)]
  have h1 := Int.emod_add_mul_ediv (now - f) e
  have h2 := Int.emod_nonneg (now - f) (by omega : e ≠ 0)
  have h3 := Int.emod_lt_of_pos (now - f) (by omega : 0 < e)
  generalize (now - f) % e = r at h1 h2 h3 ⊢
  generalize (now - f) / e = q at h1 ⊢
  symm
  split
  · rename_i hr
    have : now - f + e - 1 = (e - 1) + e * q := by rw [hr] at h1; omega
    rw [this, Int.add_mul_ediv_left _ _ (by omega), Int.ediv_eq_zero_of_lt (by omega) (by omega)]
    omega
  · have : now - f + e - 1 = (r - 1) + e * (q + 1) := by rw [Int.mul_add]; omega
    rw [this, Int.add_mul_ediv_left _ _ (by omega), Int.ediv_eq_zero_of_lt (by omega) (by omega)]
    omega
theorem num_bd {f e now : Int} (he : 1 ≤ e) : 0 ≤ num f e now ∧ (f < now → num f e now ≤ now - f) := by
  by_cases h : now ≤ f
  · unfold num; rw [if_pos h]; constructor <;> omega
  · rw [num_ceil he (by omega)]
    refine ⟨Int.ediv_nonneg (by omega) (by omega), fun _ => ?_⟩
    have : (now - f + e - 1) / e < now - f + 1 := Int.ediv_lt_of_lt_mul (by omega) (by
      have : (now - f + 1) * e = (now - f) * e + e := by rw [Int.add_mul]; omega
      have h2 : (now - f) * 1 ≤ (now - f) * e := Int.mul_le_mul_of_nonneg_left he (by omega)
      omega)
    omega
def since (f e now : Int) : Int := if now ≤ f then 0 else if 1099511627776 < now then many f e else min (many f e) (num f e now)
/-- behind the last moment there is none -/
theorem num_most {f e : Int} (h : TOk f e) : num f e (1099511627776 + 1) = many f e := by
  obtain ⟨h1, h2, h3, h4⟩ := h
  rw [num_ceil h3 (by omega)]
  unfold many
  have : 1099511627776 + 1 - f + e - 1 = (1099511627776 - f) + e * 1 := by omega
  rw [this, Int.add_mul_ediv_left _ _ (by omega)]
theorem since_eq {f e now : Int} (h : TOk f e) : since f e now = min (many f e) (num f e (min now (1099511627776 + 1))) := by
  have hm := num_most h
  have hb := many_bd h
  unfold since
  split
  · rename_i hn
    have : num f e (min now (1099511627776 + 1)) = 0 := by unfold num; rw [if_pos (by have := h.f1; omega)]
    rw [this]; omega
  · split
    · rw [show min now (1099511627776 + 1) = 1099511627776 + 1 by omega, hm]; omega
    · rw [show min now (1099511627776 + 1) = now by omega]
theorem since_bd {f e now : Int} (h : TOk f e) : 0 ≤ since f e now ∧ since f e now ≤ many f e := by
  have := many_bd h
  have := (num_bd (f := f) (now := min now (1099511627776 + 1)) h.e0).1
  rw [since_eq h]; omega
end Go.Abs.Tsk
namespace Go.Abs
open Go.Proofs
set_option maxRecDepth 100000
set_option linter.unusedVariables false
section
variable {M : Mach} {B0 S : AH} {W : List Nat} {own : List Own} {ro : List Fct} {Q : Post} {k : AV → AC} {kc : AC}
/-! ### loads of what is known, by a whole offset -/
theorem wp_ld (H : Cx B0 W S own ro) {id o : Nat} {cs : List AV} {v : AV} (hm : Fct.pt id 0 cs ∈ ro) (hj : cs[o]? = some v) (h : wp M (k v) S Q) : wp M (.op (.load 1 false (.ptr id o)) k) S Q := by
  have := wp_load1 (M := M) (k := k) (off := 0) (j := o) H hm hj h
  rwa [show Nat.add 0 o = o from Nat.zero_add o] at this
theorem wp_ldn (H : Cx B0 W S own ro) {id o n : Nat} {cs : List AV} (hm : Fct.pt id 0 cs ∈ ro) (hj : Nat.ble (o + n) cs.length = true) (h : wp M (k (.agg ((cs.drop o).take n))) S Q) : wp M (.op (.load n true (.ptr id o)) k) S Q := by
  have := wp_loadn (M := M) (k := k) (off := 0) (j := o) H hm (Nat.le_of_ble_eq_true hj) h
  rwa [show Nat.add 0 o = o from Nat.zero_add o] at this
/-- a copy that nobody turns -/
theorem wp_tmpN (H : Cx B0 W S own ro) {z : List AV} {n : Nat} {v : AV} (ho : odd v = false) (hz : z.length = n) (hn : v.cells.length = n) (h : ∀ id S1, Cx B0 W S1 own (.pt id 0 v.cells :: ro) → wp M (k (.ptr id 0)) S1 Q) :
    wp M (.op (.alloc z) fun p => .op (.store n p v) fun _ => k p) S Q := by
  refine wp_alloc H fun id S1 H1 => ?_
  refine wp_store H1 0 (c := z) rfl ho hn (by omega) fun S2 H2 => ?_
  have e : setRange z 0 v.cells = v.cells := by
    rw [setRange_eq, List.take_zero, List.nil_append, Nat.zero_add, List.drop_eq_nil_of_le (by omega), List.append_nil]
  have H2 : Cx B0 W S2 (.obj id (.row (setRange z 0 v.cells)) :: own) ro := H2
  rw [e] at H2
  exact h id S2 (H2.freeze (i := 0) rfl)
theorem wp_notT (h : wp M (k (B false)) S Q) : wp M (.op (.un .not (B true)) k) S Q := wp_op (v := B false) rfl h
theorem wp_notF (h : wp M (k (B true)) S Q) : wp M (.op (.un .not (B false)) k) S Q := wp_op (v := B true) rfl h
theorem wp_not {b : Bool} (h : wp M (k (B (!b))) S Q) : wp M (.op (.un .not (B b)) k) S Q := wp_op (v := B (!b)) rfl h
end
open Tsk (Tk tks tchk)
/-! ### setups -/
structure Su where
  cores : Int
  jobs : Int
  nodes : Int
  height : Int
  room : Int
  limit : Int
def Su.cs (s : Su) (v : AV) : List AV := [I s.cores, I s.jobs, I s.nodes, I s.height, I s.room, I s.limit, v]
def Su.fine (s : Su) : Prop := 1 ≤ s.cores ∧ s.cores ≤ 64 ∧ 1 ≤ s.jobs ∧ s.jobs ≤ 64 ∧ s.jobs + 1 ≤ s.nodes ∧ s.nodes ≤ 128 ∧ 1 ≤ s.height ∧ s.height ≤ 4 ∧ 1 ≤ s.room ∧ s.room ≤ 16 ∧ 1 ≤ s.limit ∧ s.limit ≤ 4294967295
instance (s : Su) : Decidable s.fine := inferInstanceAs (Decidable (_ ∧ _))
def Su.chk (s : Su) (l : List Tk) : Int := if s.fine then (if tchk l ≠ 0 then tchk l else if l.length = 0 then 2 else 0) else 3
def Su.bd (s : Su) : List (Int × Int × Int) := [(s.cores, 1, 64), (s.jobs, 1, 64), (s.nodes, min s.jobs 64 + 1, 128), (s.height, 1, 4), (s.room, 1, 16), (s.limit, 1, 4294967295)]
theorem Su.bd_all (s : Su) : (∀ b ∈ s.bd, b.2.1 ≤ b.1 ∧ b.1 ≤ b.2.2) ↔ s.fine := by
  simp only [Su.bd, List.mem_cons, List.not_mem_nil, or_false, forall_eq_or_imp, forall_eq]
  unfold Su.fine
  omega
def bstr : List (List Nat) := [[99, 111, 114, 101, 115], [106, 111, 98, 115], [110, 111, 100, 101, 115], [104, 101, 105, 103, 104, 116], [114, 111, 111, 109], [108, 105, 109, 105, 116]]
theorem e_min2 (a b : Int) : minmax1 false (I a) (I b) = some (I (min a b)) := by
  show some (AV.sc (.int .i64 (if ltF b a then b else a))) = _
  rw [ltF_eq]
  by_cases h : b < a
  · rw [decide_eq_true h, Int.min_eq_right (by omega)]; rfl
  · rw [decide_eq_false h, Int.min_eq_left (by omega)]; rfl
theorem e_max2 (a b : Int) : minmax1 true (I a) (I b) = some (I (max a b)) := by
  show some (AV.sc (.int .i64 (if ltF a b then b else a))) = _
  rw [ltF_eq]
  by_cases h : a < b
  · rw [decide_eq_true h, Int.max_eq_right (by omega)]; rfl
  · rw [decide_eq_false h, Int.max_eq_left (by omega)]; rfl
section
variable {M : Mach} {B0 S : AH} {W : List Nat} {own : List Own} {ro : List Fct} {Q : Post} {k : AV → AC} {kc : AC}
theorem wp_min2' {a b : Int} (h : wp M (k (I (min a b))) S Q) : wp M (.op (.minmax false [I a, I b]) k) S Q := wp_op (v := I (min a b)) (by
  show pur (minmax1 false (I a) (I b) >>= fun x => some x) S = _
  rw [e_min2]; rfl) h
theorem wp_max2' {a b : Int} (h : wp M (k (I (max a b))) S Q) : wp M (.op (.minmax true [I a, I b]) k) S Q := wp_op (v := I (max a b)) (by
  show pur (minmax1 true (I a) (I b) >>= fun x => some x) S = _
  rw [e_max2]; rfl) h
/-- one's own first row, written -/
theorem wp_st (H : Cx B0 W S own ro) (i : Nat) {id off n : Nat} {c : List AV} {v : AV} (hi : own[i]? = some (.obj id (.row c))) (ho : odd v = false) (hn : v.cells.length = n) (hl : Nat.ble (off + n) c.length = true)
    (h : ∀ S1, Cx B0 W S1 (own.set i (.obj id (.row (setRange c off v.cells)))) ro → wp M (k uv) S1 Q) : wp M (.op (.store n (.ptr id off) v) k) S Q :=
  wp_store H i hi ho hn (Nat.le_of_ble_eq_true hl) h
theorem wp_cko (H : Cx B0 W S own ro) (i : Nat) {id o : Nat} {c : List AV} {v : AV} (hi : own[i]? = some (.obj id (.row c))) (hj : c[o]? = some v) (hb : AV.beq v v = true) (h : wp M kc S Q) : wp M (.chk (.load 1 false (.ptr id o)) v kc) S Q := by
  refine wp_chk (v' := v) ?_ hb h
  show (match S.cells? id with | some c => mkPart false c o 1 | none => none) = _
  rw [row_cells (H.oh _ (List.mem_of_getElem? hi))]
  exact mkPart_one hj
end
theorem bounds6_ok {S : AH} {s : Su} {v : AV} {l : List Tk} (hj : -9223372036854775808 ≤ s.jobs) (hv : RoSl S v 4 (tks l)) : wpC EM (.fn (.func 51) [] []) [.agg (s.cs v)] S fun r S' => (∃ cs : List AV, r = .agg cs ∧ ∀ i, i < 6 → ∃ x b, (cs.drop (i * 4)).take 4 = [x, I b.1, I b.2.1, I b.2.2] ∧ odd x = false ∧ x.cells = [x] ∧ s.bd[i]? = some b) ∧ Grows S S' := by
  refine wpC_fn (b := Try.a51) rfl rfl ?_
  have H := Cx.ro1 hv
  unfold Try.a51 Try.a51x3 Try.a51x2 Try.a51x1 Try.a51x0
  refine wp_fin ?_
  refine wp_box H rfl fun p S1 H => ?_
  refine wp_alloc H fun q S2 H => ?_
  repeat' (first | (first|refine zA ?_|refine zB rfl ?_|refine zC ?_|refine zD ?_|refine zE rfl ?_|refine zF ?_|refine zG ?_|refine zH ?_|refine zI ?_|refine zJ ?_|refine zK ?_|refine zL rfl ?_|refine zN rfl ?_) | refine wp_ld (by assumption) (by repeat (first | exact List.Mem.head _ | apply List.Mem.tail)) rfl ?_ | refine wp_op (o := .build _ _) rfl ?_ | refine wp_min2 ?_ | refine wp_add64 (by omega) (by omega) ?_)
  refine wp_st H 0 rfl rfl rfl rfl fun S3 H => ?_
  refine wp_ret ⟨.inr rfl, ?_⟩
  refine wp_loadoa (n := 24) H 0 rfl (Nat.le_of_ble_eq_true rfl) ?_
  refine wp_ret ⟨rfl, ⟨_, rfl, ?_⟩, H.grows⟩
  intro i hi
  match i, hi with
  | 0, _ => exact ⟨_, _, rfl, rfl, rfl, rfl⟩
  | 1, _ => exact ⟨_, _, rfl, rfl, rfl, rfl⟩
  | 2, _ => exact ⟨_, _, rfl, rfl, rfl, rfl⟩
  | 3, _ => exact ⟨_, _, rfl, rfl, rfl, rfl⟩
  | 4, _ => exact ⟨_, _, rfl, rfl, rfl, rfl⟩
  | 5, _ => exact ⟨_, _, rfl, rfl, rfl, rfl⟩
  | j + 6, h => exact absurd h (by omega)
section
variable {B0 S : AH} {W : List Nat} {own : List Own} {ro : List Fct} {Q : Post} {k : AV → AC}
theorem wp_aidxA {len es i : Nat} {cs l : List AV} (hi : i < len) (hl : i * es + es ≤ cs.length) (he : (cs.drop (i * es)).take es = l) (h : wp EM (k (.agg l)) S Q) : wp EM (.op (.aidx len es true (.agg cs) (I (i : Int))) k) S Q := by
  refine wp_op (v := .agg l) ?_ h
  have h3 : idx? (I (i : Int)) len = some i := by
    show below i len = some i
    unfold below; rw [ble_t (by omega)]
  show pur (pAidx len es true (.agg cs) (I (i : Int))) S = _
  have : pAidx len es true (.agg cs) (I (i : Int)) = some (.agg l) := by
    show (match idx? (I (i : Int)) len with | some i => mkPart true cs (Nat.mul i es) es | none => none) = _
    rw [h3]
    simp only
    rw [mkPart_agg (by show Nat.mul i es + es ≤ _; exact hl)]
    show some (AV.agg ((cs.drop (i * es)).take es)) = _
    rw [he]
  rw [this]; rfl
theorem checkE_ok {s : Su} {v : AV} {l : List Tk} (hj : -9223372036854775808 ≤ s.jobs) (hv : Fct.sl v 4 (tks l) ∈ ro) (H : Cx B0 W S own ro) : wpC EM (.fn (.func 35) [] []) [.agg (s.cs v)] S fun r S' => r = I (s.chk l) ∧ Grows S S' := by
  refine wpC_fn (b := Try.a35) rfl rfl ?_
  have hv0 : RoSl S v 4 (tks l) := H.roSl hv
  clear H
  have H := Cx.ro1 hv0
  unfold Try.a35 Try.a35x5 Try.a35x4 Try.a35x3 Try.a35x2 Try.a35x1 Try.a35x0
  refine wp_box H rfl fun p S1 H => ?_
  refine wp_ldn H (by repeat (first | exact List.Mem.head _ | apply List.Mem.tail)) rfl ?_
  refine wp_callG H (bounds6_ok (s := s) hj (H.roSl (show Fct.sl v 4 (tks l) ∈ _ by repeat (first | exact List.Mem.head _ | apply List.Mem.tail)))) fun r S2 ⟨cs, hr, hcs⟩ H => ?_
  subst hr
  refine wp_bind (wp_loop (wpL_inv (fun m vs S1 => ∃ (i : Nat), vs = [I (i : Int), I 0] ∧ i ≤ 6 ∧ m = 6 - i ∧ (∀ b ∈ s.bd.take i, b.2.1 ≤ b.1 ∧ b.1 ≤ b.2.2) ∧ Cx S [] S1 [] [.pt p 0 (s.cs v), .sl v 4 (tks l)]) ?_ 6 ⟨0, rfl, by omega, by omega, by simp, H⟩))
  clear H
  rintro m vs S5 ⟨i, rfl, hi, rfl, hall, H⟩
  refine wp_lss (fun hlt => ?_) (fun hge => ?_)
  · have hlt : i < 6 := by omega
    obtain ⟨x, b, h1, hx1, hx2, h2⟩ := hcs i hlt
    have hcl : i * 4 + 4 ≤ cs.length := by
      have := congrArg List.length h1
      rw [List.length_take, List.length_drop] at this
      simp at this; omega
    repeat (first|refine zA ?_|refine zB rfl ?_|refine zC ?_|refine zD ?_|refine zE rfl ?_|refine zF ?_|refine zG ?_|refine zH ?_|refine zI ?_|refine zJ ?_|refine zK ?_|refine zL rfl ?_|refine zN rfl ?_)
    refine wp_bind ?_
    refine wp_aidxA hlt hcl h1 ?_
    refine wp_tmpN H rfl rfl rfl fun q S6 H => ?_
    have H : Cx S [] S6 [] [.pt q 0 [x, I b.1, I b.2.1, I b.2.2], .pt p 0 (s.cs v), .sl v 4 (tks l)] := H
    have hbl : s.bd.length = 6 := rfl
    have hb : s.bd[i]'(by rw [hbl]; exact hlt) = b := by
      have := (List.getElem?_eq_some_iff.1 h2).2; exact this
    have out : ¬ (b.2.1 ≤ b.1 ∧ b.1 ≤ b.2.2) → I 3 = I (s.chk l) := fun hn => by
      unfold Su.chk
      rw [if_neg fun hf => hn ((s.bd_all).2 hf b (List.mem_of_getElem? h2))]
    repeat (first|refine zA ?_|refine zB rfl ?_|refine zC ?_|refine zD ?_|refine zE rfl ?_|refine zF ?_|refine zG ?_|refine zH ?_|refine zI ?_|refine zJ ?_|refine zK ?_|refine zL rfl ?_|refine zN rfl ?_)
    refine wp_ld H (by repeat (first | exact List.Mem.head _ | apply List.Mem.tail)) rfl ?_
    repeat (first|refine zA ?_|refine zB rfl ?_|refine zC ?_|refine zD ?_|refine zE rfl ?_|refine zF ?_|refine zG ?_|refine zH ?_|refine zI ?_|refine zJ ?_|refine zK ?_|refine zL rfl ?_|refine zN rfl ?_)
    refine wp_ld H (by repeat (first | exact List.Mem.head _ | apply List.Mem.tail)) rfl ?_
    refine wp_lss (fun h0 => ?_) (fun h0 => ?_)
    · repeat (first|refine zA ?_|refine zB rfl ?_|refine zC ?_|refine zD ?_|refine zE rfl ?_|refine zF ?_|refine zG ?_|refine zH ?_|refine zI ?_|refine zJ ?_|refine zK ?_|refine zL rfl ?_|refine zN rfl ?_)
      refine wp_ret (.inr ⟨by simp, rfl, out (by omega), H.grows⟩)
    repeat (first|refine zA ?_|refine zB rfl ?_|refine zC ?_|refine zD ?_|refine zE rfl ?_|refine zF ?_|refine zG ?_|refine zH ?_|refine zI ?_|refine zJ ?_|refine zK ?_|refine zL rfl ?_|refine zN rfl ?_)
    refine wp_ld H (by repeat (first | exact List.Mem.head _ | apply List.Mem.tail)) rfl ?_
    repeat (first|refine zA ?_|refine zB rfl ?_|refine zC ?_|refine zD ?_|refine zE rfl ?_|refine zF ?_|refine zG ?_|refine zH ?_|refine zI ?_|refine zJ ?_|refine zK ?_|refine zL rfl ?_|refine zN rfl ?_)
    refine wp_ld H (by repeat (first | exact List.Mem.head _ | apply List.Mem.tail)) rfl ?_
    repeat (first|refine zA ?_|refine zB rfl ?_|refine zC ?_|refine zD ?_|refine zE rfl ?_|refine zF ?_|refine zG ?_|refine zH ?_|refine zI ?_|refine zJ ?_|refine zK ?_|refine zL rfl ?_|refine zN rfl ?_)
    refine wp_gtr (fun h3 => ?_) (fun h3 => ?_)
    · repeat (first|refine zA ?_|refine zB rfl ?_|refine zC ?_|refine zD ?_|refine zE rfl ?_|refine zF ?_|refine zG ?_|refine zH ?_|refine zI ?_|refine zJ ?_|refine zK ?_|refine zL rfl ?_|refine zN rfl ?_)
      refine wp_ret (.inr ⟨by simp, rfl, out (by omega), H.grows⟩)
    repeat (first|refine zA ?_|refine zB rfl ?_|refine zC ?_|refine zD ?_|refine zE rfl ?_|refine zF ?_|refine zG ?_|refine zH ?_|refine zI ?_|refine zJ ?_|refine zK ?_|refine zL rfl ?_|refine zN rfl ?_)
    refine wp_ret ?_
    show wp EM _ _ _
    refine wp_add64 (by omega) (by omega) (wp_ret (.inl ⟨rfl, 6 - (i + 1), by omega, i + 1, rfl, by omega, rfl, ?_, H.tl⟩))
    rw [List.take_succ_eq_append_getElem (by rw [hbl]; exact hlt)]
    intro a ha
    rcases List.mem_append.1 ha with ha | ha
    · exact hall a ha
    · rw [List.mem_singleton.1 ha, hb]; exact ⟨h0, h3⟩
  · have : i = 6 := by omega
    subst this
    repeat (first|refine zA ?_|refine zB rfl ?_|refine zC ?_|refine zD ?_|refine zE rfl ?_|refine zF ?_|refine zG ?_|refine zH ?_|refine zI ?_|refine zJ ?_|refine zK ?_|refine zL rfl ?_|refine zN rfl ?_)
    refine wp_ret (.inr ⟨by simp, ?_⟩)
    show wp EM _ _ _
    rw [List.take_of_length_le (by show s.bd.length ≤ 6; exact Nat.le_refl 6)] at hall
    have hf := (s.bd_all).1 hall
    repeat (first|refine zA ?_|refine zB rfl ?_|refine zC ?_|refine zD ?_|refine zE rfl ?_|refine zF ?_|refine zG ?_|refine zH ?_|refine zI ?_|refine zJ ?_|refine zK ?_|refine zL rfl ?_|refine zN rfl ?_)
    refine wp_ld H (by repeat (first | exact List.Mem.head _ | apply List.Mem.tail)) rfl ?_
    refine wp_callV H (Tsk.check_ok (l := l) (H.roSl (by repeat (first | exact List.Mem.head _ | apply List.Mem.tail)))) fun S6 H => ?_
    unfold Su.chk
    rw [if_pos hf]
    refine wp_neq (fun hne => ?_) (fun hz => ?_)
    · repeat (first|refine zA ?_|refine zB rfl ?_|refine zC ?_|refine zD ?_|refine zE rfl ?_|refine zF ?_|refine zG ?_|refine zH ?_|refine zI ?_|refine zJ ?_|refine zK ?_|refine zL rfl ?_|refine zN rfl ?_)
      rw [if_pos hne]
      exact wp_ret ⟨rfl, rfl, H.grows⟩
    repeat (first|refine zA ?_|refine zB rfl ?_|refine zC ?_|refine zD ?_|refine zE rfl ?_|refine zF ?_|refine zG ?_|refine zH ?_|refine zI ?_|refine zJ ?_|refine zK ?_|refine zL rfl ?_|refine zN rfl ?_)
    rw [if_neg (by omega)]
    refine wp_ld H (by repeat (first | exact List.Mem.head _ | apply List.Mem.tail)) rfl ?_
    refine wp_len H (by repeat (first | exact List.Mem.head _ | apply List.Mem.tail)) ?_
    rw [Tsk.tks_len]
    refine wp_eql (fun h0 => ?_) (fun hpos => ?_)
    · repeat (first|refine zA ?_|refine zB rfl ?_|refine zC ?_|refine zD ?_|refine zE rfl ?_|refine zF ?_|refine zG ?_|refine zH ?_|refine zI ?_|refine zJ ?_|refine zK ?_|refine zL rfl ?_|refine zN rfl ?_)
      rw [if_pos (by omega)]
      exact wp_ret ⟨rfl, rfl, H.grows⟩
    · repeat (first|refine zA ?_|refine zB rfl ?_|refine zC ?_|refine zD ?_|refine zE rfl ?_|refine zF ?_|refine zG ?_|refine zH ?_|refine zI ?_|refine zJ ?_|refine zK ?_|refine zL rfl ?_|refine zN rfl ?_)
      rw [if_neg (by omega)]
      exact wp_ret ⟨rfl, rfl, H.grows⟩
theorem tks_all (l : List Tk) : ∀ x ∈ tks l, x.length = 4 := by
  intro x hx
  obtain ⟨y, _, rfl⟩ := List.mem_map.1 hx
  rfl
/-- other tasks like them -/
theorem cloneT_ok {v : AV} {l : List Tk} (hv : RoSl S v 4 (tks l)) (hl : l.length ≤ 100000) : wpC EM (.fn (.func 36) [] []) [v] S fun r S' => Cx S [] S' [.sl r 4 (tks l)] [] := by
  refine wpC_fn (b := Try.a36) rfl rfl ?_
  have H := Cx.ro1 hv
  unfold Try.a36
  have some' : v ≠ Ns → evalOp EM.P (.eq 30 false v Ns) S = some (B false, S) := fun hne => by
    rcases hv.1 with ⟨rfl, _⟩ | ⟨id, off, c, (⟨_, _, _, rfl⟩ | ⟨_, _, _, rfl⟩), _⟩
    · exact absurd rfl hne
    · kernel_rfl
    · kernel_rfl
  by_cases hn : v = Ns
  · subst hn
    have h0 : tks l = [] := by
      rcases hv.1 with ⟨_, h⟩ | ⟨id, off, c, (⟨_, _, _, h⟩ | ⟨_, _, _, h⟩), _⟩
      · exact h
      · cases h
      · cases h
    refine wp_op (v := B true) (S1 := S) (by kernel_rfl) ?_
    repeat (first|refine zA ?_|refine zB rfl ?_|refine zC ?_|refine zD ?_|refine zE rfl ?_|refine zF ?_|refine zG ?_|refine zH ?_|refine zI ?_|refine zJ ?_|refine zK ?_|refine zL rfl ?_|refine zN rfl ?_)
    refine wp_ret ⟨rfl, ?_⟩
    rw [h0]
    rw [h0] at H
    exact (H.addNilS 4).tl
  · refine wp_op (some' hn) ?_
    repeat (first|refine zA ?_|refine zB rfl ?_|refine zC ?_|refine zD ?_|refine zE rfl ?_|refine zF ?_|refine zG ?_|refine zH ?_|refine zI ?_|refine zJ ?_|refine zK ?_|refine zL rfl ?_|refine zN rfl ?_)
    refine wp_bslice0 H rfl fun u S1 H => ?_
    refine wp_appendR (x := v) (N := tks l) H 0 rfl (by repeat (first | exact List.Mem.head _ | apply List.Mem.tail)) (tks_all l) (by rw [Tsk.tks_len]; unfold maxBytes; simp; omega) (by rw [Tsk.tks_len]; unfold maxLenN; simp; omega) fun v1 S2 H => ?_
    refine wp_ret ⟨rfl, ?_⟩
    exact H.tl
end
end Go.Abs
namespace Go.Abs
open Go.Proofs
set_option maxRecDepth 100000
theorem wrapU {n : Nat} (h : n < 18446744073709551616) : wrapF .u64 (n : Int) = (n : Int) := by
  rw [wrapF_eq]
  show (n : Int) % 18446744073709551616 = n
  omega
section
variable {M : Mach} {S : AH} {Q : Post} {k : AV → AC}
theorem wp_convU {n : Nat} (hn : n < 18446744073709551616) (h : wp M (k (U (n : Int))) S Q) : wp M (.op (.conv .u64 (I (n : Int))) k) S Q := wp_op (v := U (n : Int)) (by
  show pur (some (AV.sc (.int .u64 (wrapF .u64 (n : Int))))) S = _
  rw [wrapU hn]; rfl) h
theorem wp_shlU {κ : IntKind} {n s : Nat} (hs : s ≤ 64) (hn : n * 2 ^ s < 18446744073709551616) (h : wp M (k (U ((n * 2 ^ s : Nat) : Int))) S Q) : wp M (.op (.bin .shl (U (n : Int)) (Z κ (s : Int))) k) S Q := wp_op (v := U ((n * 2 ^ s : Nat) : Int)) (by
  show pur (if ltF (s : Int) 0 then none else some (AV.sc (.int .u64 (wrapF .u64 ((n : Int) * 2 ^ (min (s : Int).toNat IntKind.u64.bits)))))) S = _
  rw [ltF_eq, if_neg (by simp)]
  have e : min (s : Int).toNat IntKind.u64.bits = s := by show min (s : Int).toNat 64 = s; omega
  rw [e]
  have e2 : (n : Int) * 2 ^ s = ((n * 2 ^ s : Nat) : Int) := by simp
  rw [e2, wrapU hn]; rfl) h
theorem wp_orU {a b : Nat} (ha : a < 18446744073709551616) (hb : b < 18446744073709551616) (h : wp M (k (U ((a ||| b : Nat) : Int))) S Q) : wp M (.op (.bin .or (U (a : Int)) (U (b : Int))) k) S Q := wp_op (v := U ((a ||| b : Nat) : Int)) (by
  show pur (bOr (U (a : Int)) (U (b : Int))) S = _
  unfold bOr
  simp only [int2, asInt, vInt, kindEq_refl]
  have e : (BitVec.ofInt IntKind.u64.bits (a : Int) ||| BitVec.ofInt IntKind.u64.bits (b : Int)).toNat = a ||| b := by
    rw [BitVec.toNat_or]
    have x : ∀ n : Nat, n < 18446744073709551616 → (BitVec.ofInt IntKind.u64.bits (n : Int)).toNat = n := by
      intro n hn
      show (BitVec.ofInt 64 (n : Int)).toNat = n
      rw [BitVec.ofInt_natCast, BitVec.toNat_ofNat]
      exact Nat.mod_eq_of_lt hn
    rw [x a ha, x b hb]
  have hor : a ||| b < 18446744073709551616 := Nat.or_lt_two_pow (n := 64) ha hb
  show pur (some (AV.sc (.int .u64 (wrapF .u64 ((BitVec.ofInt IntKind.u64.bits (a : Int) ||| BitVec.ofInt IntKind.u64.bits (b : Int)).toNat : Nat))))) S = _
  rw [e, wrapU hor]; rfl) h
end
theorem or_hi {a b i : Nat} (hb : b < 2 ^ i) : a * 2 ^ i ||| b = a * 2 ^ i + b := by
  have := Nat.shiftLeft_add_eq_or_of_lt hb a
  rw [Nat.shiftLeft_eq] at this
  exact this.symm
theorem or_lo {a b i : Nat} (hb : b < 2 ^ i) : b ||| a * 2 ^ i = a * 2 ^ i + b := by rw [Nat.or_comm]; exact or_hi hb

/-- the word of a key -/
def kword (p s r : Int) : Int := p * 72057594037927936 + s * 65536 + r
def kok (p s r : Int) : Prop := (0 ≤ p ∧ p ≤ 254) ∧ (0 ≤ s ∧ s ≤ 1099511627775) ∧ (0 ≤ r ∧ r ≤ 65535)
instance (p s r : Int) : Decidable (kok p s r) := by unfold kok; infer_instance
def putk (p s r : Int) : AV := if kok p s r then .tup [U (kword p s r), I 0] else .tup [U 0, I 3]

end Go.Abs
namespace Go.Abs
open Go.Proofs
set_option maxRecDepth 100000
def inP (t : Int × Int × Int) : Prop := t.2.1 ≤ t.1 ∧ t.1 ≤ t.2.2
instance (t : Int × Int × Int) : Decidable (inP t) := by unfold inP; infer_instance
def prs (l : List (Int × Int × Int)) : List (List AV) := l.map fun t => [I t.1, I t.2.1, I t.2.2]
theorem prs_len (l : List (Int × Int × Int)) : (prs l).length = l.length := List.length_map ..
theorem prs_get {l : List (Int × Int × Int)} {i : Nat} (hi : i < l.length) : (prs l)[i]? = some [I l[i].1, I l[i].2.1, I l[i].2.2] := by simp [prs, hi]
theorem within_ok {S : AH} {v : AV} {l : List (Int × Int × Int)} (hv : RoSl S v 3 (prs l)) (hl : l.length < 1000) : wpC EM (.fn (.func 77) [] []) [v] S fun r S' => r = B (decide (∀ t ∈ l, inP t)) ∧ Grows S S' := by
  refine wpC_fn (b := Try.a77) rfl rfl ?_
  have H := Cx.ro1 hv
  unfold Try.a77 Try.a77x4 Try.a77x3 Try.a77x2 Try.a77x1 Try.a77x0
  refine wp_len H (by repeat (first | exact List.Mem.head _ | apply List.Mem.tail)) ?_
  rw [prs_len]
  refine wp_bind (wp_loop (wpL_for l.length (fun i vs S1 => ∃ u : AV, vs = [I (i : Int), u] ∧ (∀ t ∈ l.take i, inP t) ∧ Cx S [] S1 [] [.sl v 3 (prs l)]) ?_ ?_ ⟨_, rfl, by simp, H⟩))
  · rintro i vs S1 hlt ⟨u, rfl, hpre, H⟩
    refine wp_lss_t (by omega) ?_
    repeat (first|refine zA ?_|refine zB rfl ?_|refine zC ?_|refine zD ?_|refine zE rfl ?_|refine zF ?_|refine zG ?_|refine zH ?_|refine zI ?_|refine zJ ?_|refine zK ?_|refine zL rfl ?_|refine zN rfl ?_)
    refine wp_bind ?_
    refine wp_saddr (i := i) H (by repeat (first | exact List.Mem.head _ | apply List.Mem.tail)) (prs_get hlt) fun p off H => ?_
    refine wp_loada H (cs := [I l[i].1, I l[i].2.1, I l[i].2.2]) (by repeat (first | exact List.Mem.head _ | apply List.Mem.tail)) (Nat.le_of_ble_eq_true rfl) ?_
    refine wp_alloc H fun b S3 H => ?_
    refine wp_store H 0 rfl rfl rfl (Nat.le_of_ble_eq_true rfl) fun S4 H => ?_
    replace H : Cx S [] S4 [] [.pt b 0 [I l[i].1, I l[i].2.1, I l[i].2.2], .pt p off [I l[i].1, I l[i].2.1, I l[i].2.2], .sl v 3 (prs l)] := H.freeze (i := 0) (c := [I l[i].1, I l[i].2.1, I l[i].2.2]) rfl
    repeat (first|refine zA ?_|refine zB rfl ?_|refine zC ?_|refine zD ?_|refine zE rfl ?_|refine zF ?_|refine zG ?_|refine zH ?_|refine zI ?_|refine zJ ?_|refine zK ?_|refine zL rfl ?_|refine zN rfl ?_)
    refine wp_load1 H (cs := [I l[i].1, I l[i].2.1, I l[i].2.2]) (by repeat (first | exact List.Mem.head _ | apply List.Mem.tail)) rfl ?_
    repeat (first|refine zA ?_|refine zB rfl ?_|refine zC ?_|refine zD ?_|refine zE rfl ?_|refine zF ?_|refine zG ?_|refine zH ?_|refine zI ?_|refine zJ ?_|refine zK ?_|refine zL rfl ?_|refine zN rfl ?_)
    refine wp_load1 H (cs := [I l[i].1, I l[i].2.1, I l[i].2.2]) (by repeat (first | exact List.Mem.head _ | apply List.Mem.tail)) rfl ?_
    refine wp_lss (fun h1 => ?_) (fun h1 => ?_)
    · repeat (first|refine zA ?_|refine zB rfl ?_|refine zC ?_|refine zD ?_|refine zE rfl ?_|refine zF ?_|refine zG ?_|refine zH ?_|refine zI ?_|refine zJ ?_|refine zK ?_|refine zL rfl ?_|refine zN rfl ?_)
      refine wp_ret (.inr ⟨by simp, rfl, ?_, H.grows⟩)
      rw [decide_eq_false (fun h => by have := (h l[i] (List.getElem_mem hlt)).1; omega)]; rfl
    · repeat (first|refine zA ?_|refine zB rfl ?_|refine zC ?_|refine zD ?_|refine zE rfl ?_|refine zF ?_|refine zG ?_|refine zH ?_|refine zI ?_|refine zJ ?_|refine zK ?_|refine zL rfl ?_|refine zN rfl ?_)
      refine wp_load1 H (cs := [I l[i].1, I l[i].2.1, I l[i].2.2]) (by repeat (first | exact List.Mem.head _ | apply List.Mem.tail)) rfl ?_
      repeat (first|refine zA ?_|refine zB rfl ?_|refine zC ?_|refine zD ?_|refine zE rfl ?_|refine zF ?_|refine zG ?_|refine zH ?_|refine zI ?_|refine zJ ?_|refine zK ?_|refine zL rfl ?_|refine zN rfl ?_)
      refine wp_load1 H (cs := [I l[i].1, I l[i].2.1, I l[i].2.2]) (by repeat (first | exact List.Mem.head _ | apply List.Mem.tail)) rfl ?_
      repeat (first|refine zA ?_|refine zB rfl ?_|refine zC ?_|refine zD ?_|refine zE rfl ?_|refine zF ?_|refine zG ?_|refine zH ?_|refine zI ?_|refine zJ ?_|refine zK ?_|refine zL rfl ?_|refine zN rfl ?_)
      refine wp_gtr (fun h2 => ?_) (fun h2 => ?_)
      · repeat (first|refine zA ?_|refine zB rfl ?_|refine zC ?_|refine zD ?_|refine zE rfl ?_|refine zF ?_|refine zG ?_|refine zH ?_|refine zI ?_|refine zJ ?_|refine zK ?_|refine zL rfl ?_|refine zN rfl ?_)
        refine wp_ret (.inr ⟨by simp, rfl, ?_, H.grows⟩)
        rw [decide_eq_false (fun h => by have := (h l[i] (List.getElem_mem hlt)).2; omega)]; rfl
      · repeat (first|refine zA ?_|refine zB rfl ?_|refine zC ?_|refine zD ?_|refine zE rfl ?_|refine zF ?_|refine zG ?_|refine zH ?_|refine zI ?_|refine zJ ?_|refine zK ?_|refine zL rfl ?_|refine zN rfl ?_)
        refine wp_ret ?_
        show wp EM _ _ _
        refine wp_add64 (by omega) (by omega) (wp_ret (.inl ⟨rfl, _, rfl, fun t ht => ?_, H.tl.tl⟩))
        rw [List.take_succ_eq_append_getElem hlt, List.mem_append, List.mem_singleton] at ht
        rcases ht with ht | rfl
        · exact hpre t ht
        · exact ⟨h1, h2⟩
  · rintro vs S1 ⟨u, rfl, hpre, H⟩
    refine wp_lss_f (by omega) ?_
    repeat (first|refine zA ?_|refine zB rfl ?_|refine zC ?_|refine zD ?_|refine zE rfl ?_|refine zF ?_|refine zG ?_|refine zH ?_|refine zI ?_|refine zJ ?_|refine zK ?_|refine zL rfl ?_|refine zN rfl ?_)
    refine wp_ret ⟨by simp, wp_ret ⟨rfl, ?_, H.grows⟩⟩
    rw [List.take_length] at hpre
    rw [decide_eq_true hpre]; rfl
def keyTab : List AV := [I 0, I 16, I 16, I 40, I 56, I 8]
theorem keys_ok {S : AH} : wpC EM (.fn (.func 78) [] []) [] S fun r S' => r = .agg keyTab ∧ Grows S S' := by
  refine wpC_fn (b := Try.a78) rfl rfl ?_
  have H : Cx S [] S [] [] := Cx.enter (by simp)
  unfold Try.a78 Try.a78x0
  refine wp_fin ?_
  refine wp_alloc H fun b S1 H => ?_
  refine wp_op (v := .agg [I 0, I 16]) rfl ?_
  refine wp_op (v := .agg [I 16, I 40]) rfl ?_
  refine wp_op (v := .agg [I 56, I 8]) rfl ?_
  refine wp_op (v := .agg keyTab) rfl ?_
  refine wp_store (v := .agg keyTab) H 0 rfl rfl rfl (Nat.le_of_ble_eq_true rfl) fun S2 H => ?_
  refine wp_ret ⟨.inr rfl, ?_⟩
  refine wp_loadoa (n := 6) H 0 rfl (Nat.le_of_ble_eq_true rfl) ?_
  exact wp_ret ⟨rfl, rfl, H.grows⟩
theorem with_ok {S : AH} {w n s m : Nat} (hw : w < 18446744073709551616) (hn : n * 2 ^ s < 18446744073709551616) (hs : s ≤ 64) (hn0 : n < 18446744073709551616) : wpC EM (.fn (.func 94) [] []) [U (w : Int), .agg [I (s : Int), I (m : Int)], I (n : Int)] S fun r S' => r = U ((w ||| n * 2 ^ s : Nat) : Int) ∧ Grows S S' := by
  refine wpC_fn (b := Try.a94) rfl rfl ?_
  have H : Cx S [] S [] [] := Cx.enter (by simp)
  unfold Try.a94
  refine wp_box H rfl fun b S1 H => ?_
  replace H : Cx S [] S1 [] [.pt b 0 [I (s : Int), I (m : Int)]] := H
  refine wp_convU hn0 ?_
  repeat (first|refine zA ?_|refine zB rfl ?_|refine zC ?_|refine zD ?_|refine zE rfl ?_|refine zF ?_|refine zG ?_|refine zH ?_|refine zI ?_|refine zJ ?_|refine zK ?_|refine zL rfl ?_|refine zN rfl ?_)
  refine wp_load1 H (cs := [I (s : Int), I (m : Int)]) (by repeat (first | exact List.Mem.head _ | apply List.Mem.tail)) rfl ?_
  refine wp_shlU hs hn ?_
  refine wp_orU hw hn ?_
  exact wp_ret ⟨rfl, rfl, H.grows⟩
theorem lay_ok {S : AH} {v v' : AV} {r s p : Nat} (hv : RoSl S v 2 [[I 0, I 16], [I 16, I 40], [I 56, I 8]]) (hv' : RoSl S v' 1 [[I (r : Int)], [I (s : Int)], [I (p : Int)]]) (hr : r < 65536) (hs : s < 1099511627776) (hp : p < 256) :
    wpC EM (.fn (.func 79) [] []) [v, v'] S fun x S' => x = U (kword p s r) ∧ Grows S S' := by
  refine wpC_fn (b := Try.a79) rfl rfl ?_
  have H := Cx.ro2 hv hv'
  unfold Try.a79 Try.a79x3 Try.a79x2 Try.a79x1 Try.a79x0
  refine wp_len (v := v) (es := 2) (L := [[I 0, I 16], [I 16, I 40], [I 56, I 8]]) H (by repeat (first | exact List.Mem.head _ | apply List.Mem.tail)) ?_
  refine wp_bind (wp_loop (wpL_for 3 (fun i vs S1 => vs = [I (i : Int), U (((if i = 0 then 0 else if i = 1 then r else if i = 2 then s * 65536 + r else p * 72057594037927936 + s * 65536 + r) : Nat) : Int)] ∧ Cx S [] S1 [] [.sl v 2 [[I 0, I 16], [I 16, I 40], [I 56, I 8]], .sl v' 1 [[I (r : Int)], [I (s : Int)], [I (p : Int)]]]) ?_ ?_ ⟨rfl, H⟩))
  · rintro i vs S1 hlt ⟨rfl, H⟩
    refine wp_lss_t (by show (i : Int) < 3; omega) ?_
    repeat (first|refine zA ?_|refine zB rfl ?_|refine zC ?_|refine zD ?_|refine zE rfl ?_|refine zF ?_|refine zG ?_|refine zH ?_|refine zI ?_|refine zJ ?_|refine zK ?_|refine zL rfl ?_|refine zN rfl ?_)
    refine wp_bind ?_
    have hcase : i = 0 ∨ i = 1 ∨ i = 2 := by omega
    rcases hcase with rfl | rfl | rfl
    · refine wp_saddr (v := v) (L := [[I 0, I 16], [I 16, I 40], [I 56, I 8]]) (i := 0) (x := [I 0, I 16]) H (by repeat (first | exact List.Mem.head _ | apply List.Mem.tail)) rfl fun q off H => ?_
      refine wp_loada H (cs := [I 0, I 16]) (by repeat (first | exact List.Mem.head _ | apply List.Mem.tail)) (Nat.le_of_ble_eq_true rfl) ?_
      refine wp_alloc H fun b S3 H => ?_
      refine wp_store H 0 rfl rfl rfl (Nat.le_of_ble_eq_true rfl) fun S4 H => ?_
      replace H := H.freeze (i := 0) (c := [I 0, I 16]) rfl
      refine wp_loada H (cs := [I 0, I 16]) (by repeat (first | exact List.Mem.head _ | apply List.Mem.tail)) (Nat.le_of_ble_eq_true rfl) ?_
      refine wp_saddr (v := v') (L := [[I (r : Int)], [I (s : Int)], [I (p : Int)]]) (i := 0) (x := [I (r : Int)]) H (by repeat (first | exact List.Mem.head _ | apply List.Mem.tail)) rfl fun q' off' H => ?_
      refine wp_load0 H (cs := [I (r : Int)]) (by repeat (first | exact List.Mem.head _ | apply List.Mem.tail)) rfl ?_
      refine wp_callV H (with_ok (w := 0) (n := r) (s := 0) (m := 16) (by omega) (by omega) (by omega) (by omega)) fun S5 H => ?_
      refine wp_ret ?_
      show wp EM _ _ _
      refine wp_add64 (by omega) (by omega) (wp_ret (.inl ⟨rfl, ?_, H.dropRo (by simp)⟩))
      have e : 0 ||| r * 2 ^ 0 = r := by simp
      rw [e]; rfl
    · refine wp_saddr (v := v) (L := [[I 0, I 16], [I 16, I 40], [I 56, I 8]]) (i := 1) (x := [I 16, I 40]) H (by repeat (first | exact List.Mem.head _ | apply List.Mem.tail)) rfl fun q off H => ?_
      refine wp_loada H (cs := [I 16, I 40]) (by repeat (first | exact List.Mem.head _ | apply List.Mem.tail)) (Nat.le_of_ble_eq_true rfl) ?_
      refine wp_alloc H fun b S3 H => ?_
      refine wp_store H 0 rfl rfl rfl (Nat.le_of_ble_eq_true rfl) fun S4 H => ?_
      replace H := H.freeze (i := 0) (c := [I 16, I 40]) rfl
      refine wp_loada H (cs := [I 16, I 40]) (by repeat (first | exact List.Mem.head _ | apply List.Mem.tail)) (Nat.le_of_ble_eq_true rfl) ?_
      refine wp_saddr (v := v') (L := [[I (r : Int)], [I (s : Int)], [I (p : Int)]]) (i := 1) (x := [I (s : Int)]) H (by repeat (first | exact List.Mem.head _ | apply List.Mem.tail)) rfl fun q' off' H => ?_
      refine wp_load0 H (cs := [I (s : Int)]) (by repeat (first | exact List.Mem.head _ | apply List.Mem.tail)) rfl ?_
      refine wp_callV H (with_ok (w := r) (n := s) (s := 16) (m := 40) (by omega) (by omega) (by omega) (by omega)) fun S5 H => ?_
      refine wp_ret ?_
      show wp EM _ _ _
      refine wp_add64 (by omega) (by omega) (wp_ret (.inl ⟨rfl, ?_, H.dropRo (by simp)⟩))
      rw [or_lo (by omega)]; rfl
    · refine wp_saddr (v := v) (L := [[I 0, I 16], [I 16, I 40], [I 56, I 8]]) (i := 2) (x := [I 56, I 8]) H (by repeat (first | exact List.Mem.head _ | apply List.Mem.tail)) rfl fun q off H => ?_
      refine wp_loada H (cs := [I 56, I 8]) (by repeat (first | exact List.Mem.head _ | apply List.Mem.tail)) (Nat.le_of_ble_eq_true rfl) ?_
      refine wp_alloc H fun b S3 H => ?_
      refine wp_store H 0 rfl rfl rfl (Nat.le_of_ble_eq_true rfl) fun S4 H => ?_
      replace H := H.freeze (i := 0) (c := [I 56, I 8]) rfl
      refine wp_loada H (cs := [I 56, I 8]) (by repeat (first | exact List.Mem.head _ | apply List.Mem.tail)) (Nat.le_of_ble_eq_true rfl) ?_
      refine wp_saddr (v := v') (L := [[I (r : Int)], [I (s : Int)], [I (p : Int)]]) (i := 2) (x := [I (p : Int)]) H (by repeat (first | exact List.Mem.head _ | apply List.Mem.tail)) rfl fun q' off' H => ?_
      refine wp_load0 H (cs := [I (p : Int)]) (by repeat (first | exact List.Mem.head _ | apply List.Mem.tail)) rfl ?_
      refine wp_callV H (with_ok (w := s * 65536 + r) (n := p) (s := 56) (m := 8) (by omega) (by omega) (by omega) (by omega)) fun S5 H => ?_
      refine wp_ret ?_
      show wp EM _ _ _
      refine wp_add64 (by omega) (by omega) (wp_ret (.inl ⟨rfl, ?_, H.dropRo (by simp)⟩))
      rw [or_lo (by omega)]
      have e : p * 2 ^ 56 + (s * 65536 + r) = p * 72057594037927936 + s * 65536 + r := by omega
      rw [e]; rfl
  · rintro vs S1 ⟨rfl, H⟩
    refine wp_lss_f (by show (3 : Int) ≤ ((3 : Nat) : Int); omega) ?_
    repeat (first|refine zA ?_|refine zB rfl ?_|refine zC ?_|refine zD ?_|refine zE rfl ?_|refine zF ?_|refine zG ?_|refine zH ?_|refine zI ?_|refine zJ ?_|refine zK ?_|refine zL rfl ?_|refine zN rfl ?_)
    refine wp_ret ⟨by simp, wp_ret ⟨rfl, ?_, H.grows⟩⟩
    have e : ((p * 72057594037927936 + s * 65536 + r : Nat) : Int) = kword (p : Int) (s : Int) (r : Int) := by unfold kword; omega
    show U (((p * 72057594037927936 + s * 65536 + r : Nat) : Int)) = _
    rw [e]
end Go.Abs
namespace Go.Abs
open Go.Proofs
set_option maxRecDepth 100000
theorem putKey_ok {S : AH} {p s r : Int} : wpC EM (.fn (.func 67) [] []) [.agg [I p, I s, I r]] S fun v S' => v = putk p s r ∧ Grows S S' := by
  refine wpC_fn (b := Try.a67) rfl rfl ?_
  have H : Cx S [] S [] [] := Cx.enter (by simp)
  unfold Try.a67 Try.a67x3 Try.a67x2 Try.a67x1 Try.a67x0 putk
  refine wp_box H rfl fun b S1 H => ?_
  replace H : Cx S [] S1 [] [.pt b 0 [I p, I s, I r]] := H
  repeat (first|refine zA ?_|refine zB rfl ?_|refine zC ?_|refine zD ?_|refine zE rfl ?_|refine zF ?_|refine zG ?_|refine zH ?_|refine zI ?_|refine zJ ?_|refine zK ?_|refine zL rfl ?_|refine zN rfl ?_)
  refine wp_load1 H (cs := [I p, I s, I r]) (by repeat (first | exact List.Mem.head _ | apply List.Mem.tail)) rfl ?_
  refine wp_op (v := .agg [I r, I 0, I 65535]) rfl ?_
  repeat (first|refine zA ?_|refine zB rfl ?_|refine zC ?_|refine zD ?_|refine zE rfl ?_|refine zF ?_|refine zG ?_|refine zH ?_|refine zI ?_|refine zJ ?_|refine zK ?_|refine zL rfl ?_|refine zN rfl ?_)
  refine wp_load1 H (cs := [I p, I s, I r]) (by repeat (first | exact List.Mem.head _ | apply List.Mem.tail)) rfl ?_
  refine wp_op (v := .agg [I s, I 0, I 1099511627775]) rfl ?_
  repeat (first|refine zA ?_|refine zB rfl ?_|refine zC ?_|refine zD ?_|refine zE rfl ?_|refine zF ?_|refine zG ?_|refine zH ?_|refine zI ?_|refine zJ ?_|refine zK ?_|refine zL rfl ?_|refine zN rfl ?_)
  refine wp_load1 H (cs := [I p, I s, I r]) (by repeat (first | exact List.Mem.head _ | apply List.Mem.tail)) rfl ?_
  refine wp_op (v := .agg [I p, I 0, I 254]) rfl ?_
  refine wp_op (v := .sl S1.next 0 3 3) (S1 := S1.new (.row [I r, I 0, I 65535, I s, I 0, I 1099511627775, I p, I 0, I 254])) rfl ?_
  replace H : Cx S [] _ [] [.sl (.sl S1.next 0 3 3) 3 (prs [(r, 0, 65535), (s, 0, 1099511627775), (p, 0, 254)]), .pt b 0 [I p, I s, I r]] := H.addNewRo (Grows.new S1 _) (.inr ⟨S1.next, 0, [I r, I 0, I 65535, I s, I 0, I 1099511627775, I p, I 0, I 254], .inl ⟨3, Nat.le_refl _, Nat.le_refl _, rfl⟩, row_cells (get_new_same _ _), rfl, by simp [prs]⟩) (by
    intro j hj
    simp only [Fct.ids, vids, List.mem_singleton] at hj
    subst hj
    simp)
  generalize S1.new (.row [I r, I 0, I 65535, I s, I 0, I 1099511627775, I p, I 0, I 254]) = S2 at H ⊢
  generalize AV.sl S1.next 0 3 3 = w at H ⊢
  refine wp_callV H (within_ok (H.roSl (by repeat (first | exact List.Mem.head _ | apply List.Mem.tail))) (by simp)) fun S3 H => ?_
  refine wp_not ?_
  have hiff : (∀ t ∈ [(r, (0 : Int), (65535 : Int)), (s, 0, 1099511627775), (p, 0, 254)], inP t) ↔ kok p s r := by
    unfold kok inP
    simp
    constructor
    · rintro ⟨h1, h2, h3⟩; exact ⟨h3, h2, h1⟩
    · rintro ⟨h1, h2, h3⟩; exact ⟨h3, h2, h1⟩
  by_cases hk : kok p s r
  · rw [decide_eq_true (hiff.2 hk), if_pos hk]
    have hk' := hk
    obtain ⟨h1, h2, h3⟩ := hk'
    obtain ⟨p', rfl⟩ : ∃ n : Nat, p = n := ⟨p.toNat, by omega⟩
    obtain ⟨s', rfl⟩ : ∃ n : Nat, s = n := ⟨s.toNat, by omega⟩
    obtain ⟨r', rfl⟩ : ∃ n : Nat, r = n := ⟨r.toNat, by omega⟩
    repeat (first|refine zA ?_|refine zB rfl ?_|refine zC ?_|refine zD ?_|refine zE rfl ?_|refine zF ?_|refine zG ?_|refine zH ?_|refine zI ?_|refine zJ ?_|refine zK ?_|refine zL rfl ?_|refine zN rfl ?_)
    refine wp_callV H keys_ok fun S4 H => ?_
    refine wp_alloc H fun o S5 H => ?_
    refine wp_store (v := .agg keyTab) H 0 rfl rfl rfl (Nat.le_of_ble_eq_true rfl) fun S6 H => ?_
    have hob : S6.get o = some (.row keyTab) := H.oh _ (List.Mem.head _)
    replace H := H.freeze (i := 0) (c := keyTab) rfl
    refine wp_op (v := .sl o 0 3 3) rfl ?_
    have hpt := (H.ri (.pt o 0 keyTab) (List.Mem.head _))
    replace H := H.addRo (φ := .sl (.sl o 0 3 3) 2 [[I 0, I 16], [I 16, I 40], [I 56, I 8]]) (.inr ⟨o, 0, keyTab, .inl ⟨3, Nat.le_refl _, Nat.le_refl _, rfl⟩, row_cells hob, rfl, by simp⟩) (fun id hid => hpt id hid)
    repeat (first|refine zA ?_|refine zB rfl ?_|refine zC ?_|refine zD ?_|refine zE rfl ?_|refine zF ?_|refine zG ?_|refine zH ?_|refine zI ?_|refine zJ ?_|refine zK ?_|refine zL rfl ?_|refine zN rfl ?_)
    refine wp_load1 H (cs := [I (p' : Int), I (s' : Int), I (r' : Int)]) (by repeat (first | exact List.Mem.head _ | apply List.Mem.tail)) rfl ?_
    repeat (first|refine zA ?_|refine zB rfl ?_|refine zC ?_|refine zD ?_|refine zE rfl ?_|refine zF ?_|refine zG ?_|refine zH ?_|refine zI ?_|refine zJ ?_|refine zK ?_|refine zL rfl ?_|refine zN rfl ?_)
    refine wp_load1 H (cs := [I (p' : Int), I (s' : Int), I (r' : Int)]) (by repeat (first | exact List.Mem.head _ | apply List.Mem.tail)) rfl ?_
    repeat (first|refine zA ?_|refine zB rfl ?_|refine zC ?_|refine zD ?_|refine zE rfl ?_|refine zF ?_|refine zG ?_|refine zH ?_|refine zI ?_|refine zJ ?_|refine zK ?_|refine zL rfl ?_|refine zN rfl ?_)
    refine wp_load1 H (cs := [I (p' : Int), I (s' : Int), I (r' : Int)]) (by repeat (first | exact List.Mem.head _ | apply List.Mem.tail)) rfl ?_
    refine wp_op (v := .sl S6.next 0 3 3) (S1 := S6.new (.row [I (r' : Int), I (s' : Int), I (p' : Int)])) rfl ?_
    replace H := H.addNewRo (φ := .sl (.sl S6.next 0 3 3) 1 [[I (r' : Int)], [I (s' : Int)], [I (p' : Int)]]) (Grows.new S6 (.row [I (r' : Int), I (s' : Int), I (p' : Int)])) (.inr ⟨S6.next, 0, [I (r' : Int), I (s' : Int), I (p' : Int)], .inl ⟨3, Nat.le_refl _, Nat.le_refl _, rfl⟩, row_cells (get_new_same _ _), rfl, by simp⟩) (by
      intro j hj
      simp only [Fct.ids, vids, List.mem_singleton] at hj
      subst hj
      simp)
    refine wp_callV H (lay_ok (r := r') (s := s') (p := p') (H.roSl (by repeat (first | exact List.Mem.head _ | apply List.Mem.tail))) (H.roSl (by repeat (first | exact List.Mem.head _ | apply List.Mem.tail))) (by omega) (by omega) (by omega)) fun S7 H => ?_
    exact wp_ret ⟨rfl, rfl, H.grows⟩
  · rw [decide_eq_false (fun h => hk (hiff.1 h)), if_neg hk]
    repeat (first|refine zA ?_|refine zB rfl ?_|refine zC ?_|refine zD ?_|refine zE rfl ?_|refine zF ?_|refine zG ?_|refine zH ?_|refine zI ?_|refine zJ ?_|refine zK ?_|refine zL rfl ?_|refine zN rfl ?_)
    exact wp_ret ⟨rfl, rfl, H.grows⟩
end Go.Abs
namespace Go.Abs
open Go.Proofs
set_option maxRecDepth 100000
set_option linter.unusedVariables false
/-! ### places within a slice of one's own -/
def inSl (v : AV) (es n i id off : Nat) : Prop := ∃ o, ((∃ c, v = .sl id o n c) ∨ ∃ m, v = .op id o n m es) ∧ off = o + i * es ∧ i < n
theorem setRange_in {c x ys : List AV} {o j es : Nat} (hx : (c.drop o).take es = x) (ho : o + es ≤ c.length) (hj : j + ys.length ≤ es) : setRange c (o + j) ys = setRange c o (setRange x j ys) := by
  have hxl : x.length = es := by rw [← hx, List.length_take, List.length_drop]; omega
  have hsl : (setRange x j ys).length = es := by rw [setRange_length (by omega), hxl]
  apply List.ext_getElem?
  intro i
  rw [setRange_get (by omega), setRange_get (by omega), hsl]
  by_cases h1 : o ≤ i ∧ i < o + es
  · rw [if_pos h1, setRange_get (by omega)]
    by_cases h2 : o + j ≤ i ∧ i < o + j + ys.length
    · rw [if_pos h2, if_pos (by omega)]; congr 1; omega
    · rw [if_neg h2, if_neg (by omega), ← hx, List.getElem?_take, List.getElem?_drop, if_pos (by omega)]; congr 1; omega
  · rw [if_neg h1, if_neg (by omega)]
section
variable {M : Mach} {B0 S : AH} {W : List Nat} {own : List Own} {ro : List Fct} {Q : Post} {k : AV → AC} {v : AV} {es i id off : Nat} {L : List (List AV)}
theorem slForm_cap {v : AV} {es n id off : Nat} {c : List AV} (h : slForm v es n id off c) : off + n * es ≤ c.length := by
  have hcap : ∃ m, n ≤ m ∧ off + m * es ≤ c.length := by
    rcases h with ⟨m, q1, q2, _⟩ | ⟨m, q1, q2, _⟩ <;> exact ⟨m, q1, q2⟩
  obtain ⟨m, q1, q2⟩ := hcap
  have := Nat.mul_le_mul_right es q1
  omega
theorem inSl_form {v : AV} {n : Nat} {id' off' : Nat} {c : List AV} (hp : inSl v es n i id off) (h : slForm v es n id' off' c) : id = id' ∧ off = off' + i * es ∧ i < n := by
  obtain ⟨o, hv, ho, hi⟩ := hp
  rcases h with ⟨m, q1, q2, rfl⟩ | ⟨m, q1, q2, rfl⟩
  · rcases hv with ⟨c, e⟩ | ⟨m, e⟩
    · cases e; exact ⟨rfl, ho, hi⟩
    · cases e
  · rcases hv with ⟨c, e⟩ | ⟨m, e⟩
    · cases e
    · cases e; exact ⟨rfl, ho, hi⟩
theorem wp_at (H : Cx B0 W S own ro) (n : Nat) (hm : own[n]? = some (.sl v es L)) (hi : i < L.length) (h : ∀ id off, inSl v es L.length i id off → wp M (k (.ptr id off)) S Q) : wp M (.op (.saddr es v (I (i : Int))) k) S Q := by
  have hw : slW S v es L := H.oh _ (List.mem_of_getElem? hm)
  rcases hw with ⟨rfl, rfl⟩ | ⟨id, off, c, h0, h1, h2, h3⟩
  · simp at hi
  · refine wp_op (e_saddr h0 hi) (h id _ ⟨off, ?_, rfl, hi⟩)
    rcases h0 with ⟨m, _, _, rfl⟩ | ⟨m, _, _, rfl⟩
    · exact .inl ⟨_, rfl⟩
    · exact .inr ⟨_, rfl⟩
theorem at_pt (H : Cx B0 W S own ro) (n : Nat) (hm : own[n]? = some (.sl v es L)) (hp : inSl v es L.length i id off) {x : List AV} (hi : L[i]? = some x) : (Fct.pt id off x).holds S := by
  have hw : slW S v es L := H.oh _ (List.mem_of_getElem? hm)
  rcases hw with ⟨rfl, rfl⟩ | ⟨id', off', c, h0, h1, h2, h3⟩
  · simp at hi
  · obtain ⟨rfl, rfl, hlt⟩ := inSl_form hp h0
    have hcap := slForm_cap h0
    have hxl : x.length = es := h3 x (List.mem_of_getElem? hi)
    have hin : i * es + es ≤ L.length * es := by
      have : (i + 1) * es ≤ L.length * es := Nat.mul_le_mul_right es hlt
      rw [Nat.succ_mul] at this; omega
    refine ⟨c, row_cells h1, by omega, ?_⟩
    have := flatten_at h3 hi
    rw [← h2, List.drop_take, List.take_take, List.drop_drop, Nat.min_eq_left (by omega)] at this
    rw [hxl]; exact this
theorem wp_atL (H : Cx B0 W S own ro) (n : Nat) (hm : own[n]? = some (.sl v es L)) (hp : inSl v es L.length i id off) {x : List AV} {c : AV} {j : Nat} (hi : L[i]? = some x) (hj : x[j]? = some c) (h : wp M (k c) S Q) :
    wp M (.op (.load 1 false (.ptr id (Nat.add off j))) k) S Q := wp_loadF (at_pt H n hm hp hi) hj h
theorem wp_atL0 (H : Cx B0 W S own ro) (n : Nat) (hm : own[n]? = some (.sl v es L)) (hp : inSl v es L.length i id off) {x : List AV} {c : AV} (hi : L[i]? = some x) (hj : x[0]? = some c) (h : wp M (k c) S Q) :
    wp M (.op (.load 1 false (.ptr id off)) k) S Q := wp_atL H n hm hp (j := 0) hi hj h
theorem wp_atLn (H : Cx B0 W S own ro) (n : Nat) (hm : own[n]? = some (.sl v es L)) (hp : inSl v es L.length i id off) {x : List AV} (hi : L[i]? = some x) (hl : es ≤ x.length) (h : wp M (k (.agg x)) S Q) :
    wp M (.op (.load es true (.ptr id off)) k) S Q := by
  have hw : slW S v es L := H.oh _ (List.mem_of_getElem? hm)
  have hxl : x.length = es := by
    rcases hw with ⟨rfl, rfl⟩ | ⟨id', off', c, h0, h1, h2, h3⟩
    · simp at hi
    · exact h3 x (List.mem_of_getElem? hi)
  refine wp_loadFn (j := 0) (n := es) (at_pt H n hm hp hi) (by omega) ?_
  rw [List.drop_zero, List.take_of_length_le (by omega)]; exact h
theorem wp_atSt (H : Cx B0 W S own ro) (n : Nat) (hm : own[n]? = some (.sl v es L)) (hp : inSl v es L.length i id off) {x : List AV} {y : AV} {j m : Nat} (hi : L[i]? = some x) (ho : odd y = false) (hy : y.cells.length = m) (hj : j + m ≤ es)
    (h : ∀ S1, Cx B0 W S1 (own.set n (.sl v es (L.set i (setRange x j y.cells)))) ro → wp M (k uv) S1 Q) : wp M (.op (.store m (.ptr id (Nat.add off j)) y) k) S Q := by
  have hw : slW S v es L := H.oh _ (List.mem_of_getElem? hm)
  rcases hw with ⟨rfl, rfl⟩ | ⟨id', off', c, h0, h1, h2, h3⟩
  · simp at hi
  · have hpt := at_pt H n hm hp hi
    obtain ⟨rfl, rfl, hlt⟩ := inSl_form hp h0
    have hcap := slForm_cap h0
    have hxl : x.length = es := h3 x (List.mem_of_getElem? hi)
    have hfl := flatten_length h3
    have hin : i * es + es ≤ L.length * es := by
      have : (i + 1) * es ≤ L.length * es := Nat.mul_le_mul_right es hlt
      rw [Nat.succ_mul] at this; omega
    have hxd : (c.drop (off' + i * es)).take es = x := by
      obtain ⟨c', k1, k2, k3⟩ := hpt
      rw [row_cells h1] at k1
      cases k1
      rwa [hxl] at k3
    have hsl : (setRange x j y.cells).length = es := by rw [setRange_length (by omega), hxl]
    refine wp_op (v := uv) (S1 := S.set id (.row (setRange c (off' + i * es) (setRange x j y.cells)))) ?_ (h _ (H.step hm (Nat.le_refl _) ?_ ?_ ?_))
    · show eStore m (.ptr id (off' + i * es + j)) y S = _
      unfold eStore
      have g1 : asPtr (.ptr id (off' + i * es + j)) = some (id, off' + i * es + j) := rfl
      have g2 : (not (odd y) && Nat.beq (lenL y.cells) m && Nat.ble (Nat.add (off' + i * es + j) m) (lenL c)) = true := by
        have q1 : Nat.beq (lenL y.cells) m = true := by rw [lenL_eq, hy]; exact Nat.beq_refl m
        have q2 : Nat.ble (Nat.add (off' + i * es + j) m) (lenL c) = true := by rw [lenL_eq]; exact ble_t (by show off' + i * es + j + m ≤ c.length; omega)
        simp only [ho, q1, q2]; rfl
      simp only [g1, row_row h1, g2]
      rw [setRange_in hxd (by omega) (by omega)]
    · intro q hq hne
      rw [AH.get_set, if_neg (by simpa [Own.ids, h0.ids] using hne)]
    · refine .inr ⟨id, off', setRange c (off' + i * es) (setRange x j y.cells), ?_, by rw [AH.get_set, if_pos rfl], ?_, ?_⟩
      · rw [List.length_set]
        have hl : (setRange c (off' + i * es) (setRange x j y.cells)).length = c.length := setRange_length (by omega)
        rcases h0 with ⟨m, q1, q2, q3⟩ | ⟨m, q1, q2, q3⟩
        · exact .inl ⟨m, q1, by rw [hl]; exact q2, q3⟩
        · exact .inr ⟨m, q1, by rw [hl]; exact q2, q3⟩
      · generalize setRange x j y.cells = z at hsl
        rw [List.length_set, flatten_set h3 hlt hsl, ← h2]
        apply List.ext_getElem?
        intro q
        rw [List.getElem?_take, List.getElem?_drop, setRange_get (by omega), setRange_get (by rw [List.length_take, List.length_drop]; omega)]
        rw [List.getElem?_take, List.getElem?_drop]
        by_cases hq : q < L.length * es
        · rw [if_pos hq, if_pos hq]
          by_cases hr : i * es ≤ q ∧ q < i * es + z.length
          · rw [if_pos hr, if_pos (by omega)]; congr 1; omega
          · rw [if_neg hr, if_neg (by omega)]
        · rw [if_neg hq, if_neg hq, if_neg (by omega)]
      · intro z hz
        rcases List.mem_or_eq_of_mem_set hz with hz | rfl
        · exact h3 z hz
        · exact hsl
    · intro q hq
      exact ⟨(H.oi _ (List.mem_of_getElem? hm) q hq).1, .inl hq⟩
theorem setRange_one {x : List AV} {c : AV} {j : Nat} (hj : j < x.length) : setRange x j [c] = x.set j c := by
  apply List.ext_getElem?
  intro i
  rw [setRange_get (by simp; omega), List.getElem?_set]
  by_cases h : j = i
  · subst h; simp [hj]
  · rw [if_neg (by simp; omega), if_neg h]
theorem wp_atS (H : Cx B0 W S own ro) (n : Nat) (hm : own[n]? = some (.sl v es L)) (hp : inSl v es L.length i id off) {x : List AV} {c : AV} {j : Nat} (hi : L[i]? = some x) (ho : odd c = false) (hc : c.cells = [c]) (hj : j + 1 ≤ es) (hx : j < x.length)
    (h : ∀ S1, Cx B0 W S1 (own.set n (.sl v es (L.set i (x.set j c)))) ro → wp M (k uv) S1 Q) : wp M (.op (.store 1 (.ptr id (Nat.add off j)) c) k) S Q :=
  wp_atSt H n hm hp hi ho (by rw [hc]; rfl) hj fun S1 H1 => h S1 (by rw [hc, setRange_one hx] at H1; exact H1)
theorem wp_atS0 (H : Cx B0 W S own ro) (n : Nat) (hm : own[n]? = some (.sl v es L)) (hp : inSl v es L.length i id off) {x : List AV} {c : AV} (hi : L[i]? = some x) (ho : odd c = false) (hc : c.cells = [c]) (hj : 1 ≤ es) (hx : 0 < x.length)
    (h : ∀ S1, Cx B0 W S1 (own.set n (.sl v es (L.set i (x.set 0 c)))) ro → wp M (k uv) S1 Q) : wp M (.op (.store 1 (.ptr id off) c) k) S Q :=
  wp_atS H n hm hp (j := 0) hi ho hc (by omega) hx h
theorem wp_atSn (H : Cx B0 W S own ro) (n : Nat) (hm : own[n]? = some (.sl v es L)) (hp : inSl v es L.length i id off) {x : List AV} {y : AV} (hi : L[i]? = some x) (ho : odd y = false) (hy : y.cells.length = es)
    (h : ∀ S1, Cx B0 W S1 (own.set n (.sl v es (L.set i y.cells))) ro → wp M (k uv) S1 Q) : wp M (.op (.store es (.ptr id off) y) k) S Q := by
  have hw : slW S v es L := H.oh _ (List.mem_of_getElem? hm)
  have hxl : x.length = es := by
    rcases hw with ⟨rfl, rfl⟩ | ⟨id', off', c, h0, h1, h2, h3⟩
    · simp at hi
    · exact h3 x (List.mem_of_getElem? hi)
  refine wp_atSt H n hm hp (j := 0) hi ho hy (by omega) fun S1 H1 => h S1 ?_
  have e : setRange x 0 y.cells = y.cells := by rw [setRange_eq, List.take_zero, List.nil_append, Nat.zero_add, List.drop_eq_nil_of_le (by omega), List.append_nil]
  rw [e] at H1
  exact H1
end
end Go.Abs
namespace Go.Abs
open Go.Proofs
set_option maxRecDepth 100000
set_option linter.unusedVariables false
open Tsk (Tk tks tchk)
theorem slOk_odd1 {S : AH} {v : AV} {es : Nat} {L : List (List AV)} (h : slOk S v es L) : odd v = false ∧ v.cells = [v] := by
  rcases h with ⟨rfl, _⟩ | ⟨id, off, c, h0, _⟩
  · exact ⟨rfl, rfl⟩
  · rcases h0 with ⟨_, _, _, rfl⟩ | ⟨_, _, _, rfl⟩ <;> exact ⟨rfl, rfl⟩
/-! ### the model -/
structure Ms where
  su : Su
  T : List Tk
  passed : List Int
  seq : Int
  jobs : List Lv
  free : List Int
  mail : List (List Int)
  runs : List Int
  flags : List Bool
structure Mv where
  vt : AV
  vp : AV
  vj : AV
  vf : AV
  vm : AV
  vr : AV
  vg : AV
  bx : List AV
def bls (l : List Bool) : List (List AV) := l.map fun b => [B b]
theorem bls_len (l : List Bool) : (bls l).length = l.length := List.length_map ..
theorem bls_get {l : List Bool} {i : Nat} (h : i < l.length) : (bls l)[i]? = some [B l[i]] := by simp [bls, h]
theorem bls_set (l : List Bool) (i : Nat) (b : Bool) : (bls l).set i [B b] = bls (l.set i b) := by unfold bls; rw [List.map_set]
theorem ints_get? {l : List Int} {i : Nat} {n : Int} (h : l[i]? = some n) : (ints l)[i]? = some [I n] := by unfold ints; rw [List.getElem?_map, h]; rfl
theorem ints_set (l : List Int) (i : Nat) (n : Int) : (ints l).set i [I n] = ints (l.set i n) := by unfold ints; rw [List.map_set]
def Ms.row (s : Ms) (m : Mv) : List AV := s.su.cs m.vt ++ [m.vp, I s.seq, m.vj, m.vf, m.vm, m.vr, m.vg]
def boxO (b : AV) (l : List Int) : Own := .sl b 1 (ints l)
def ptrs (l : List AV) : List (List AV) := l.map fun b => [b]
def mOwn (x : Nat) (s : Ms) (m : Mv) : List Own := .obj x (.row (s.row m)) :: .sl m.vp 1 (ints s.passed) :: .sl m.vj 4 (lvs s.jobs) :: .sl m.vf 1 (ints s.free) :: .sl m.vm 1 (ptrs m.bx) :: .sl m.vr 1 (ints s.runs) :: .sl m.vg 1 (bls s.flags) :: List.zipWith boxO m.bx s.mail
/-- what of a model is so that its functions go through -/
structure Ms.Wf (s : Ms) : Prop where
  fine : s.su.fine
  chk : tchk s.T = 0
  pl : s.passed.length = s.T.length
  pb : ∀ p ∈ s.passed, -1 ≤ p ∧ p ≤ 1099511627776
  jl : (s.jobs.length : Int) = s.su.jobs
  jj : ∀ (i : Nat) x, s.jobs[i]? = some x → x.job = i
  kb : ∀ x ∈ s.jobs, 0 ≤ x.key ∧ x.key < 18374686479671623680
  fl : s.free.length ≤ s.jobs.length
  fb : ∀ i ∈ s.free, 0 ≤ i ∧ i < s.jobs.length
  ml : (s.mail.length : Int) = s.su.cores
  mb : ∀ l ∈ s.mail, (l.length : Int) ≤ s.su.room ∧ ∀ i ∈ l, 0 ≤ i ∧ i < s.jobs.length
  rl : (s.runs.length : Int) = s.su.cores
  rb : ∀ i ∈ s.runs, -1 ≤ i ∧ i < s.jobs.length
  gl : (s.flags.length : Int) = s.su.cores
  sq : 0 ≤ s.seq ∧ s.seq ≤ 1152921504606846976
theorem Ms.Wf.j64 {s : Ms} (h : s.Wf) : 1 ≤ s.jobs.length ∧ s.jobs.length ≤ 64 := by
  have := h.jl; have := h.fine; unfold Su.fine at this; omega
theorem Ms.Wf.c64 {s : Ms} (h : s.Wf) : 1 ≤ s.su.cores ∧ s.su.cores ≤ 64 := by
  have := h.fine; unfold Su.fine at this; omega
section
variable {B0 S : AH} {W : List Nat} {own R : List Own} {ro : List Fct} {Q : Post} {k : AV → AC} {v : AV} {x : Nat} {s : Ms} {m : Mv}
theorem wp_row {M : Mach} (H : Cx B0 W S own ro) (n : Nat) {id j : Nat} {c : List AV} {v : AV} (hm : own[n]? = some (.obj id (.row c))) (hj : c[j]? = some v) (h : wp M (k v) S Q) : wp M (.op (.load 1 false (.ptr id j)) k) S Q := wp_loado H n hm hj h
theorem wp_set1 {M : Mach} (H : Cx B0 W S own ro) (n : Nat) {id j : Nat} {c : List AV} {v : AV} (hm : own[n]? = some (.obj id (.row c))) (hj : j < c.length) (ho : odd v = false) (hc : v.cells = [v]) (h : ∀ S1, Cx B0 W S1 (own.set n (.obj id (.row (c.set j v)))) ro → wp M (k uv) S1 Q) :
    wp M (.op (.store 1 (.ptr id j) v) k) S Q :=
  wp_store H n hm ho (by rw [hc]; rfl) (by omega) fun S1 H1 => h S1 (by rw [hc, setRange_one hj] at H1; exact H1)
theorem wp_sidx {M : Mach} {κ : IntKind} {s : ByteArray} {i : Nat} {b : UInt8} (hi : i < s.size) (hb : s[i]? = some b) (h : wp M (k (Z .u8 (b.toNat : Int))) S Q) : wp M (.op (.sidx (.sc (.string s)) (Z κ (i : Int))) k) S Q := by
  refine wp_op (v := Z .u8 (b.toNat : Int)) ?_ h
  show pur (pSidx (.sc (.string s)) (Z κ (i : Int))) S = _
  have e : pSidx (.sc (.string s)) (Z κ (i : Int)) = some (Z .u8 (b.toNat : Int)) := by
    unfold pSidx
    have h1 : idx? (Z κ (i : Int)) s.size = some i := by
      show below i s.size = some i
      unfold below; rw [ble_t (by omega)]
    simp only [h1, hb]
  rw [e]; rfl
theorem mo {n : Nat} {y : Own} (h : (mOwn x s m)[n]? = some y) : (mOwn x s m ++ R)[n]? = some y := by
  obtain ⟨h1, h2⟩ := List.getElem?_eq_some_iff.1 h
  rw [List.getElem?_append_left h1]; exact h
end
end Go.Abs
namespace Go.Abs
open Go.Proofs
set_option maxRecDepth 100000
set_option linter.unusedVariables false
open Tsk (Tk tks tchk)
section
variable {B0 S : AH} {W : List Nat} {own R : List Own} {ro : List Fct} {Q : Post} {k : AV → AC} {v : AV} {x : Nat} {s : Ms} {m : Mv}
/-! ### sorts of a few -/
def len8 : ByteArray := ⟨#[0, 1, 2, 2, 3, 3, 3, 3, 4, 4, 4, 4, 4, 4, 4, 4, 5, 5, 5, 5, 5, 5, 5, 5, 5, 5, 5, 5, 5, 5, 5, 5, 6, 6, 6, 6, 6, 6, 6, 6, 6, 6, 6, 6, 6, 6, 6, 6, 6, 6, 6, 6, 6, 6, 6, 6, 6, 6, 6, 6, 6, 6, 6, 6, 7, 7, 7, 7, 7, 7, 7, 7, 7, 7, 7, 7, 7, 7, 7, 7, 7, 7, 7, 7, 7, 7, 7, 7, 7, 7, 7, 7, 7, 7, 7, 7, 7, 7, 7, 7, 7, 7, 7, 7, 7, 7, 7, 7, 7, 7, 7, 7, 7, 7, 7, 7, 7, 7, 7, 7, 7, 7, 7, 7, 7, 7, 7, 7, 8, 8, 8, 8, 8, 8, 8, 8, 8, 8, 8, 8, 8, 8, 8, 8, 8, 8, 8, 8, 8, 8, 8, 8, 8, 8, 8, 8, 8, 8, 8, 8, 8, 8, 8, 8, 8, 8, 8, 8, 8, 8, 8, 8, 8, 8, 8, 8, 8, 8, 8, 8, 8, 8, 8, 8, 8, 8, 8, 8, 8, 8, 8, 8, 8, 8, 8, 8, 8, 8, 8, 8, 8, 8, 8, 8, 8, 8, 8, 8, 8, 8, 8, 8, 8, 8, 8, 8, 8, 8, 8, 8, 8, 8, 8, 8, 8, 8, 8, 8, 8, 8, 8, 8, 8, 8, 8, 8, 8, 8, 8, 8, 8, 8, 8, 8, 8, 8, 8, 8, 8, 8, 8, 8, 8, 8, 8, 8]⟩
theorem len8_get : ∀ i, i < 256 → ∃ b, len8[i]? = some b ∧ b.toNat ≤ 8 := by decide +kernel
theorem len8_size : len8.size = 256 := by decide +kernel
theorem len64s_ok {S : AH} {n : Nat} (hn : n < 256) : wpC EM (.fn (.func 92) [] []) [U (n : Int)] S fun r S' => (∃ k : Nat, r = I (k : Int) ∧ k ≤ 8) ∧ Grows S S' := by
  refine wpC_fn (b := Try.a92) rfl rfl ?_
  unfold Try.a92 Try.a92x4 Try.a92x3 Try.a92x2 Try.a92x1 Try.a92x0
  refine wp_geq_f (by omega) ?_
  refine wp_bind (wp_ite_f (wp_ret ?_))
  show wp EM _ _ _
  refine wp_geq_f (by show (n : Int) < 65536; omega) ?_
  refine wp_bind (wp_ite_f (wp_ret ?_))
  show wp EM _ _ _
  refine wp_geq_f (by show (n : Int) < 256; omega) ?_
  refine wp_bind (wp_ite_f (wp_ret ?_))
  show wp EM _ _ _
  obtain ⟨b, h1, h2⟩ := len8_get n hn
  refine wp_conv (c := (n : Int)) (by rw [wrapF_eq, IntKind.wrap_u8]; omega) ?_
  refine wp_sidx (s := len8) (i := n) (by rw [len8_size]; exact hn) h1 ?_
  refine wp_conv (c := (b.toNat : Int)) (by rw [wrap64 (by omega) (by omega)]) ?_
  refine wp_add64 (by show (_ : Int) ≤ 0 + _; omega) (by show 0 + _ ≤ (_ : Int); omega) (wp_ret ⟨rfl, ⟨b.toNat, ?_, h2⟩, Grows.refl _⟩)
  show I (0 + (b.toNat : Int)) = _
  rw [Int.zero_add]
theorem lenB_ok {S : AH} {n : Nat} (hn : n < 256) : wpC EM (.fn (.func 75) [] []) [U (n : Int)] S fun r S' => (∃ k : Nat, r = I (k : Int) ∧ k ≤ 8) ∧ Grows S S' := by
  refine wpC_fn (b := Try.a75) rfl rfl ?_
  unfold Try.a75
  repeat (first|refine zA ?_|refine zB rfl ?_|refine zC ?_|refine zD ?_|refine zE rfl ?_|refine zF ?_|refine zG ?_|refine zH ?_|refine zI ?_|refine zJ ?_|refine zK ?_|refine zL rfl ?_|refine zN rfl ?_)
  refine wp_call (wpC_mono (len64s_ok hn) fun r S1 q => ?_)
  exact wp_ret ⟨rfl, q⟩
theorem pdq_ok {X : List Lv} {l : Int} (hl : X.length ≤ 12) (H : Cx B0 W S (.sl v 4 (lvs X) :: own) ro) : wpC EM (.fn (.func 74) [] []) [v, I 0, I (X.length : Int), I l, ordF] S fun _ S' => ∃ m, StS X m ∧ m.length = X.length ∧ Cx B0 W S' (.sl v 4 (lvs m) :: own) ro := by
  refine wpC_fn (b := Try.a74) rfl rfl ?_
  unfold Try.a74 Try.a74x14 Try.a74x13 Try.a74x12 Try.a74x11 Try.a74x10 Try.a74x9 Try.a74x8 Try.a74x7 Try.a74x6 Try.a74x5 Try.a74x4 Try.a74x3 Try.a74x2 Try.a74x1 Try.a74x0
  refine wp_bind (wp_loop (wpL_step ?_))
  refine wp_bind ?_
  refine wp_sub64 (by omega) (by omega) ?_
  refine wp_leq_t (by show (X.length : Int) - 0 ≤ 12; omega) ?_
  repeat (first|refine zA ?_|refine zB rfl ?_|refine zC ?_|refine zD ?_|refine zE rfl ?_|refine zF ?_|refine zG ?_|refine zH ?_|refine zI ?_|refine zJ ?_|refine zK ?_|refine zL rfl ?_|refine zN rfl ?_)
  have K := insertion_ok (P := []) (X := X) (R := []) (by simp; omega) (by simpa using H)
  have e : (([] : List Lv).length + X.length : Nat) = X.length := by simp
  rw [e] at K
  refine wp_call (wpC_mono K fun r S1 q => ?_)
  obtain ⟨m, k1, k2, H1⟩ := q
  exact wp_ret (.inr ⟨by simp, rfl, m, k1, k2, by simpa using H1⟩)
theorem sortL_ok {X : List Lv} (hl : X.length ≤ 12) (H : Cx B0 W S (.sl v 4 (lvs X) :: own) ro) : wpC EM (.fn (.func 60) [] []) [v, ordF] S fun _ S' => ∃ m, StS X m ∧ m.length = X.length ∧ Cx B0 W S' (.sl v 4 (lvs m) :: own) ro := by
  refine wpC_fn (b := Try.a60) rfl rfl ?_
  unfold Try.a60
  refine wp_leno H 0 rfl ?_
  rw [lvs_len]
  refine wp_convU (n := X.length) (by omega) ?_
  refine wp_callG H (lenB_ok (by omega)) fun r S1 ⟨l, hl1, hl2⟩ H => ?_
  subst hl1
  refine wp_call (wpC_mono (pdq_ok hl H) fun r S2 q => ?_)
  exact wp_ret ⟨rfl, q⟩
/-! ### those that are ready, those that are live -/
def rdy (l : List Lv) : List Lv := l.filter fun x => decide (x.st = 3)
def isLive (x : Lv) : Bool := decide (x.st = 2) || decide (x.st = 3) || decide (x.st = 4)
def liv (l : List Lv) : List Lv := l.filter isLive
theorem filter_succ {p : Lv → Bool} {l : List Lv} {i : Nat} (hi : i < l.length) : (l.take (i + 1)).filter p = if p l[i] then (l.take i).filter p ++ [l[i]] else (l.take i).filter p := by
  rw [List.take_succ_eq_append_getElem hi, List.filter_append]
  by_cases h : p l[i]
  · rw [if_pos h]; simp [h]
  · rw [if_neg h]; simp [h]
theorem wp_pushL {X : List Lv} (H : Cx B0 W S (.sl v 4 (lvs X) :: own) ro) {y : Lv} (hX : X.length < 100000) (h : ∀ v1 S1, Cx B0 W S1 (.sl v1 4 (lvs (X ++ [y])) :: own) ro → wp EM (k v1) S1 Q) :
    wp EM (.op (.bslice 4 1 [I 0, I 0, I 0, U 0] [(0, 4, .agg y.cs)]) fun t => .op (.append 4 32 v t) k) S Q := by
  refine wp_push H 0 rfl rfl rfl rfl (by rw [lvs_len]; unfold maxBytes; omega) (by rw [lvs_len]; unfold maxLenN; omega) fun v1 S1 H1 => h v1 S1 ?_
  have e : lvs (X ++ [y]) = lvs X ++ [y.cs] := by rw [lvs_app]; rfl
  rw [e]; exact H1
theorem ready_ok (hj : s.jobs.length ≤ 12) (H : Cx B0 W S (mOwn x s m ++ R) ro) : wpC EM (.fn (.func 71) [] []) [.ptr x 0] S fun r S' => ∃ L, StS (rdy s.jobs) L ∧ L.length = (rdy s.jobs).length ∧ Cx B0 W S' (.sl r 4 (lvs L) :: (mOwn x s m ++ R)) ro := by
  refine wpC_fn (b := Try.a71) rfl rfl ?_
  unfold Try.a71 Try.a71x4 Try.a71x3 Try.a71x2 Try.a71x1 Try.a71x0
  repeat (first|refine zA ?_|refine zB rfl ?_|refine zC ?_|refine zD ?_|refine zE rfl ?_|refine zF ?_|refine zG ?_|refine zH ?_|refine zI ?_|refine zJ ?_|refine zK ?_|refine zL rfl ?_|refine zN rfl ?_)
  refine wp_row (j := 9) H 0 rfl rfl ?_
  refine wp_leno H 2 rfl ?_
  rw [lvs_len]
  have H := H.addNilS 4
  refine wp_bind (wp_loop (wpL_for s.jobs.length (fun i vs S1 => ∃ w : AV, vs = [I (i : Int), w] ∧ Cx B0 W S1 (.sl w 4 (lvs (rdy (s.jobs.take i))) :: (mOwn x s m ++ R)) ro) ?_ ?_ ⟨_, rfl, H⟩))
  · clear H
    rintro i vs S1 hlt ⟨w, rfl, H⟩
    refine wp_lss_t (by omega) ?_
    repeat (first|refine zA ?_|refine zB rfl ?_|refine zC ?_|refine zD ?_|refine zE rfl ?_|refine zF ?_|refine zG ?_|refine zH ?_|refine zI ?_|refine zJ ?_|refine zK ?_|refine zL rfl ?_|refine zN rfl ?_)
    refine wp_bind ?_
    have hx : s.jobs[i]? = some s.jobs[i] := List.getElem?_eq_getElem hlt
    refine wp_ownN (v := m.vj) H 3 rfl hx ?_
    refine wp_tmpN H rfl rfl rfl fun q S2 H => ?_
    have H : Cx B0 W S2 (.sl w 4 (lvs (rdy (s.jobs.take i))) :: (mOwn x s m ++ R)) (.pt q 0 s.jobs[i].cs :: ro) := H
    repeat (first|refine zA ?_|refine zB rfl ?_|refine zC ?_|refine zD ?_|refine zE rfl ?_|refine zF ?_|refine zG ?_|refine zH ?_|refine zI ?_|refine zJ ?_|refine zK ?_|refine zL rfl ?_|refine zN rfl ?_)
    refine wp_ld H (o := 1) (cs := s.jobs[i].cs) (by repeat (first | exact List.Mem.head _ | apply List.Mem.tail)) rfl ?_
    have hf := filter_succ (p := fun x => decide (x.st = 3)) hlt
    refine wp_eql (fun h3 => ?_) (fun h3 => ?_)
    · rw [if_pos (by simpa using h3)] at hf
      refine wp_bind ?_
      repeat (first|refine zA ?_|refine zB rfl ?_|refine zC ?_|refine zD ?_|refine zE rfl ?_|refine zF ?_|refine zG ?_|refine zH ?_|refine zI ?_|refine zJ ?_|refine zK ?_|refine zL rfl ?_|refine zN rfl ?_)
      refine wp_ldn H (o := 0) (n := 4) (cs := s.jobs[i].cs) (by repeat (first | exact List.Mem.head _ | apply List.Mem.tail)) rfl ?_
      refine wp_pushL (y := s.jobs[i]) H (by have := List.length_filter_le (fun x : Lv => decide (x.st = 3)) (s.jobs.take i); rw [List.length_take] at this; unfold rdy; omega) fun v1 S3 H => ?_
      refine wp_ret ?_
      show wp EM _ _ _
      refine wp_ret ?_
      show wp EM _ _ _
      refine wp_add64 (by omega) (by omega) (wp_ret (.inl ⟨rfl, v1, rfl, ?_⟩))
      have e : rdy (s.jobs.take (i + 1)) = rdy (s.jobs.take i) ++ [s.jobs[i]] := hf
      rw [e]; exact H.tl
    · rw [if_neg (by simpa using h3)] at hf
      refine wp_bind ?_
      repeat (first|refine zA ?_|refine zB rfl ?_|refine zC ?_|refine zD ?_|refine zE rfl ?_|refine zF ?_|refine zG ?_|refine zH ?_|refine zI ?_|refine zJ ?_|refine zK ?_|refine zL rfl ?_|refine zN rfl ?_)
      refine wp_ret ?_
      show wp EM _ _ _
      refine wp_ret ?_
      show wp EM _ _ _
      refine wp_add64 (by omega) (by omega) (wp_ret (.inl ⟨rfl, w, rfl, ?_⟩))
      have e : rdy (s.jobs.take (i + 1)) = rdy (s.jobs.take i) := hf
      rw [e]; exact H.tl
  · clear H
    rintro vs S1 ⟨w, rfl, H⟩
    rw [List.take_length] at H
    refine wp_lss_f (by omega) ?_
    repeat (first|refine zA ?_|refine zB rfl ?_|refine zC ?_|refine zD ?_|refine zE rfl ?_|refine zF ?_|refine zG ?_|refine zH ?_|refine zI ?_|refine zJ ?_|refine zK ?_|refine zL rfl ?_|refine zN rfl ?_)
    refine wp_ret ⟨by simp, ?_⟩
    show wp EM _ _ _
    refine wp_call (wpC_mono (sortL_ok (by have := List.length_filter_le (fun x : Lv => decide (x.st = 3)) s.jobs; unfold rdy; omega) H) fun r S2 q => ?_)
    exact wp_ret ⟨rfl, q⟩
end
end Go.Abs
namespace Go.Abs
open Go.Proofs
set_option maxRecDepth 100000
set_option linter.unusedVariables false
open Tsk (Tk tks tchk)
def uints (l : List Int) : List (List AV) := l.map fun n => [U n]
theorem uints_len (l : List Int) : (uints l).length = l.length := List.length_map ..
theorem uints_get? {l : List Int} {i : Nat} {n : Int} (h : l[i]? = some n) : (uints l)[i]? = some [U n] := by unfold uints; rw [List.getElem?_map, h]; rfl
/-- the first one of the greatest ones -/
def IsMax (l : List Int) (c : Nat) : Prop := ∃ z, l[c]? = some z ∧ (∀ (j : Nat) y, l[j]? = some y → y ≤ z) ∧ ∀ (j : Nat) y, j < c → l[j]? = some y → y < z
def IsLeast (z : Lv) (l : List Lv) : Prop := z ∈ l ∧ ∀ y ∈ l, ¬ y.lt z
def Ms.word (s : Ms) (i : Int) : Int := if i = -1 then 18446744073709551615 else match s.jobs[i.toNat]? with
  | some x => x.key
  | none => 0
def Ms.words (s : Ms) : List Int := s.runs.map s.word
/-- to balance -/
def Bal (s s' : Ms) : Prop := (rdy s.jobs = [] ∧ s' = s) ∨ ∃ z c w, IsLeast z (rdy s.jobs) ∧ IsMax s.words c ∧ s.words[c]? = some w ∧ s' = if w ≤ z.key then s else { s with flags := s.flags.set c true }
theorem StS.head {l m : List Lv} {z : Lv} (h : StS l (z :: m)) : IsLeast z l := by
  refine ⟨h.mem.1 (List.mem_cons_self ..), fun y hy hlt => ?_⟩
  rcases List.mem_cons.1 (h.mem.2 hy) with rfl | hy
  · exact Lv.lt_irrefl _ hlt
  · exact (List.pairwise_cons.1 h.1).1 y hy hlt
section
variable {B0 S : AH} {W : List Nat} {own R : List Own} {ro : List Fct} {Q : Post} {k : AV → AC} {v : AV} {x : Nat} {s : Ms} {m : Mv}
set_option maxHeartbeats 1000000 in
theorem lives_ok (hj : s.jobs.length ≤ 12) (H : Cx B0 W S (mOwn x s m ++ R) ro) : wpC EM (.fn (.func 43) [] []) [m.vj] S fun r S' => ∃ L, StS (liv s.jobs) L ∧ L.length = (liv s.jobs).length ∧ Cx B0 W S' (.sl r 4 (lvs L) :: (mOwn x s m ++ R)) ro := by
  refine wpC_fn (b := Try.a43) rfl rfl ?_
  unfold Try.a43 Try.a43x5 Try.a43x4 Try.a43x3 Try.a43x2 Try.a43x1 Try.a43x0
  refine wp_leno H 2 rfl ?_
  rw [lvs_len]
  have H := H.addNilS 4
  refine wp_bind (wp_loop (wpL_for s.jobs.length (fun i vs S1 => ∃ w : AV, vs = [I (i : Int), w] ∧ Cx B0 W S1 (.sl w 4 (lvs (liv (s.jobs.take i))) :: (mOwn x s m ++ R)) ro) ?_ ?_ ⟨_, rfl, H⟩))
  · clear H
    rintro i vs S1 hlt ⟨w, rfl, H⟩
    refine wp_lss_t (by omega) ?_
    repeat (first|refine zA ?_|refine zB rfl ?_|refine zC ?_|refine zD ?_|refine zE rfl ?_|refine zF ?_|refine zG ?_|refine zH ?_|refine zI ?_|refine zJ ?_|refine zK ?_|refine zL rfl ?_|refine zN rfl ?_)
    refine wp_bind ?_
    have hx : s.jobs[i]? = some s.jobs[i] := List.getElem?_eq_getElem hlt
    refine wp_ownN (v := m.vj) H 3 rfl hx ?_
    refine wp_tmpN H rfl rfl rfl fun q S2 H => ?_
    have H : Cx B0 W S2 (.sl w 4 (lvs (liv (s.jobs.take i))) :: (mOwn x s m ++ R)) (.pt q 0 s.jobs[i].cs :: ro) := H
    have hf := filter_succ (p := isLive) hlt
    have yes : isLive s.jobs[i] = true → wp EM (.bind (Try.a43x0 [I (i : Int), w] (.ptr q 0) (B true)) none (fun v19 => .ret .normal [nth v19 0]) (fun v19 => [nth v19 0])) S2 (boundTo EM (some 1) (fun v4 => .op (.bin .add (I (i : Int)) (I 1)) fun v5 => .ret .normal [v5, nth v4 0]) (fun v4 => [I (i : Int), nth v4 0]) fun t vs1 S1 => (t = .normal ∧ ∃ w : AV, vs1 = [I ((i + 1 : Nat) : Int), w] ∧ Cx B0 W S1 (.sl w 4 (lvs (liv (s.jobs.take (i + 1)))) :: (mOwn x s m ++ R)) ro) ∨ (t ≠ .normal ∧ boundTo EM (some 0) (fun v2 => .call (.fn (.func 60) [] []) [nth v2 1, .fn (.func 31) [] []] fun v3 => .ret .ret [nth v2 1]) (fun v2 => [Ns]) (fun t vs S' => t = .ret ∧ ∃ L, StS (liv s.jobs) L ∧ L.length = (liv s.jobs).length ∧ Cx B0 W S' (.sl (oneOf vs) 4 (lvs L) :: (mOwn x s m ++ R)) ro) t [nth vs1 0, nth vs1 1] S1)) := by
      intro hl
      rw [if_pos hl] at hf
      unfold Try.a43x0
      refine wp_bind ?_
      repeat (first|refine zA ?_|refine zB rfl ?_|refine zC ?_|refine zD ?_|refine zE rfl ?_|refine zF ?_|refine zG ?_|refine zH ?_|refine zI ?_|refine zJ ?_|refine zK ?_|refine zL rfl ?_|refine zN rfl ?_)
      refine wp_ldn H (o := 0) (n := 4) (cs := s.jobs[i].cs) (by repeat (first | exact List.Mem.head _ | apply List.Mem.tail)) rfl ?_
      refine wp_pushL (y := s.jobs[i]) H (by have := List.length_filter_le isLive (s.jobs.take i); rw [List.length_take] at this; unfold liv; omega) fun v1 S3 H => ?_
      refine wp_ret ?_
      show wp EM _ _ _
      refine wp_ret ?_
      show wp EM _ _ _
      refine wp_add64 (by omega) (by omega) (wp_ret (.inl ⟨rfl, v1, rfl, ?_⟩))
      have e : liv (s.jobs.take (i + 1)) = liv (s.jobs.take i) ++ [s.jobs[i]] := hf
      rw [e]; exact H.tl
    unfold Try.a43x0 at yes
    repeat (first|refine zA ?_|refine zB rfl ?_|refine zC ?_|refine zD ?_|refine zE rfl ?_|refine zF ?_|refine zG ?_|refine zH ?_|refine zI ?_|refine zJ ?_|refine zK ?_|refine zL rfl ?_|refine zN rfl ?_)
    refine wp_ld H (o := 1) (cs := s.jobs[i].cs) (by repeat (first | exact List.Mem.head _ | apply List.Mem.tail)) rfl ?_
    refine wp_eql (fun h2 => ?_) (fun h2 => ?_)
    · repeat (first|refine zA ?_|refine zB rfl ?_|refine zC ?_|refine zD ?_|refine zE rfl ?_|refine zF ?_|refine zG ?_|refine zH ?_|refine zI ?_|refine zJ ?_|refine zK ?_|refine zL rfl ?_|refine zN rfl ?_)
      exact yes (by simp [isLive, h2])
    repeat (first|refine zA ?_|refine zB rfl ?_|refine zC ?_|refine zD ?_|refine zE rfl ?_|refine zF ?_|refine zG ?_|refine zH ?_|refine zI ?_|refine zJ ?_|refine zK ?_|refine zL rfl ?_|refine zN rfl ?_)
    refine wp_ld H (o := 1) (cs := s.jobs[i].cs) (by repeat (first | exact List.Mem.head _ | apply List.Mem.tail)) rfl ?_
    repeat (first|refine zA ?_|refine zB rfl ?_|refine zC ?_|refine zD ?_|refine zE rfl ?_|refine zF ?_|refine zG ?_|refine zH ?_|refine zI ?_|refine zJ ?_|refine zK ?_|refine zL rfl ?_|refine zN rfl ?_)
    refine wp_eql (fun h3 => ?_) (fun h3 => ?_)
    · repeat (first|refine zA ?_|refine zB rfl ?_|refine zC ?_|refine zD ?_|refine zE rfl ?_|refine zF ?_|refine zG ?_|refine zH ?_|refine zI ?_|refine zJ ?_|refine zK ?_|refine zL rfl ?_|refine zN rfl ?_)
      exact yes (by simp [isLive, h3])
    repeat (first|refine zA ?_|refine zB rfl ?_|refine zC ?_|refine zD ?_|refine zE rfl ?_|refine zF ?_|refine zG ?_|refine zH ?_|refine zI ?_|refine zJ ?_|refine zK ?_|refine zL rfl ?_|refine zN rfl ?_)
    refine wp_ld H (o := 1) (cs := s.jobs[i].cs) (by repeat (first | exact List.Mem.head _ | apply List.Mem.tail)) rfl ?_
    repeat (first|refine zA ?_|refine zB rfl ?_|refine zC ?_|refine zD ?_|refine zE rfl ?_|refine zF ?_|refine zG ?_|refine zH ?_|refine zI ?_|refine zJ ?_|refine zK ?_|refine zL rfl ?_|refine zN rfl ?_)
    refine wp_eql (fun h4 => ?_) (fun h4 => ?_)
    · repeat (first|refine zA ?_|refine zB rfl ?_|refine zC ?_|refine zD ?_|refine zE rfl ?_|refine zF ?_|refine zG ?_|refine zH ?_|refine zI ?_|refine zJ ?_|refine zK ?_|refine zL rfl ?_|refine zN rfl ?_)
      exact yes (by simp [isLive, h4])
    clear yes
    repeat (first|refine zA ?_|refine zB rfl ?_|refine zC ?_|refine zD ?_|refine zE rfl ?_|refine zF ?_|refine zG ?_|refine zH ?_|refine zI ?_|refine zJ ?_|refine zK ?_|refine zL rfl ?_|refine zN rfl ?_)
    rw [if_neg (by simp [isLive, h2, h3, h4])] at hf
    refine wp_bind ?_
    repeat (first|refine zA ?_|refine zB rfl ?_|refine zC ?_|refine zD ?_|refine zE rfl ?_|refine zF ?_|refine zG ?_|refine zH ?_|refine zI ?_|refine zJ ?_|refine zK ?_|refine zL rfl ?_|refine zN rfl ?_)
    refine wp_ret ?_
    show wp EM _ _ _
    refine wp_ret ?_
    show wp EM _ _ _
    refine wp_add64 (by omega) (by omega) (wp_ret (.inl ⟨rfl, w, rfl, ?_⟩))
    have e : liv (s.jobs.take (i + 1)) = liv (s.jobs.take i) := hf
    rw [e]; exact H.tl
  · clear H
    rintro vs S1 ⟨w, rfl, H⟩
    rw [List.take_length] at H
    refine wp_lss_f (by omega) ?_
    repeat (first|refine zA ?_|refine zB rfl ?_|refine zC ?_|refine zD ?_|refine zE rfl ?_|refine zF ?_|refine zG ?_|refine zH ?_|refine zI ?_|refine zJ ?_|refine zK ?_|refine zL rfl ?_|refine zN rfl ?_)
    refine wp_ret ⟨by simp, ?_⟩
    show wp EM _ _ _
    refine wp_call (wpC_mono (sortL_ok (by have := List.length_filter_le isLive s.jobs; unfold liv; omega) H) fun r S2 q => ?_)
    exact wp_ret ⟨rfl, q⟩
theorem greatest_ok {l : List Int} (hl : l.length < 1000000) (hv : RoSl S v 1 (uints l)) : wpC EM (.fn (.func 95) [] []) [v, .fn (.func 48) [] []] S fun r S' => ((l = [] ∧ r = I (-1)) ∨ ∃ c : Nat, IsMax l c ∧ r = I (c : Int)) ∧ Grows S S' := by
  refine wpC_fn (b := Try.a95) rfl rfl ?_
  have H := Cx.ro1 hv
  unfold Try.a95 Try.a95x4 Try.a95x3 Try.a95x2 Try.a95x1 Try.a95x0
  refine wp_len H (by repeat (first | exact List.Mem.head _ | apply List.Mem.tail)) ?_
  rw [uints_len]
  refine wp_bind (wp_loop (wpL_for l.length (fun i vs S1 => ∃ w : AV, vs = [I (i : Int), w] ∧ ((i = 0 ∧ w = I (-1)) ∨ ∃ c : Nat, c < i ∧ w = I (c : Int) ∧ ∃ z, l[c]? = some z ∧ (∀ (j : Nat) y, j < i → l[j]? = some y → y ≤ z) ∧ ∀ (j : Nat) y, j < c → l[j]? = some y → y < z) ∧ Cx S [] S1 [] [.sl v 1 (uints l)]) ?_ ?_ ⟨_, rfl, .inl ⟨rfl, rfl⟩, H⟩))
  · clear H
    rintro i vs S1 hlt ⟨w, rfl, hw, H⟩
    have hx : l[i]? = some l[i] := List.getElem?_eq_getElem hlt
    generalize l[i] = a at hx
    refine wp_lss_t (by omega) ?_
    repeat (first|refine zA ?_|refine zB rfl ?_|refine zC ?_|refine zD ?_|refine zE rfl ?_|refine zF ?_|refine zG ?_|refine zH ?_|refine zI ?_|refine zJ ?_|refine zK ?_|refine zL rfl ?_|refine zN rfl ?_)
    refine wp_bind ?_
    refine wp_saddr H (by repeat (first | exact List.Mem.head _ | apply List.Mem.tail)) (uints_get? hx) fun p o H => ?_
    refine wp_load0 H (cs := [U a]) (by repeat (first | exact List.Mem.head _ | apply List.Mem.tail)) rfl ?_
    have take : ∀ S2, (∀ (j : Nat) y, j < i → l[j]? = some y → y < a) → Cx S [] S2 [] [.sl v 1 (uints l)] → ∃ w : AV, [I ((i : Int) + 1), I (i : Int)] = [I ((i + 1 : Nat) : Int), w] ∧ ((i + 1 = 0 ∧ w = I (-1)) ∨ ∃ c : Nat, c < i + 1 ∧ w = I (c : Int) ∧ ∃ z, l[c]? = some z ∧ (∀ (j : Nat) y, j < i + 1 → l[j]? = some y → y ≤ z) ∧ ∀ (j : Nat) y, j < c → l[j]? = some y → y < z) ∧ Cx S [] S2 [] [.sl v 1 (uints l)] := by
      intro S2 h H
      refine ⟨_, rfl, .inr ⟨i, by omega, rfl, a, hx, fun j y hj hy => ?_, fun j y hj hy => h j y hj hy⟩, H⟩
      by_cases e : j = i
      · subst e; rw [hx] at hy; cases hy; omega
      · have := h j y (by omega) hy; omega
    rcases hw with ⟨rfl, rfl⟩ | ⟨c, hc, rfl, z, hz, hz1, hz2⟩
    · refine wp_lss_t (by omega) ?_
      repeat (first|refine zA ?_|refine zB rfl ?_|refine zC ?_|refine zD ?_|refine zE rfl ?_|refine zF ?_|refine zG ?_|refine zH ?_|refine zI ?_|refine zJ ?_|refine zK ?_|refine zL rfl ?_|refine zN rfl ?_)
      refine wp_bind ?_
      repeat (first|refine zA ?_|refine zB rfl ?_|refine zC ?_|refine zD ?_|refine zE rfl ?_|refine zF ?_|refine zG ?_|refine zH ?_|refine zI ?_|refine zJ ?_|refine zK ?_|refine zL rfl ?_|refine zN rfl ?_)
      refine wp_ret ?_
      show wp EM _ _ _
      refine wp_ret ?_
      show wp EM _ _ _
      refine wp_add64 (by omega) (by omega) (wp_ret (.inl ⟨rfl, take _ (fun j y hj => absurd hj (by omega)) H.tl⟩))
    · refine wp_lss_f (by omega) ?_
      repeat (first|refine zA ?_|refine zB rfl ?_|refine zC ?_|refine zD ?_|refine zE rfl ?_|refine zF ?_|refine zG ?_|refine zH ?_|refine zI ?_|refine zJ ?_|refine zK ?_|refine zL rfl ?_|refine zN rfl ?_)
      refine wp_saddr H (by repeat (first | exact List.Mem.head _ | apply List.Mem.tail)) (uints_get? hz) fun p2 o2 H => ?_
      repeat (first|refine zA ?_|refine zB rfl ?_|refine zC ?_|refine zD ?_|refine zE rfl ?_|refine zF ?_|refine zG ?_|refine zH ?_|refine zI ?_|refine zJ ?_|refine zK ?_|refine zL rfl ?_|refine zN rfl ?_)
      refine wp_load0 H (cs := [U z]) (by repeat (first | exact List.Mem.head _ | apply List.Mem.tail)) rfl ?_
      repeat (first|refine zA ?_|refine zB rfl ?_|refine zC ?_|refine zD ?_|refine zE rfl ?_|refine zF ?_|refine zG ?_|refine zH ?_|refine zI ?_|refine zJ ?_|refine zK ?_|refine zL rfl ?_|refine zN rfl ?_)
      refine wp_callV H compareU_ok fun S2 H => ?_
      repeat (first|refine zA ?_|refine zB rfl ?_|refine zC ?_|refine zD ?_|refine zE rfl ?_|refine zF ?_|refine zG ?_|refine zH ?_|refine zI ?_|refine zJ ?_|refine zK ?_|refine zL rfl ?_|refine zN rfl ?_)
      have keep : ¬ z < a → ∃ w : AV, [I ((i : Int) + 1), I (c : Int)] = [I ((i + 1 : Nat) : Int), w] ∧ ((i + 1 = 0 ∧ w = I (-1)) ∨ ∃ c : Nat, c < i + 1 ∧ w = I (c : Int) ∧ ∃ z, l[c]? = some z ∧ (∀ (j : Nat) y, j < i + 1 → l[j]? = some y → y ≤ z) ∧ ∀ (j : Nat) y, j < c → l[j]? = some y → y < z) ∧ Cx S [] S2 [] [.sl v 1 (uints l)] := by
        intro h
        refine ⟨_, rfl, .inr ⟨c, by omega, rfl, z, hz, fun j y hj hy => ?_, hz2⟩, H.tl.tl⟩
        by_cases e : j = i
        · subst e; rw [hx] at hy; cases hy; omega
        · exact hz1 j y (by omega) hy
      refine wp_gtr (fun hg => ?_) (fun hg => ?_)
      · have hza : z < a := by
          unfold cmpI at hg
          split at hg
          · omega
          · split at hg <;> omega
        repeat (first|refine zA ?_|refine zB rfl ?_|refine zC ?_|refine zD ?_|refine zE rfl ?_|refine zF ?_|refine zG ?_|refine zH ?_|refine zI ?_|refine zJ ?_|refine zK ?_|refine zL rfl ?_|refine zN rfl ?_)
        refine wp_bind ?_
        repeat (first|refine zA ?_|refine zB rfl ?_|refine zC ?_|refine zD ?_|refine zE rfl ?_|refine zF ?_|refine zG ?_|refine zH ?_|refine zI ?_|refine zJ ?_|refine zK ?_|refine zL rfl ?_|refine zN rfl ?_)
        refine wp_ret ?_
        show wp EM _ _ _
        refine wp_ret ?_
        show wp EM _ _ _
        refine wp_add64 (by omega) (by omega) (wp_ret (.inl ⟨rfl, take _ (fun j y hj hy => by have := hz1 j y hj hy; omega) H.tl.tl⟩))
      · have hza : ¬ z < a := by
          intro h
          unfold cmpI at hg
          rw [if_neg (by omega), if_pos h] at hg; omega
        repeat (first|refine zA ?_|refine zB rfl ?_|refine zC ?_|refine zD ?_|refine zE rfl ?_|refine zF ?_|refine zG ?_|refine zH ?_|refine zI ?_|refine zJ ?_|refine zK ?_|refine zL rfl ?_|refine zN rfl ?_)
        refine wp_bind ?_
        repeat (first|refine zA ?_|refine zB rfl ?_|refine zC ?_|refine zD ?_|refine zE rfl ?_|refine zF ?_|refine zG ?_|refine zH ?_|refine zI ?_|refine zJ ?_|refine zK ?_|refine zL rfl ?_|refine zN rfl ?_)
        refine wp_ret ?_
        show wp EM _ _ _
        refine wp_ret ?_
        show wp EM _ _ _
        refine wp_add64 (by omega) (by omega) (wp_ret (.inl ⟨rfl, keep hza⟩))
  · clear H
    rintro vs S1 ⟨w, rfl, hw, H⟩
    refine wp_lss_f (by omega) ?_
    repeat (first|refine zA ?_|refine zB rfl ?_|refine zC ?_|refine zD ?_|refine zE rfl ?_|refine zF ?_|refine zG ?_|refine zH ?_|refine zI ?_|refine zJ ?_|refine zK ?_|refine zL rfl ?_|refine zN rfl ?_)
    refine wp_ret ⟨by simp, ?_⟩
    show wp EM _ _ _
    refine wp_ret ⟨rfl, ?_, H.grows⟩
    rcases hw with ⟨h0, rfl⟩ | ⟨c, hc, rfl, z, hz, hz1, hz2⟩
    · exact .inl ⟨List.eq_nil_of_length_eq_zero h0, rfl⟩
    · exact .inr ⟨c, ⟨z, hz, fun j y hy => hz1 j y (List.getElem?_eq_some_iff.1 hy).1 hy, hz2⟩, rfl⟩
theorem worst_ok {l : List Int} {key : Int} (hl : l.length < 1000000) (hv : RoSl S v 1 (uints l)) : wpC EM (.fn (.func 80) [] []) [v, U key] S fun r S' => ((l = [] ∧ r = .tup [I (-1), B false]) ∨ ∃ (c : Nat) (w : Int), IsMax l c ∧ l[c]? = some w ∧ r = if w ≤ key then .tup [I (-1), B false] else .tup [I (c : Int), B true]) ∧ Grows S S' := by
  refine wpC_fn (b := Try.a80) rfl rfl ?_
  have H := Cx.ro1 hv
  unfold Try.a80 Try.a80x0
  refine wp_callG H (greatest_ok hl (H.roSl (by repeat (first | exact List.Mem.head _ | apply List.Mem.tail)))) fun r S1 hr H => ?_
  rcases hr with ⟨h0, rfl⟩ | ⟨c, hc, rfl⟩
  · refine wp_lss_t (by omega) ?_
    repeat (first|refine zA ?_|refine zB rfl ?_|refine zC ?_|refine zD ?_|refine zE rfl ?_|refine zF ?_|refine zG ?_|refine zH ?_|refine zI ?_|refine zJ ?_|refine zK ?_|refine zL rfl ?_|refine zN rfl ?_)
    exact wp_ret ⟨rfl, .inl ⟨h0, rfl⟩, H.grows⟩
  · obtain ⟨z, hz, _⟩ := id hc
    refine wp_lss_f (by omega) ?_
    repeat (first|refine zA ?_|refine zB rfl ?_|refine zC ?_|refine zD ?_|refine zE rfl ?_|refine zF ?_|refine zG ?_|refine zH ?_|refine zI ?_|refine zJ ?_|refine zK ?_|refine zL rfl ?_|refine zN rfl ?_)
    refine wp_saddr H (by repeat (first | exact List.Mem.head _ | apply List.Mem.tail)) (uints_get? hz) fun p2 o2 H => ?_
    repeat (first|refine zA ?_|refine zB rfl ?_|refine zC ?_|refine zD ?_|refine zE rfl ?_|refine zF ?_|refine zG ?_|refine zH ?_|refine zI ?_|refine zJ ?_|refine zK ?_|refine zL rfl ?_|refine zN rfl ?_)
    refine wp_load0 H (cs := [U z]) (by repeat (first | exact List.Mem.head _ | apply List.Mem.tail)) rfl ?_
    repeat (first|refine zA ?_|refine zB rfl ?_|refine zC ?_|refine zD ?_|refine zE rfl ?_|refine zF ?_|refine zG ?_|refine zH ?_|refine zI ?_|refine zJ ?_|refine zK ?_|refine zL rfl ?_|refine zN rfl ?_)
    refine wp_leq (fun h => ?_) (fun h => ?_)
    · repeat (first|refine zA ?_|refine zB rfl ?_|refine zC ?_|refine zD ?_|refine zE rfl ?_|refine zF ?_|refine zG ?_|refine zH ?_|refine zI ?_|refine zJ ?_|refine zK ?_|refine zL rfl ?_|refine zN rfl ?_)
      exact wp_ret ⟨rfl, .inr ⟨c, z, hc, hz, by rw [if_pos h]; rfl⟩, H.grows⟩
    · repeat (first|refine zA ?_|refine zB rfl ?_|refine zC ?_|refine zD ?_|refine zE rfl ?_|refine zF ?_|refine zG ?_|refine zH ?_|refine zI ?_|refine zJ ?_|refine zK ?_|refine zL rfl ?_|refine zN rfl ?_)
      exact wp_ret ⟨rfl, .inr ⟨c, z, hc, hz, by rw [if_neg (by omega)]; rfl⟩, H.grows⟩
end
end Go.Abs
namespace Go.Abs
open Go.Proofs
set_option maxRecDepth 100000
set_option linter.unusedVariables false
open Tsk (Tk tks tchk)
theorem e_ptrNil {M : Mach} {S : AH} {t id off : Nat} {n : Bool} (ht : typc M.P t = 1) : evalOp M.P (.eq t n (.ptr id off) Np) S = some (B n, S) := by
  show pur (pEq M.P t n (.ptr id off) Np) S = _
  have : aeq M.P t (.ptr id off) Np = some false := by
    unfold aeq
    rw [ht]
    rfl
  unfold pEq
  rw [this]
  cases n <;> rfl
section
variable {B0 S : AH} {W : List Nat} {own R : List Own} {ro : List Fct} {Q : Post} {k : AV → AC} {v : AV} {x : Nat} {s : Ms} {m : Mv}
theorem jobsSome (H : Cx B0 W S (mOwn x s m ++ R) ro) (hj : 0 < s.jobs.length) : evalOp EM.P (.eq 22 false m.vj Ns) S = some (B false, S) := by
  have h : slW S m.vj 4 (lvs s.jobs) := H.oh _ (List.mem_of_getElem? (i := 2) rfl)
  generalize m.vj = v at h
  rcases h with ⟨_, h⟩ | ⟨id, off, c, (⟨_, _, _, rfl⟩ | ⟨_, _, _, rfl⟩), _⟩
  · have := congrArg List.length h
    rw [lvs_len] at this
    simp at this; rw [this] at hj; simp at hj
  · show evalOp EM.P (.eq 22 false _ Ns) S = some (B false, S)
    kernel_rfl
  · show evalOp EM.P (.eq 22 false _ Ns) S = some (B false, S)
    kernel_rfl
theorem nothing_ok (hj : 0 < s.jobs.length) (H : Cx B0 W S (mOwn x s m ++ R) ro) : wpC EM (.fn (.func 38) [] []) [.ptr x 0] S fun r S' => r = B false ∧ S' = S := by
  refine wpC_fn (b := Try.a38) rfl rfl ?_
  unfold Try.a38 Try.a38x0
  refine wp_op (e_ptrNil (by kernel_rfl)) ?_
  repeat (first|refine zA ?_|refine zB rfl ?_|refine zC ?_|refine zD ?_|refine zE rfl ?_|refine zF ?_|refine zG ?_|refine zH ?_|refine zI ?_|refine zJ ?_|refine zK ?_|refine zL rfl ?_|refine zN rfl ?_)
  refine wp_row (j := 9) H 0 rfl rfl ?_
  repeat (first|refine zA ?_|refine zB rfl ?_|refine zC ?_|refine zD ?_|refine zE rfl ?_|refine zF ?_|refine zG ?_|refine zH ?_|refine zI ?_|refine zJ ?_|refine zK ?_|refine zL rfl ?_|refine zN rfl ?_)
  refine wp_op (jobsSome H hj) ?_
  repeat (first|refine zA ?_|refine zB rfl ?_|refine zC ?_|refine zD ?_|refine zE rfl ?_|refine zF ?_|refine zG ?_|refine zH ?_|refine zI ?_|refine zJ ?_|refine zK ?_|refine zL rfl ?_|refine zN rfl ?_)
  exact wp_ret ⟨rfl, rfl, rfl⟩
theorem words_take {s : Ms} {i : Nat} {r : Int} (h : s.runs[i]? = some r) : s.words.take (i + 1) = s.words.take i ++ [s.word r] := by
  obtain ⟨hi, rfl⟩ := List.getElem?_eq_some_iff.1 h
  unfold Ms.words
  rw [← List.map_take, ← List.map_take, List.take_succ_eq_append_getElem hi, List.map_append]
  rfl
theorem uints_app (a b : List Int) : uints (a ++ b) = uints a ++ uints b := List.map_append ..
set_option maxHeartbeats 1000000 in
theorem balance_ok (wf : s.Wf) (hj : s.jobs.length ≤ 12) (H : Cx B0 W S (mOwn x s m ++ R) ro) : wpC EM (.fn (.func 70) [] []) [.ptr x 0] S fun _ S' => ∃ s', Bal s s' ∧ Cx B0 W S' (mOwn x s' m ++ R) ro := by
  refine wpC_fn (b := Try.a70) rfl rfl ?_
  unfold Try.a70 Try.a70x7 Try.a70x6 Try.a70x5 Try.a70x4 Try.a70x3 Try.a70x2 Try.a70x1 Try.a70x0
  refine wp_call (wpC_mono (ready_ok hj H) fun l S1 q => ?_)
  obtain ⟨L, hL, hLl, H⟩ := q
  refine wp_leno H 0 rfl ?_
  rw [lvs_len]
  refine wp_eql (fun h0 => ?_) (fun h0 => ?_)
  · repeat (first|refine zA ?_|refine zB rfl ?_|refine zC ?_|refine zD ?_|refine zE rfl ?_|refine zF ?_|refine zG ?_|refine zH ?_|refine zI ?_|refine zJ ?_|refine zK ?_|refine zL rfl ?_|refine zN rfl ?_)
    refine wp_ret ⟨rfl, s, .inl ⟨?_, rfl⟩, H.dropAt 0⟩
    exact List.eq_nil_of_length_eq_zero (by omega)
  repeat (first|refine zA ?_|refine zB rfl ?_|refine zC ?_|refine zD ?_|refine zE rfl ?_|refine zF ?_|refine zG ?_|refine zH ?_|refine zI ?_|refine zJ ?_|refine zK ?_|refine zL rfl ?_|refine zN rfl ?_)
  refine wp_row (j := 12) H 1 rfl rfl ?_
  refine wp_leno H 6 rfl ?_
  rw [ints_len]
  have hrl := wf.rl
  have hc := wf.c64
  have H := H.addNilS 1
  refine wp_bind (wp_loop (wpL_for s.runs.length (fun i vs S1 => ∃ w u : AV, vs = [I (i : Int), w, u] ∧ Cx B0 W S1 (.sl w 1 (uints (s.words.take i)) :: .sl l 4 (lvs L) :: (mOwn x s m ++ R)) ro) ?_ ?_ ⟨_, _, rfl, H⟩))
  · clear H
    rintro i vs S1 hlt ⟨w, u, rfl, H⟩
    have hr : s.runs[i]? = some s.runs[i] := List.getElem?_eq_getElem hlt
    have hrb := wf.rb _ (List.mem_of_getElem? hr)
    generalize s.runs[i] = r at hr hrb
    have hwt := words_take hr
    refine wp_lss_t (by omega) ?_
    repeat (first|refine zA ?_|refine zB rfl ?_|refine zC ?_|refine zD ?_|refine zE rfl ?_|refine zF ?_|refine zG ?_|refine zH ?_|refine zI ?_|refine zJ ?_|refine zK ?_|refine zL rfl ?_|refine zN rfl ?_)
    refine wp_bind ?_
    refine wp_at (es := 1) H 7 rfl (by rw [ints_len]; exact hlt) fun id off hp => ?_
    refine wp_atL0 H 7 rfl hp (ints_get? hr) rfl ?_
    have fin : ∀ {S2 : AH}, Cx B0 W S2 (.sl w 1 (uints (s.words.take i)) :: .sl l 4 (lvs L) :: (mOwn x s m ++ R)) ro → wp EM (.op (.bslice 1 1 [U 0] [(0, 1, U (s.word r))]) fun v14 => .op (.append 1 8 w v14) fun v15 => .ret .normal [v15, U (s.word r)]) S2 fun t vs1 S1 => t = .normal ∧ ∃ w u, vs1 = [w, u] ∧ Cx B0 W S1 (.sl w 1 (uints (s.words.take (i + 1))) :: .sl l 4 (lvs L) :: (mOwn x s m ++ R)) ro := by
      intro S2 H
      have hlw : (uints (s.words.take i)).length ≤ 64 := by rw [uints_len, List.length_take]; unfold Ms.words; rw [List.length_map]; omega
      refine wp_push (x := U (s.word r)) H 0 rfl rfl rfl rfl (by unfold maxBytes; omega) (by unfold maxLenN; omega) fun v1 S3 H => ?_
      refine wp_ret ⟨rfl, _, _, rfl, ?_⟩
      rw [hwt, uints_app]; exact H
    refine wp_neq (fun hne => ?_) (fun he => ?_)
    · refine wp_bind ?_
      repeat (first|refine zA ?_|refine zB rfl ?_|refine zC ?_|refine zD ?_|refine zE rfl ?_|refine zF ?_|refine zG ?_|refine zH ?_|refine zI ?_|refine zJ ?_|refine zK ?_|refine zL rfl ?_|refine zN rfl ?_)
      refine wp_row (j := 9) H 2 rfl rfl ?_
      obtain ⟨n, rfl⟩ : ∃ n : Nat, r = (n : Int) := ⟨r.toNat, by omega⟩
      have hn : n < s.jobs.length := by omega
      have hjx : s.jobs[n]? = some s.jobs[n] := List.getElem?_eq_getElem hn
      refine wp_at (es := 4) H 4 rfl (by rw [lvs_len]; exact hn) fun id2 off2 hp2 => ?_
      repeat (first|refine zA ?_|refine zB rfl ?_|refine zC ?_|refine zD ?_|refine zE rfl ?_|refine zF ?_|refine zG ?_|refine zH ?_|refine zI ?_|refine zJ ?_|refine zK ?_|refine zL rfl ?_|refine zN rfl ?_)
      refine wp_atL H 4 rfl hp2 (lvs_get? hjx) (j := 3) rfl ?_
      refine wp_ret ?_
      have e : s.word (n : Int) = s.jobs[n].key := by
        unfold Ms.word
        rw [if_neg (by omega), Int.toNat_natCast, hjx]
      rw [e] at fin
      refine wp_mono (fin H) fun t vs1 S3 q => ?_
      obtain ⟨rfl, w2, u2, rfl, H⟩ := q
      show wp EM _ _ _
      refine wp_add64 (by omega) (by omega) (wp_ret (.inl ⟨rfl, w2, u2, rfl, H⟩))
    · subst he
      refine wp_bind ?_
      repeat (first|refine zA ?_|refine zB rfl ?_|refine zC ?_|refine zD ?_|refine zE rfl ?_|refine zF ?_|refine zG ?_|refine zH ?_|refine zI ?_|refine zJ ?_|refine zK ?_|refine zL rfl ?_|refine zN rfl ?_)
      refine wp_ret ?_
      have e : s.word (-1) = 18446744073709551615 := rfl
      rw [e] at fin
      refine wp_mono (fin H) fun t vs1 S3 q => ?_
      obtain ⟨rfl, w2, u2, rfl, H⟩ := q
      show wp EM _ _ _
      refine wp_add64 (by omega) (by omega) (wp_ret (.inl ⟨rfl, w2, u2, rfl, H⟩))
  · clear H
    rintro vs S1 ⟨w, u, rfl, H⟩
    have hwl : s.words.length = s.runs.length := List.length_map ..
    rw [← hwl, List.take_length] at H
    refine wp_lss_f (by omega) ?_
    repeat (first|refine zA ?_|refine zB rfl ?_|refine zC ?_|refine zD ?_|refine zE rfl ?_|refine zF ?_|refine zG ?_|refine zH ?_|refine zI ?_|refine zJ ?_|refine zK ?_|refine zL rfl ?_|refine zN rfl ?_)
    refine wp_ret ⟨by simp, ?_⟩
    show wp EM _ _ _
    cases L with
    | nil => simp at h0
    | cons z L =>
    have hz := hL.head
    refine wp_at (es := 4) (i := 0) H 1 rfl (by simp [lvs]) fun id off hp => ?_
    repeat (first|refine zA ?_|refine zB rfl ?_|refine zC ?_|refine zD ?_|refine zE rfl ?_|refine zF ?_|refine zG ?_|refine zH ?_|refine zI ?_|refine zJ ?_|refine zK ?_|refine zL rfl ?_|refine zN rfl ?_)
    refine wp_atL H 1 rfl hp (x := z.cs) rfl (j := 3) rfl ?_
    refine wp_callG H (worst_ok (l := s.words) (key := z.key) (by omega) (H.ownSl (n := 0) rfl)) fun r S2 hr H => ?_
    have H0 := (H.dropAt 0).dropAt 0
    rcases hr with ⟨h0, _⟩ | ⟨c, w, h1, h2, hr⟩
    · rw [h0] at hwl; simp at hwl; omega
    by_cases hle : w ≤ z.key
    · rw [if_pos hle] at hr
      subst hr
      repeat (first|refine zA ?_|refine zB rfl ?_|refine zC ?_|refine zD ?_|refine zE rfl ?_|refine zF ?_|refine zG ?_|refine zH ?_|refine zI ?_|refine zJ ?_|refine zK ?_|refine zL rfl ?_|refine zN rfl ?_)
      refine wp_bind ?_
      repeat (first|refine zA ?_|refine zB rfl ?_|refine zC ?_|refine zD ?_|refine zE rfl ?_|refine zF ?_|refine zG ?_|refine zH ?_|refine zI ?_|refine zJ ?_|refine zK ?_|refine zL rfl ?_|refine zN rfl ?_)
      refine wp_ret ?_
      show wp EM _ _ _
      exact wp_ret ⟨rfl, s, .inr ⟨z, c, w, hz, h1, h2, by rw [if_pos hle]⟩, H0⟩
    · rw [if_neg hle] at hr
      subst hr
      have hcl : c < s.flags.length := by
        have := (List.getElem?_eq_some_iff.1 h2).1
        have := wf.gl
        omega
      repeat (first|refine zA ?_|refine zB rfl ?_|refine zC ?_|refine zD ?_|refine zE rfl ?_|refine zF ?_|refine zG ?_|refine zH ?_|refine zI ?_|refine zJ ?_|refine zK ?_|refine zL rfl ?_|refine zN rfl ?_)
      refine wp_bind ?_
      repeat (first|refine zA ?_|refine zB rfl ?_|refine zC ?_|refine zD ?_|refine zE rfl ?_|refine zF ?_|refine zG ?_|refine zH ?_|refine zI ?_|refine zJ ?_|refine zK ?_|refine zL rfl ?_|refine zN rfl ?_)
      refine wp_row (j := 13) H 2 rfl rfl ?_
      refine wp_at (es := 1) H 8 rfl (by rw [bls_len]; exact hcl) fun id2 off2 hp2 => ?_
      refine wp_atS0 H 8 rfl hp2 (bls_get hcl) rfl rfl (by omega) (by simp) fun S3 H => ?_
      have e : (bls s.flags).set c ([B s.flags[c]].set 0 (B true)) = bls (s.flags.set c true) := bls_set ..
      rw [e] at H
      refine wp_ret ?_
      show wp EM _ _ _
      refine wp_ret ⟨rfl, { s with flags := s.flags.set c true }, .inr ⟨z, c, w, hz, h1, h2, by rw [if_neg hle]⟩, ?_⟩
      exact (H.dropAt 0).dropAt 0
end
end Go.Abs
