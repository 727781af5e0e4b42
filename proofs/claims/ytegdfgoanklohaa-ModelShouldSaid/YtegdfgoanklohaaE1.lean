/- functions of this cut: what they compute, in the abstract machine. Conditions: stated in each theorem -/
import Derived.Test.YtegdfgoanklohaaE0
set_option linter.unusedVariables false
set_option linter.unusedSimpArgs false
namespace Go.Abs
open Go.Proofs
set_option maxRecDepth 100000
set_option linter.unusedVariables false
/-! ### a stable sort: blocks of twenty, then merged -/
/-- blocks of s, each in order; the last one may be shorter -/
inductive Blk (s : Nat) : List Lv → List Lv → Prop
  | last {x m : List Lv} : StS x m → m.length = x.length → x.length ≤ s → Blk s x m
  | cons {x m X L : List Lv} : StS x m → x.length = s → m.length = s → Blk s X L → Blk s (x ++ X) (m ++ L)
inductive Ful (s : Nat) : List Lv → List Lv → Prop
  | nil : Ful s [] []
  | snoc {x m X L : List Lv} : Ful s X L → StS x m → x.length = s → m.length = s → Ful s (X ++ x) (L ++ m)
theorem Blk.len {s : Nat} {X L : List Lv} (h : Blk s X L) : L.length = X.length := by
  induction h with
  | last _ h _ => exact h
  | cons _ h1 h2 _ ih => rw [List.length_append, List.length_append, h1, h2, ih]
theorem Ful.len {s : Nat} {X L : List Lv} (h : Ful s X L) : L.length = X.length := by
  induction h with
  | nil => rfl
  | snoc _ _ h1 h2 ih => rw [List.length_append, List.length_append, h1, h2, ih]
theorem Ful.blk {s : Nat} {X L : List Lv} (h : Ful s X L) : ∀ {X2 L2 : List Lv}, Blk s X2 L2 → Blk s (X ++ X2) (L ++ L2) := by
  induction h with
  | nil => intro X2 L2 h; exact h
  | snoc _ h1 h2 h3 ih => intro X2 L2 h; rw [List.append_assoc, List.append_assoc]; exact ih (.cons h1 h2 h3 h)
theorem Blk.one {s : Nat} {X L : List Lv} (h : Blk s X L) (hn : X.length ≤ s) : StS X L := by
  cases h with
  | last h _ _ => exact h
  | @cons x m X' L' h h1 h2 h3 =>
    rw [List.length_append, h1] at hn
    have e1 : X' = [] := List.eq_nil_of_length_eq_zero (by omega)
    have h4 := h3.len
    have e2 : L' = [] := List.eq_nil_of_length_eq_zero (by rw [h4, e1]; rfl)
    subst e1 e2
    simpa using h
theorem Blk.cut {s : Nat} {X L : List Lv} (h : Blk s X L) (hn : s ≤ X.length) : ∃ x m X' L', X = x ++ X' ∧ L = m ++ L' ∧ x.length = s ∧ m.length = s ∧ StS x m ∧ Blk s X' L' := by
  cases h with
  | last h h1 h2 => exact ⟨X, L, [], [], by simp, by simp, by omega, by omega, h, .last (StS.self List.Pairwise.nil) rfl (Nat.zero_le _)⟩
  | cons h h1 h2 h3 => exact ⟨_, _, _, _, rfl, rfl, h1, h2, h, h3⟩
theorem StS.two {a b m n r : List Lv} (h1 : StS a m) (h2 : StS b n) (h : StS (m ++ n) r) : StS (a ++ b) r := h.perm fun k j => by rw [cls_app, cls_app, h1.2, h2.2]
section
variable {B0 S : AH} {W : List Nat} {own : List Own} {ro : List Fct} {Q : Post} {k : AV → AC} {v : AV} {L : List Lv}
theorem stable_ok {X : List Lv} (hl : X.length < 100000) (H : Cx B0 W S (.sl v 4 (lvs X) :: own) ro) :
    wpC EM (.fn (.func 46) [] []) [v, I (X.length : Int), ordF] S fun _ S' => ∃ m, StS X m ∧ m.length = X.length ∧ Cx B0 W S' (.sl v 4 (lvs m) :: own) ro := by
  refine wpC_fn (b := Try.a46) rfl rfl ?_
  unfold Try.a46 Try.a46x8 Try.a46x7 Try.a46x6 Try.a46x5 Try.a46x4 Try.a46x3 Try.a46x2 Try.a46x1 Try.a46x0
  refine wp_bind (wp_loop (wpL_inv (fun n vs S1 => ∃ (a : Nat) (L : List Lv), vs = [I ((a + 20 : Nat) : Int), I (a : Int)] ∧ a ≤ X.length ∧ n = X.length - a ∧ Ful 20 (X.take a) L ∧ Cx B0 W S1 (.sl v 4 (lvs (L ++ X.drop a)) :: own) ro) ?_ X.length ⟨0, [], rfl, by omega, by omega, .nil, by simpa using H⟩))
  clear H
  rintro n vs S1 ⟨a, L, rfl, ha, rfl, hL, H⟩
  have La : L.length = a := by rw [hL.len, List.length_take]; omega
  refine wp_leq (fun hle => ?_) (fun hgt => ?_)
  · have hle : a + 20 ≤ X.length := by omega
    repeat (first|refine zA ?_|refine zB rfl ?_|refine zC ?_|refine zD ?_|refine zE rfl ?_|refine zF ?_|refine zG ?_|refine zH ?_|refine zI ?_|refine zJ ?_|refine zK ?_|refine zL rfl ?_|refine zN rfl ?_)
    refine wp_bind ?_
    have e1 : X.drop a = (X.drop a).take 20 ++ X.drop (a + 20) := by rw [← List.drop_drop, List.take_append_drop]
    have l1 : ((X.drop a).take 20).length = 20 := by rw [List.length_take, List.length_drop]; omega
    have t1 : X.take (a + 20) = X.take a ++ (X.drop a).take 20 := List.take_add
    generalize (X.drop a).take 20 = x at e1 l1 t1
    rw [e1] at H
    have K := insertion_ok (P := L) (X := x) (R := X.drop (a + 20)) (by simp only [List.length_append, l1, List.length_drop]; omega) H
    rw [l1, La] at K
    show wp EM (.call _ [v, I (a : Int), I ((a + 20 : Nat) : Int), ordF] _) _ _
    refine wp_call (wpC_mono K fun r S2 q => ?_)
    obtain ⟨m, k1, k2, H2⟩ := q
    refine wp_add64 (by omega) (by omega) (wp_ret ?_)
    show wp EM _ _ _
    refine wp_ret (.inl ⟨rfl, X.length - (a + 20), by omega, a + 20, L ++ m, rfl, by omega, rfl, ?_, ?_⟩)
    · rw [t1]; exact hL.snoc k1 l1 k2
    · simpa using H2
  · repeat (first|refine zA ?_|refine zB rfl ?_|refine zC ?_|refine zD ?_|refine zE rfl ?_|refine zF ?_|refine zG ?_|refine zH ?_|refine zI ?_|refine zJ ?_|refine zK ?_|refine zL rfl ?_|refine zN rfl ?_)
    refine wp_ret (.inr ⟨by simp, ?_⟩)
    show wp EM _ _ _
    have l1 : (X.drop a).length = X.length - a := List.length_drop ..
    have e1 : X.take a ++ X.drop a = X := List.take_append_drop ..
    generalize X.drop a = x at e1 l1 H
    have K := insertion_ok (P := L) (X := x) (R := []) (by simp only [List.length_append, l1, List.length_nil]; omega) (by simpa using H)
    have e2 : a + (X.length - a) = X.length := by omega
    rw [l1, La, e2] at K
    show wp EM (.call _ [v, I (a : Int), I (X.length : Int), ordF] _) _ _
    refine wp_call (wpC_mono K fun r S2 q => ?_)
    obtain ⟨m, k1, k2, H2⟩ := q
    have hB : Blk 20 X (L ++ m) := by
      have := hL.blk (.last k1 (by rw [k2, l1]) (by rw [l1]; omega))
      rwa [e1] at this
    have H2 : Cx B0 W S2 (.sl v 4 (lvs (L ++ m)) :: own) ro := by simpa using H2
    generalize L ++ m = M0 at hB H2
    clear H K hL
    refine wp_bind (wp_loop (wpL_inv (fun n vs S1 => ∃ (s : Nat) (u w : AV) (M : List Lv), vs = [I (s : Int), u, w] ∧ 20 ≤ s ∧ n = X.length - s ∧ Blk s X M ∧ Cx B0 W S1 (.sl v 4 (lvs M) :: own) ro) ?_ (X.length - 20) ⟨20, _, _, M0, rfl, by omega, rfl, hB, H2⟩))
    clear H2 hB
    rintro n vs S3 ⟨s, u, w, M, rfl, hs, rfl, hB, H⟩
    refine wp_lss (fun hlt => ?_) (fun hge => ?_)
    · have hlt : s < X.length := by omega
      repeat (first|refine zA ?_|refine zB rfl ?_|refine zC ?_|refine zD ?_|refine zE rfl ?_|refine zF ?_|refine zG ?_|refine zH ?_|refine zI ?_|refine zJ ?_|refine zK ?_|refine zL rfl ?_|refine zN rfl ?_)
      refine wp_bind ?_
      refine wp_mul (κ := .i64) (c := ((2 * s : Nat) : Int)) (by rw [wrap64 (by omega) (by omega)]; omega) ?_
      refine wp_bind (wp_loop (wpL_inv (fun n vs S1 => ∃ (X1 M1 X2 L2 : List Lv), vs = [I ((M1.length + 2 * s : Nat) : Int), I (M1.length : Int)] ∧ n = L2.length ∧ X1 ++ X2 = X ∧ Ful (2 * s) X1 M1 ∧ Blk s X2 L2 ∧ Cx B0 W S1 (.sl v 4 (lvs (M1 ++ L2)) :: own) ro) ?_ M.length ⟨[], [], X, M, by simp, rfl, rfl, .nil, hB, H⟩))
      clear H hB
      rintro n vs S4 ⟨X1, M1, X2, L2, rfl, rfl, hX, hF, hB, H⟩
      have c1 := hF.len
      have c2 := hB.len
      have c3 : X1.length + X2.length = X.length := by rw [← hX, List.length_append]
      refine wp_leq (fun hle => ?_) (fun hgt => ?_)
      · obtain ⟨x1, m1, X3, L3, rfl, rfl, a1, a2, a3, hB⟩ := hB.cut (by omega)
        rw [List.length_append] at c3
        obtain ⟨x2, m2, X4, L4, rfl, rfl, b1, b2, b3, hB⟩ := hB.cut (by omega)
        have c4 := hB.len
        rw [List.length_append] at c3
        repeat (first|refine zA ?_|refine zB rfl ?_|refine zC ?_|refine zD ?_|refine zE rfl ?_|refine zF ?_|refine zG ?_|refine zH ?_|refine zI ?_|refine zJ ?_|refine zK ?_|refine zL rfl ?_|refine zN rfl ?_)
        refine wp_bind ?_
        refine wp_add64 (by omega) (by omega) ?_
        have n1 : m1 ≠ [] := by rw [← List.length_pos_iff]; omega
        have n2 : m2 ≠ [] := by rw [← List.length_pos_iff]; omega
        have K := symMerge_ok _ (P := M1) (X := m1) (Y := m2) (R := L4) rfl n1 n2 a3.1 b3.1 (by simp only [List.length_append]; omega) H
        rw [a2, b2] at K
        have e2 : M1.length + 2 * s = M1.length + s + s := by omega
        rw [e2]
        show wp EM (.call _ [v, I (M1.length : Int), I ((M1.length + s : Nat) : Int), I ((M1.length + s + s : Nat) : Int), ordF] _) _ _
        refine wp_call (wpC_mono K fun r S5 q => ?_)
        obtain ⟨m, k1, k2, H2⟩ := q
        refine wp_mul (κ := .i64) (c := ((2 * s : Nat) : Int)) (by rw [wrap64 (by omega) (by omega)]; omega) ?_
        refine wp_add64 (by omega) (by omega) (wp_ret ?_)
        show wp EM _ _ _
        have q1 : (M1 ++ m).length = M1.length + s + s := by rw [List.length_append, k2]; omega
        refine wp_ret (.inl ⟨rfl, L4.length, by simp only [List.length_append]; omega, X1 ++ (x1 ++ x2), M1 ++ m, X4, L4, ?_, rfl, ?_, ?_, hB, by simpa using H2⟩)
        · rw [q1]; rfl
        · rw [← hX]; simp
        · exact hF.snoc (StS.two a3 b3 k1) (by rw [List.length_append]; omega) (by rw [k2]; omega)
      · repeat (first|refine zA ?_|refine zB rfl ?_|refine zC ?_|refine zD ?_|refine zE rfl ?_|refine zF ?_|refine zG ?_|refine zH ?_|refine zI ?_|refine zJ ?_|refine zK ?_|refine zL rfl ?_|refine zN rfl ?_)
        refine wp_ret (.inr ⟨by simp, ?_⟩)
        show wp EM _ _ _
        refine wp_add64 (by omega) (by omega) ?_
        have fin : ∀ {m : List Lv}, StS X2 m → m.length = X2.length → Blk (2 * s) X (M1 ++ m) := fun k1 k2 => by rw [← hX]; exact hF.blk (.last k1 k2 (by omega))
        refine wp_lss (fun hlt2 => ?_) (fun hge2 => ?_)
        · obtain ⟨x1, m1, X3, L3, rfl, rfl, a1, a2, a3, hB⟩ := hB.cut (by omega)
          rw [List.length_append] at c3
          have c4 := hB.len
          have hone := hB.one (by omega)
          refine wp_bind (wp_ite_t ?_)
          have n1 : m1 ≠ [] := by rw [← List.length_pos_iff]; omega
          have n2 : L3 ≠ [] := by rw [← List.length_pos_iff]; omega
          have K := symMerge_ok _ (P := M1) (X := m1) (Y := L3) (R := []) rfl n1 n2 a3.1 hone.1 (by simp only [List.length_append, List.length_nil]; omega) (by simpa using H)
          have e : M1.length + m1.length + L3.length = X.length := by omega
          rw [e, a2] at K
          show wp EM (.call _ [v, I (M1.length : Int), I ((M1.length + s : Nat) : Int), I (X.length : Int), ordF] _) _ _
          refine wp_call (wpC_mono K fun r S5 q => ?_)
          obtain ⟨m, k1, k2, H2⟩ := q
          refine wp_ret ?_
          show wp EM _ _ _
          refine wp_mul (κ := .i64) (c := ((2 * s : Nat) : Int)) (by rw [wrap64 (by omega) (by omega)]; omega) (wp_ret ?_)
          show wp EM _ _ _
          refine wp_ret (.inl ⟨rfl, X.length - 2 * s, by omega, 2 * s, _, _, M1 ++ m, rfl, by omega, rfl, fin (StS.two a3 hone k1) (by rw [k2, List.length_append]; omega), by simpa using H2⟩)
        · have hone := hB.one (by omega)
          refine wp_bind (wp_ite_f (wp_ret ?_))
          show wp EM _ _ _
          refine wp_mul (κ := .i64) (c := ((2 * s : Nat) : Int)) (by rw [wrap64 (by omega) (by omega)]; omega) (wp_ret ?_)
          show wp EM _ _ _
          refine wp_ret (.inl ⟨rfl, X.length - 2 * s, by omega, 2 * s, _, _, M1 ++ L2, rfl, by omega, rfl, fin hone (by omega), H⟩)
    · repeat (first|refine zA ?_|refine zB rfl ?_|refine zC ?_|refine zD ?_|refine zE rfl ?_|refine zF ?_|refine zG ?_|refine zH ?_|refine zI ?_|refine zJ ?_|refine zK ?_|refine zL rfl ?_|refine zN rfl ?_)
      refine wp_ret (.inr ⟨by simp, ?_⟩)
      show wp EM _ _ _
      exact wp_ret ⟨rfl, M, hB.one (by omega), hB.len, H⟩
end
end Go.Abs
namespace Go.Abs
open Go.Proofs
set_option maxRecDepth 100000
set_option linter.unusedVariables false
/-! ### parts of one's own slices -/
section
variable {M : Mach} {B0 S : AH} {W : List Nat} {own : List Own} {ro : List Fct} {Q : Post} {k : AV → AC}
theorem slForm_from {v : AV} {es n id off i : Nat} {c : List AV} (h : slForm v es n id off c) (hi : i ≤ n) : ∃ v' off', evalOp M.P (.sslice es v (some (I (i : Int))) none none) S = some (v', S) ∧ slForm v' es (n - i) id off' c ∧ (i < n → off' = off + i * es) := by
  have hb : ∀ cap, n ≤ cap → bnds (some (I (i : Int))) none none n cap = some (i, n, cap) := by
    intro cap hc
    have h1 : bndO (some (I (i : Int))) 0 n = some i := by
      show below i (Nat.succ n) = some i
      unfold below; rw [ble_t (by omega)]
    show (match bndO (some (I (i : Int))) 0 n with | some l => (if (none : Option AV).isSome && (none : Option AV).isNone then none else some (l, n, cap)) | none => none) = _
    rw [h1]; rfl
  rcases h with ⟨cap, q1, q2, rfl⟩ | ⟨cmin, q1, q2, rfl⟩
  · have hm : i * es ≤ cap * es := Nat.mul_le_mul_right es (by omega)
    refine ⟨.sl id (if Nat.beq cap i = true then off else off + i * es) (n - i) (cap - i), _, ?_, .inl ⟨cap - i, by omega, ?_, rfl⟩, ?_⟩
    · show pur (pSslice es (.sl id off n cap) (some (I (i : Int))) none none) S = _
      unfold pSslice
      simp only [hb cap q1]
      rfl
    · rw [Nat.sub_mul]
      split <;> omega
    · intro hlt
      rw [if_neg]
      intro h
      have := Nat.eq_of_beq_eq_true h
      omega
  · have hm : i * es ≤ cmin * es := Nat.mul_le_mul_right es (by omega)
    refine ⟨.op id (off + i * es) (n - i) (cmin - i) es, _, ?_, .inr ⟨cmin - i, by omega, ?_, rfl⟩, fun _ => rfl⟩
    · show pur (pSslice es (.op id off n cmin es) (some (I (i : Int))) none none) S = _
      unfold pSslice
      simp only [hb cmin q1, Nat.beq_refl]
      rfl
    · rw [Nat.sub_mul]; omega
theorem tk_flat : ∀ {L : List (List AV)} {es : Nat}, (∀ x ∈ L, x.length = es) → ∀ i, L.flatten.take (i * es) = (L.take i).flatten
  | [], es, _, i => by simp
  | y :: L, es, h, 0 => by simp
  | y :: L, es, h, i + 1 => by
    have hy := h y (by simp)
    have ih := tk_flat (L := L) (fun z hz => h z (by simp [hz])) i
    simp only [List.flatten_cons, List.take_succ_cons]
    rw [List.take_append, ← ih, List.take_of_length_le (by rw [hy, Nat.succ_mul]; omega)]
    congr 2
    rw [hy, Nat.succ_mul]; omega
theorem dr_flat : ∀ {L : List (List AV)} {es : Nat}, (∀ x ∈ L, x.length = es) → ∀ i, L.flatten.drop (i * es) = (L.drop i).flatten
  | [], es, _, i => by simp
  | y :: L, es, h, 0 => by simp
  | y :: L, es, h, i + 1 => by
    have hy := h y (by simp)
    have ih := dr_flat (L := L) (fun z hz => h z (by simp [hz])) i
    simp only [List.flatten_cons, List.drop_succ_cons]
    rw [List.drop_append, ← ih, List.drop_eq_nil_of_le (by rw [hy, Nat.succ_mul]; omega), List.nil_append]
    congr 1
    rw [hy, Nat.succ_mul]; omega
theorem e_copyO {d s : AV} {es n id off : Nat} {c : List AV} {N : List (List AV)} {ys : List AV} (hd : slForm d es n id off c) (hg : S.get id = some (.row c)) (hs : elems S es s = some (N.length, N.flatten)) (hn : n ≤ N.length) (hy : N.flatten.take (n * es) = ys) :
    evalOp M.P (.copy es d s) S = some (I (n : Int), S.set id (.row (setRange c off ys))) := by
  have e1 : Nat.min N.length n = n := Nat.min_eq_right hn
  have main : ∀ cap, n ≤ cap → off + cap * es ≤ c.length → (if Nat.ble (off + n * es) (lenL c) then some ((AV.sc (.int .i64 (Nat.min N.length n)) : AV), S.set id (.row (setRange c off (takeL (Nat.min N.length n * es) N.flatten)))) else none) = some (I (n : Int), S.set id (.row (setRange c off ys))) := by
    intro cap h1 h2
    have hm : n * es ≤ cap * es := Nat.mul_le_mul_right es h1
    rw [lenL_eq, ble_t (by omega), e1, takeL_eq, hy]; rfl
  show eCopy es d s S = _
  unfold eCopy
  rw [hs]
  rcases hd with ⟨cap, q1, q2, rfl⟩ | ⟨cap, q1, q2, rfl⟩
  · simp only [hg]; exact main cap q1 q2
  · simp only [hg]; exact main cap q1 q2
/-- from a place on, all are moved by one -/
theorem wp_shift (H : Cx B0 W S own ro) (n : Nat) {v : AV} {es : Nat} {A Bs : List (List AV)} {z : List AV} (hm : own[n]? = some (.sl v es (A ++ (Bs ++ [z]))))
    (h : ∀ S1 y, Cx B0 W S1 (own.set n (.sl v es (A ++ y :: Bs))) ro → wp M (k (I (Bs.length : Int))) S1 Q) :
    wp M (.op (.sslice es v (some (I ((A.length + 1 : Nat) : Int))) none none) fun a => .op (.sslice es v (some (I (A.length : Int))) none none) fun b => .op (.copy es a b) k) S Q := by
  have hw := H.oh _ (List.mem_of_getElem? hm)
  rcases hw with ⟨_, h0⟩ | ⟨id, off, c, h0, h1, h2, h3⟩
  · simp at h0
  have hlen : (A ++ (Bs ++ [z])).length = A.length + Bs.length + 1 := by simp; omega
  rw [hlen] at h0 h2
  obtain ⟨va, oa, ea, fa, ga⟩ := slForm_from (M := M) (S := S) (i := A.length + 1) h0 (by omega)
  obtain ⟨vb, ob, eb, fb, gb⟩ := slForm_from (M := M) (S := S) (i := A.length) h0 (by omega)
  have gb := gb (by omega)
  subst gb
  have n1 : A.length + Bs.length + 1 - (A.length + 1) = Bs.length := by omega
  have n2 : A.length + Bs.length + 1 - A.length = Bs.length + 1 := by omega
  rw [n1] at fa
  rw [n2] at fb
  have hB : ∀ x ∈ Bs ++ [z], x.length = es := fun x hx => h3 x (by simp only [List.mem_append] at hx ⊢; exact .inr hx)
  have hfb : (c.drop (off + A.length * es)).take ((Bs.length + 1) * es) = (Bs ++ [z]).flatten := by
    have e : (A ++ (Bs ++ [z])).flatten.drop (A.length * es) = (Bs ++ [z]).flatten := by
      rw [dr_flat h3, List.drop_left]
    rw [← e, ← h2, List.drop_take, List.drop_drop]
    congr 1
    rw [← Nat.sub_mul]; congr 1; omega
  have hel : elems S es vb = some ((Bs ++ [z]).length, (Bs ++ [z]).flatten) := slOk_elems (.inr ⟨id, _, c, by rw [List.length_append]; exact fb, row_cells h1, by rw [List.length_append]; exact hfb, hB⟩)
  have hys : (Bs ++ [z]).flatten.take (Bs.length * es) = Bs.flatten := by rw [tk_flat hB, List.take_left]
  refine wp_op ea (wp_op eb (wp_op (e_copyO fa h1 hel (by simp) hys) ?_))
  obtain ⟨y, R, hy⟩ : ∃ y R, Bs ++ [z] = y :: R := by cases Bs <;> exact ⟨_, _, rfl⟩
  have hBl : Bs.flatten.length = Bs.length * es := flatten_length fun x hx => hB x (by simp [hx])
  have hyl : y.length = es := hB y (by rw [hy]; simp)
  have hroom : off + (A.length + Bs.length + 1) * es ≤ c.length := by
    rcases h0 with ⟨cap, q1, q2, _⟩ | ⟨cap, q1, q2, _⟩
    · have := Nat.mul_le_mul_right es q1; omega
    · have := Nat.mul_le_mul_right es q1; omega
  have hall : ∀ x ∈ A ++ y :: Bs, x.length = es := by
    intro x hx
    simp only [List.mem_append, List.mem_cons] at hx
    rcases hx with hx | rfl | hx
    · exact h3 x (by simp [hx])
    · exact hyl
    · exact hB x (by simp [hx])
  have lB : (A ++ y :: Bs).length = A.length + Bs.length + 1 := by simp; omega
  have hA1 : (c.drop off).take ((A.length + 1) * es) = A.flatten ++ y := by
    have hle : (A.length + 1) * es ≤ (A.length + Bs.length + 1) * es := Nat.mul_le_mul_right es (by omega)
    have : (c.drop off).take ((A.length + 1) * es) = ((c.drop off).take ((A.length + Bs.length + 1) * es)).take ((A.length + 1) * es) := by rw [List.take_take, Nat.min_eq_left hle]
    rw [this, h2, tk_flat h3, hy, List.take_length_add_append]
    simp
  -- what lies there now
  have hnew : ((setRange c oa Bs.flatten).drop off).take ((A.length + Bs.length + 1) * es) = (A ++ y :: Bs).flatten ∧ (setRange c oa Bs.flatten).length = c.length := by
    cases hBs : Bs with
    | nil =>
      have e : setRange c oa ([] : List (List AV)).flatten = c := by rw [setRange_eq]; simp
      subst hBs
      rw [e]
      refine ⟨?_, rfl⟩
      have : A.length + ([] : List (List AV)).length + 1 = A.length + 1 := by simp
      rw [this, hA1]; simp
    | cons b R2 =>
      rw [← hBs]
      have hpos : 0 < Bs.length := by rw [hBs]; simp
      have goa : oa = off + (A.length + 1) * es := ga (by omega)
      have hmul : (A.length + Bs.length + 1) * es = (A.length + 1) * es + Bs.length * es := by rw [← Nat.add_mul]; congr 1; omega
      subst goa
      refine ⟨?_, setRange_length (by rw [hBl]; omega)⟩
      rw [take_setRange (a := (A.length + 1) * es) (by rw [hBl]; omega) (by rw [hBl]; exact hmul), hA1]
      simp
  have hmem := List.mem_of_getElem? hm
  have hS1 : (S.set id (.row (setRange c oa Bs.flatten))).next = S.next := rfl
  refine h _ y (H.step hm (Nat.le_refl _) ?_ ?_ ?_)
  · intro j hj hne
    rw [AH.get_set, if_neg (by simpa [Own.ids, h0.ids] using hne)]
  · refine .inr ⟨id, off, setRange c oa Bs.flatten, ?_, by rw [AH.get_set, if_pos rfl], by rw [lB]; exact hnew.1, hall⟩
    rw [lB]
    rcases h0 with ⟨cap, q1, q2, rfl⟩ | ⟨cap, q1, q2, rfl⟩
    · exact .inl ⟨cap, q1, by rw [hnew.2]; exact q2, rfl⟩
    · exact .inr ⟨cap, q1, by rw [hnew.2]; exact q2, rfl⟩
  · intro j hj
    exact ⟨(H.oi _ hmem j hj).1, .inl hj⟩
/-- the first ones of one's own slice: that is one's own, too -/
theorem wp_prefixO (H : Cx B0 W S own ro) (n : Nat) {v : AV} {es i : Nat} {L : List (List AV)} (hm : own[n]? = some (.sl v es L)) (hi : i ≤ L.length)
    (h : ∀ v', Cx B0 W S (own.set n (.sl v' es (L.take i))) ro → wp M (k v') S Q) : wp M (.op (.sslice es v none (some (I (i : Int))) none) k) S Q := by
  have hmem := List.mem_of_getElem? hm
  have hs := H.oh _ hmem
  rcases hs with ⟨rfl, rfl⟩ | ⟨id, off, c, h0, h1, h2, h3⟩
  · have : i = 0 := by simpa using hi
    subst this
    exact wp_op (v := Ns) rfl (h Ns (H.step hm (Nat.le_refl _) (fun _ _ _ => rfl) (.inl ⟨rfl, by simp⟩) fun id hid => by simp [Own.ids, vids] at hid))
  · obtain ⟨v', e1, e2⟩ := slForm_sub (M := M) (S := S) h0 hi
    have hll : (L.take i).length = i := by rw [List.length_take, Nat.min_eq_left hi]
    refine wp_op e1 (h v' (H.step hm (Nat.le_refl _) (fun _ _ _ => rfl) (.inr ⟨id, off, c, by rw [hll]; exact e2, h1, ?_, fun x hx => h3 x (List.mem_of_mem_take hx)⟩) fun j hj => ?_))
    · have hle := Nat.mul_le_mul_right es hi
      rw [hll, ← tk_flat h3, ← h2, List.take_take, Nat.min_eq_left hle]
    · have hj' : j ∈ Own.ids (.sl v es L) := by
        simp only [Own.ids] at hj ⊢
        rw [h0.ids]; rw [e2.ids] at hj; exact hj
      exact ⟨(H.oi _ hmem j hj').1, .inl hj'⟩
theorem wp_min2 {a b : Int} (h : wp M (k (I (min a b))) S Q) : wp M (.op (.minmax false [I a, I b]) k) S Q := wp_op (v := I (min a b)) (by
  show pur (minmax1 false (I a) (I b) >>= fun x => some x) S = _
  have e : minmax1 false (I a) (I b) = some (I (min a b)) := by
    show some (AV.sc (.int .i64 (if ltF b a then b else a))) = _
    rw [ltF_eq]
    by_cases h : b < a
    · rw [decide_eq_true h, Int.min_eq_right (by omega)]; rfl
    · rw [decide_eq_false h, Int.min_eq_left (by omega)]; rfl
  rw [e]; rfl) h
theorem wp_max2 {a b : Int} (h : wp M (k (I (max a b))) S Q) : wp M (.op (.minmax true [I a, I b]) k) S Q := wp_op (v := I (max a b)) (by
  show pur (minmax1 true (I a) (I b) >>= fun x => some x) S = _
  have e : minmax1 true (I a) (I b) = some (I (max a b)) := by
    show some (AV.sc (.int .i64 (if ltF a b then b else a))) = _
    rw [ltF_eq]
    by_cases h : a < b
    · rw [decide_eq_true h, Int.max_eq_right (by omega)]; rfl
    · rw [decide_eq_false h, Int.max_eq_left (by omega)]; rfl
  rw [e]; rfl) h
theorem wp_bslice0 (H : Cx B0 W S own ro) {es : Nat} {z : List AV} (hz : z.length = es) (h : ∀ v S1, Cx B0 W S1 (.sl v es [] :: own) ro → wp M (k v) S1 Q) : wp M (.op (.bslice es 0 z []) k) S Q := by
  refine wp_op (v := .sl S.next 0 0 0) (S1 := S.new (.row [])) ?_ (h _ _ (H.addOwn (Grows.new S _) (x := .sl (.sl S.next 0 0 0) es []) ?_ ?_))
  · show nBslice es 0 z [] S = _
    unfold nBslice
    have e : (Nat.beq (lenL ([] : List AV)) (Nat.mul 0 es) && Nat.beq (lenL z) es) = true := by
      rw [lenL_eq, lenL_eq, hz, Nat.beq_refl, show Nat.mul 0 es = 0 from Nat.zero_mul es]; rfl
    show (match Nat.beq (lenL ([] : List AV)) (Nat.mul 0 es) && Nat.beq (lenL z) es with | true => lay S (.row []) fun id => .sl id 0 0 0 | false => none) = _
    rw [e]; rfl
  · exact .inr ⟨S.next, 0, [], .inl ⟨0, by simp, by simp, rfl⟩, get_new_same _ _, by simp, by simp⟩
  · intro id hid
    simp only [Own.ids, vids, List.mem_singleton] at hid
    subst hid
    exact ⟨Nat.le_refl _, by simp [AH.new]⟩
theorem Cx.addNilS (H : Cx B0 W S own ro) (es : Nat) : Cx B0 W S (.sl Ns es [] :: own) ro := H.addOwn (Grows.refl S) (.inl ⟨rfl, rfl⟩) (fun id hid => by simp [Own.ids, vids] at hid)
/-- what a call has made is one's own -/
theorem Cx.addC {S1 : AH} {x : Own} (H : Cx B0 W S own ro) (K : Cx S [] S1 [x] []) : Cx B0 W S1 (x :: own) ro := H.addOwn K.grows (K.oh _ (List.Mem.head _)) fun id hid => by
  have h := K.oi _ (List.Mem.head _) id hid
  refine ⟨?_, h.1⟩
  have h2 := h.2
  by_cases hlt : id < S.next
  · have := h2 hlt; simp at this
  · omega
end
/-! ### which should be run: what the program says -/
section
variable {B0 S : AH} {W : List Nat} {own : List Own} {ro : List Fct} {Q : Post} {k : AV → AC} {v : AV} {L : List Lv}
theorem cloneL_ok {v : AV} {l : List Lv} (hv : RoSl S v 4 (lvs l)) (hl : l.length ≤ 100000) : wpC EM (.fn (.func 29) [] []) [v] S fun r S' => Cx S [] S' [.sl r 4 (lvs l)] [] := by
  refine wpC_fn (b := Try.a29) rfl rfl ?_
  have H := Cx.ro1 hv
  unfold Try.a29
  have some' : v ≠ Ns → evalOp EM.P (.eq 22 false v Ns) S = some (B false, S) := fun hne => by
    rcases hv.1 with ⟨rfl, _⟩ | ⟨id, off, c, (⟨_, _, _, rfl⟩ | ⟨_, _, _, rfl⟩), _⟩
    · exact absurd rfl hne
    · kernel_rfl
    · kernel_rfl
  by_cases hn : v = Ns
  · subst hn
    have h0 : lvs l = [] := by
      rcases hv.1 with ⟨_, h⟩ | ⟨id, off, c, (⟨_, _, _, h⟩ | ⟨_, _, _, h⟩), _⟩
      · exact h
      · cases h
      · cases h
    refine wp_op (v := B true) (S1 := S) (by kernel_rfl) ?_
    repeat (first|refine zA ?_|refine zB rfl ?_|refine zC ?_|refine zD ?_|refine zE rfl ?_|refine zF ?_|refine zG ?_|refine zH ?_|refine zI ?_|refine zJ ?_|refine zK ?_|refine zL rfl ?_|refine zN rfl ?_)
    refine wp_ret ⟨rfl, ?_⟩
    rw [h0]
    rw [h0] at H
    exact (H.addNilS 4).tl
  · refine wp_op (some' hn) ?_
    repeat (first|refine zA ?_|refine zB rfl ?_|refine zC ?_|refine zD ?_|refine zE rfl ?_|refine zF ?_|refine zG ?_|refine zH ?_|refine zI ?_|refine zJ ?_|refine zK ?_|refine zL rfl ?_|refine zN rfl ?_)
    refine wp_bslice0 H rfl fun u S1 H => ?_
    refine wp_appendR (x := v) (N := lvs l) H 0 rfl (by repeat (first | exact List.Mem.head _ | apply List.Mem.tail)) (lvs_all l) (by rw [lvs_len]; unfold maxBytes; simp; omega) (by rw [lvs_len]; unfold maxLenN; simp; omega) fun v1 S2 H => ?_
    refine wp_ret ⟨rfl, ?_⟩
    exact H.tl
theorem sortStable_ok {X : List Lv} (hl : X.length < 100000) (H : Cx B0 W S (.sl v 4 (lvs X) :: own) ro) :
    wpC EM (.fn (.func 30) [] []) [v, ordF] S fun _ S' => ∃ m, StS X m ∧ m.length = X.length ∧ Cx B0 W S' (.sl v 4 (lvs m) :: own) ro := by
  refine wpC_fn (b := Try.a30) rfl rfl ?_
  unfold Try.a30
  refine wp_leno H 0 rfl ?_
  rw [lvs_len]
  refine wp_call (wpC_mono (stable_ok hl H) fun r S2 q => ?_)
  exact wp_ret ⟨rfl, q⟩
/-- how many -/
def many (cores : Int) (n : Nat) : Nat := min cores.toNat n
theorem lvs_take (l : List Lv) (i : Nat) : (lvs l).take i = lvs (l.take i) := by unfold lvs; rw [List.map_take]
theorem should_ok {v : AV} {l : List Lv} {cores : Int} (hv : RoSl S v 4 (lvs l)) (hl : l.length < 100000) : wpC EM (.fn (.func 8) [] []) [v, I cores] S fun r S' => ∃ m, StS l m ∧ m.length = l.length ∧ Cx S [] S' [.sl r 4 (lvs (m.take (many cores l.length)))] [] := by
  refine wpC_fn (b := Try.a8) rfl rfl ?_
  have H : Cx S [] S [] [.sl v 4 (lvs l)] := Cx.ro1 hv
  unfold Try.a8
  refine wp_callN H (cloneL_ok (l := l) (H.roSl (by repeat (first | exact List.Mem.head _ | apply List.Mem.tail))) (by omega)) fun u S1 H => ?_
  refine wp_call (wpC_mono (sortStable_ok hl H) fun r S2 q => ?_)
  obtain ⟨m, k1, k2, H⟩ := q
  refine wp_leno H 0 rfl ?_
  rw [lvs_len, k2]
  refine wp_max2 (wp_min2 ?_)
  have e : min (l.length : Int) (max cores 0) = ((many cores l.length : Nat) : Int) := by unfold many; omega
  first
    | rw [e]
    | (have e' : min (max cores 0) (l.length : Int) = ((many cores l.length : Nat) : Int) := by unfold many; omega
       rw [e'])
  refine wp_prefixO (i := many cores l.length) H 0 rfl (by rw [lvs_len, k2]; unfold many; omega) fun v' H => ?_
  refine wp_ret ⟨rfl, m, k1, k2, ?_⟩
  rw [lvs_take] at H
  exact H.dropRo (by simp)
end
end Go.Abs
namespace Go.Abs
open Go.Proofs
set_option maxRecDepth 100000
set_option linter.unusedVariables false
/-! ### which should be run: the document's answer -/
section
variable {B0 S : AH} {W : List Nat} {own : List Own} {ro : List Fct} {Q : Post} {k : AV → AC} {v : AV} {L : List Lv}
theorem aheadL_ok {S : AH} {a b : Lv} : wpC EM (.fn (.func 50) [] []) [.agg a.cs, .agg b.cs] S fun r S' => r = B (decide (a.lt b)) ∧ Grows S S' := by
  refine wpC_fn (b := Try.a50) rfl rfl ?_
  have H : Cx S [] S [] [] := Cx.enter (by simp)
  unfold Try.a50 Try.a50x2 Try.a50x1 Try.a50x0
  refine wp_box H rfl fun p S1 H => ?_
  refine wp_box H rfl fun q S2 H => ?_
  repeat (first|refine zA ?_|refine zB rfl ?_|refine zC ?_|refine zD ?_|refine zE rfl ?_|refine zF ?_|refine zG ?_|refine zH ?_|refine zI ?_|refine zJ ?_|refine zK ?_|refine zL rfl ?_|refine zN rfl ?_)
  refine wp_load1 (id := p) (j := 3) H (cs := a.cs) (by repeat (first | exact List.Mem.head _ | apply List.Mem.tail)) rfl ?_
  repeat (first|refine zA ?_|refine zB rfl ?_|refine zC ?_|refine zD ?_|refine zE rfl ?_|refine zF ?_|refine zG ?_|refine zH ?_|refine zI ?_|refine zJ ?_|refine zK ?_|refine zL rfl ?_|refine zN rfl ?_)
  refine wp_load1 (id := q) (j := 3) H (cs := b.cs) (by repeat (first | exact List.Mem.head _ | apply List.Mem.tail)) rfl ?_
  refine wp_lss (fun h => ?_) (fun h => ?_)
  · repeat (first|refine zA ?_|refine zB rfl ?_|refine zC ?_|refine zD ?_|refine zE rfl ?_|refine zF ?_|refine zG ?_|refine zH ?_|refine zI ?_|refine zJ ?_|refine zK ?_|refine zL rfl ?_|refine zN rfl ?_)
    refine wp_ret ⟨rfl, ?_, H.grows⟩
    rw [decide_eq_true (show a.lt b from .inl h)]; rfl
  · repeat (first|refine zA ?_|refine zB rfl ?_|refine zC ?_|refine zD ?_|refine zE rfl ?_|refine zF ?_|refine zG ?_|refine zH ?_|refine zI ?_|refine zJ ?_|refine zK ?_|refine zL rfl ?_|refine zN rfl ?_)
    refine wp_load1 (id := p) (j := 3) H (cs := a.cs) (by repeat (first | exact List.Mem.head _ | apply List.Mem.tail)) rfl ?_
    repeat (first|refine zA ?_|refine zB rfl ?_|refine zC ?_|refine zD ?_|refine zE rfl ?_|refine zF ?_|refine zG ?_|refine zH ?_|refine zI ?_|refine zJ ?_|refine zK ?_|refine zL rfl ?_|refine zN rfl ?_)
    refine wp_load1 (id := q) (j := 3) H (cs := b.cs) (by repeat (first | exact List.Mem.head _ | apply List.Mem.tail)) rfl ?_
    refine wp_gop_t ?_
    refine wp_eql (fun h2 => ?_) (fun h2 => ?_)
    · repeat (first|refine zA ?_|refine zB rfl ?_|refine zC ?_|refine zD ?_|refine zE rfl ?_|refine zF ?_|refine zG ?_|refine zH ?_|refine zI ?_|refine zJ ?_|refine zK ?_|refine zL rfl ?_|refine zN rfl ?_)
      refine wp_load1 (id := p) (j := 0) H (cs := a.cs) (by repeat (first | exact List.Mem.head _ | apply List.Mem.tail)) rfl ?_
      repeat (first|refine zA ?_|refine zB rfl ?_|refine zC ?_|refine zD ?_|refine zE rfl ?_|refine zF ?_|refine zG ?_|refine zH ?_|refine zI ?_|refine zJ ?_|refine zK ?_|refine zL rfl ?_|refine zN rfl ?_)
      refine wp_load1 (id := q) (j := 0) H (cs := b.cs) (by repeat (first | exact List.Mem.head _ | apply List.Mem.tail)) rfl ?_
      refine wp_gop_t ?_
      refine wp_lss (fun h3 => ?_) (fun h3 => ?_)
      · repeat (first|refine zA ?_|refine zB rfl ?_|refine zC ?_|refine zD ?_|refine zE rfl ?_|refine zF ?_|refine zG ?_|refine zH ?_|refine zI ?_|refine zJ ?_|refine zK ?_|refine zL rfl ?_|refine zN rfl ?_)
        refine wp_ret ⟨rfl, ?_, H.grows⟩
        rw [decide_eq_true (show a.lt b from .inr ⟨h2, h3⟩)]; rfl
      · repeat (first|refine zA ?_|refine zB rfl ?_|refine zC ?_|refine zD ?_|refine zE rfl ?_|refine zF ?_|refine zG ?_|refine zH ?_|refine zI ?_|refine zJ ?_|refine zK ?_|refine zL rfl ?_|refine zN rfl ?_)
        refine wp_ret ⟨rfl, ?_, H.grows⟩
        rw [decide_eq_false (show ¬ a.lt b from by unfold Lv.lt; omega)]; rfl
    · repeat (first|refine zA ?_|refine zB rfl ?_|refine zC ?_|refine zD ?_|refine zE rfl ?_|refine zF ?_|refine zG ?_|refine zH ?_|refine zI ?_|refine zJ ?_|refine zK ?_|refine zL rfl ?_|refine zN rfl ?_)
      refine wp_ret ⟨rfl, ?_, H.grows⟩
      rw [decide_eq_false (show ¬ a.lt b from by unfold Lv.lt; omega)]; rfl
theorem lvs_getro {l : List Lv} {i : Nat} (h : i < l.length) : (lvs l)[i]? = some (l[i].cs) := by simp [lvs, h]
theorem rorder_ok {v : AV} {X : List Lv} (hv : RoSl S v 4 (lvs X)) (hl : X.length < 100000) : wpC EM (.fn (.func 32) [] []) [v] S fun r S' => ∃ m, StS X m ∧ m.length = X.length ∧ Cx S [] S' [.sl r 4 (lvs m)] [] := by
  refine wpC_fn (b := Try.a32) rfl rfl ?_
  have H : Cx S [] S [] [.sl v 4 (lvs X)] := Cx.ro1 hv
  unfold Try.a32 Try.a32x7 Try.a32x6 Try.a32x5 Try.a32x4 Try.a32x3 Try.a32x2 Try.a32x1 Try.a32x0
  refine wp_bind (wp_loop (wpL_inv (fun n vs S1 => ∃ (i : Nat) (out w : AV) (m : List Lv), vs = [I (i : Int), out, w] ∧ i ≤ X.length ∧ n = X.length - i ∧ StS (X.take i) m ∧ m.length = i ∧ Cx S [] S1 [.sl out 4 (lvs m)] [.sl v 4 (lvs X)]) ?_ X.length ⟨0, _, _, [], rfl, by omega, by omega, StS.self List.Pairwise.nil, rfl, H.addNilS 4⟩))
  clear H
  rintro n vs S1 ⟨i, out, w, m, rfl, hi, rfl, hm, hml, H⟩
  refine wp_len H (by repeat (first | exact List.Mem.head _ | apply List.Mem.tail)) ?_
  rw [lvs_len]
  refine wp_lss (fun hlt => ?_) (fun hge => ?_)
  · have hlt : i < X.length := by omega
    repeat (first|refine zA ?_|refine zB rfl ?_|refine zC ?_|refine zD ?_|refine zE rfl ?_|refine zF ?_|refine zG ?_|refine zH ?_|refine zI ?_|refine zJ ?_|refine zK ?_|refine zL rfl ?_|refine zN rfl ?_)
    refine wp_bind ?_
    refine wp_leno H 0 rfl ?_
    rw [lvs_len]
    -- it is laid behind those that are not behind it
    refine wp_bind (wp_loop (wpL_inv (fun n vs S2 => ∃ (a b : List Lv), vs = [I (a.length : Int)] ∧ n = a.length ∧ a ++ b = m ∧ (∀ y ∈ b, X[i].lt y) ∧ Cx S [] S2 [.sl out 4 (lvs m)] [.sl v 4 (lvs X)]) ?_ m.length ⟨m, [], rfl, rfl, by simp, by simp, H⟩))
    clear H
    rintro n vs S2 ⟨a, b, rfl, rfl, hab, hb, H⟩
    have hal : a.length + b.length = i := by rw [← hml, ← hab, List.length_append]
    have fin : ∀ S2, Cx S [] S2 [.sl out 4 (lvs m)] [.sl v 4 (lvs X)] → (∀ y ∈ a, ¬ X[i].lt y) → wp EM (.op (.build [(I 0), (I 0), (I 0), (U 0)] []) fun v6 => .op (.bslice 4 1 [(I 0), (I 0), (I 0), (U 0)] [(0, 4, v6)]) fun v7 => (Try.a32x4 [v] [I (i : Int), out, w] [I (a.length : Int)] v7)) S2 fun t vs1 S3 => t = .normal ∧ ∃ out', vs1 = [out', I (a.length : Int)] ∧ Cx S [] S3 [.sl out' 4 (lvs (a ++ X[i] :: b))] [.sl v 4 (lvs X)] := by
      intro S2 H ha
      unfold Try.a32x4 Try.a32x3
      refine wp_op (v := .agg [I 0, I 0, I 0, U 0]) rfl ?_
      refine wp_push (x := .agg [I 0, I 0, I 0, U 0]) H 0 rfl rfl rfl rfl (by rw [lvs_len]; unfold maxBytes; omega) (by rw [lvs_len]; unfold maxLenN; omega) fun out' S3 H => ?_
      refine wp_add64 (by omega) (by omega) ?_
      have hmm : lvs m ++ [(AV.agg [I 0, I 0, I 0, U 0]).cells] = lvs a ++ (lvs b ++ [[I 0, I 0, I 0, U 0]]) := by rw [← hab, lvs_app, List.append_assoc]; rfl
      have H : Cx S [] S3 [.sl out' 4 (lvs m ++ [(AV.agg [I 0, I 0, I 0, U 0]).cells])] [.sl v 4 (lvs X)] := H
      rw [hmm] at H
      have la : (lvs a).length = a.length := lvs_len a
      have e1 : (a.length : Int) + 1 = (((lvs a).length + 1 : Nat) : Int) := by rw [la]; rfl
      rw [e1, ← la]
      refine wp_shift (A := lvs a) (Bs := lvs b) (z := [I 0, I 0, I 0, U 0]) H 0 rfl fun S4 y H => ?_
      refine wp_saddr (i := i) H (by repeat (first | exact List.Mem.head _ | apply List.Mem.tail)) (lvs_getro hlt) fun p off H => ?_
      refine wp_loada H (by repeat (first | exact List.Mem.head _ | apply List.Mem.tail)) (by show 4 ≤ 4; omega) ?_
      have H : Cx S [] S4 [.sl out' 4 (lvs a ++ y :: lvs b)] (.pt p off X[i].cs :: [.sl v 4 (lvs X)]) := H
      refine wp_storeE (i := (lvs a).length) (y := .agg X[i].cs) H 0 rfl (by simp) rfl rfl fun S5 H => ?_
      have H : Cx S [] S5 [.sl out' 4 ((lvs a ++ y :: lvs b).set (lvs a).length X[i].cs)] (.pt p off X[i].cs :: [.sl v 4 (lvs X)]) := H
      have es : (lvs a ++ y :: lvs b).set (lvs a).length X[i].cs = lvs (a ++ X[i] :: b) := by rw [set_mid, lvs_app]; rfl
      rw [es] at H
      exact wp_ret ⟨rfl, out', rfl, H.tl⟩
    have go2 : ∀ S2, Cx S [] S2 [.sl out 4 (lvs m)] [.sl v 4 (lvs X)] → (∀ y ∈ a, ¬ X[i].lt y) → StS (X.take (i + 1)) (a ++ X[i] :: b) ∧ (a ++ X[i] :: b).length = i + 1 := by
      intro S2 H ha
      refine ⟨?_, by simp only [List.length_append, List.length_cons]; rw [← hml, ← hab, List.length_append]; omega⟩
      rw [List.take_succ_eq_append_getElem hlt]
      exact StS.insert (by rw [hab]; exact hm) ha hb
    refine wp_gtr (fun hgt => ?_) (fun hle => ?_)
    · have ha0 : a ≠ [] := by intro h; rw [h] at hgt; simp at hgt
      obtain ⟨a', y, rfl⟩ : ∃ a' y, a = a' ++ [y] := ⟨a.dropLast, a.getLast ha0, (List.dropLast_concat_getLast ha0).symm⟩
      have lay : (a' ++ [y]).length = a'.length + 1 := by simp
      repeat (first|refine zA ?_|refine zB rfl ?_|refine zC ?_|refine zD ?_|refine zE rfl ?_|refine zF ?_|refine zG ?_|refine zH ?_|refine zI ?_|refine zJ ?_|refine zK ?_|refine zL rfl ?_|refine zN rfl ?_)
      refine wp_saddr (i := i) H (by repeat (first | exact List.Mem.head _ | apply List.Mem.tail)) (lvs_getro hlt) fun p off H => ?_
      repeat (first|refine zA ?_|refine zB rfl ?_|refine zC ?_|refine zD ?_|refine zE rfl ?_|refine zF ?_|refine zG ?_|refine zH ?_|refine zI ?_|refine zJ ?_|refine zK ?_|refine zL rfl ?_|refine zN rfl ?_)
      refine wp_loada H (by repeat (first | exact List.Mem.head _ | apply List.Mem.tail)) (by show 4 ≤ 4; omega) ?_
      have H := H.tl
      repeat (first|refine zA ?_|refine zB rfl ?_|refine zC ?_|refine zD ?_|refine zE rfl ?_|refine zF ?_|refine zG ?_|refine zH ?_|refine zI ?_|refine zJ ?_|refine zK ?_|refine zL rfl ?_|refine zN rfl ?_)
      refine wp_sub64 (by omega) (by omega) ?_
      repeat (first|refine zA ?_|refine zB rfl ?_|refine zC ?_|refine zD ?_|refine zE rfl ?_|refine zF ?_|refine zG ?_|refine zH ?_|refine zI ?_|refine zJ ?_|refine zK ?_|refine zL rfl ?_|refine zN rfl ?_)
      refine wp_ownG (i := a'.length) (x := y) H (by rw [lay]; omega) (by rw [← hab, List.append_assoc]; exact get_mid _ _ _) ?_
      repeat (first|refine zA ?_|refine zB rfl ?_|refine zC ?_|refine zD ?_|refine zE rfl ?_|refine zF ?_|refine zG ?_|refine zH ?_|refine zI ?_|refine zJ ?_|refine zK ?_|refine zL rfl ?_|refine zN rfl ?_)
      refine wp_callV H (aheadL_ok (a := X[i]) (b := y)) fun S3 H => ?_
      by_cases hy : X[i].lt y
      · rw [decide_eq_true hy]
        repeat (first|refine zA ?_|refine zB rfl ?_|refine zC ?_|refine zD ?_|refine zE rfl ?_|refine zF ?_|refine zG ?_|refine zH ?_|refine zI ?_|refine zJ ?_|refine zK ?_|refine zL rfl ?_|refine zN rfl ?_)
        refine wp_bind ?_
        refine wp_sub64 (by omega) (by omega) (wp_ret ?_)
        show wp EM _ _ _
        refine wp_ret (.inl ⟨rfl, a'.length, by rw [lay]; omega, a', y :: b, ?_, rfl, by rw [← hab]; simp, ?_, H⟩)
        · have q : (((a' ++ [y]).length : Nat) : Int) - 1 = (a'.length : Int) := by rw [lay]; omega
          show [I _] = [I _]
          rw [q]
        · intro z hz
          rcases List.mem_cons.1 hz with rfl | hz
          · exact hy
          · exact hb z hz
      · rw [decide_eq_false hy]
        repeat (first|refine zA ?_|refine zB rfl ?_|refine zC ?_|refine zD ?_|refine zE rfl ?_|refine zF ?_|refine zG ?_|refine zH ?_|refine zI ?_|refine zJ ?_|refine zK ?_|refine zL rfl ?_|refine zN rfl ?_)
        have hsrt : Srt (a' ++ [y]) := by
          have := hm.1
          rw [← hab] at this
          exact (List.pairwise_append.1 this).1
        have ha : ∀ z ∈ a' ++ [y], ¬ X[i].lt z := fun z hz => by
          rcases List.mem_append.1 hz with hz | hz
          · exact fun h => (List.pairwise_append.1 hsrt).2.2 z hz y (by simp) |> fun hyz => hy (Lv.lt_le h hyz)
          · rw [List.mem_singleton.1 hz]; exact hy
        obtain ⟨f1, f2⟩ := go2 S3 H ha
        refine wp_ret (.inr ⟨by simp, ?_⟩)
        show wp EM _ _ _
        refine wp_mono (fin S3 H ha) fun t vs1 S4 q => ?_
        obtain ⟨rfl, out', rfl, H⟩ := q
        show wp EM _ _ _
        refine wp_add64 (by omega) (by omega) (wp_ret (.inl ⟨rfl, X.length - (i + 1), by omega, i + 1, out', _, _, rfl, by omega, rfl, f1, f2, H⟩))
    · have ha0 : a = [] := by cases a with
        | nil => rfl
        | cons z r => simp at hle; omega
      subst ha0
      repeat (first|refine zA ?_|refine zB rfl ?_|refine zC ?_|refine zD ?_|refine zE rfl ?_|refine zF ?_|refine zG ?_|refine zH ?_|refine zI ?_|refine zJ ?_|refine zK ?_|refine zL rfl ?_|refine zN rfl ?_)
      obtain ⟨f1, f2⟩ := go2 S2 H (by simp)
      refine wp_ret (.inr ⟨by simp, ?_⟩)
      show wp EM _ _ _
      refine wp_mono (fin S2 H (by simp)) fun t vs1 S4 q => ?_
      obtain ⟨rfl, out', rfl, H⟩ := q
      show wp EM _ _ _
      refine wp_add64 (by omega) (by omega) (wp_ret (.inl ⟨rfl, X.length - (i + 1), by omega, i + 1, out', _, _, rfl, by omega, rfl, f1, f2, H⟩))
  · repeat (first|refine zA ?_|refine zB rfl ?_|refine zC ?_|refine zD ?_|refine zE rfl ?_|refine zF ?_|refine zG ?_|refine zH ?_|refine zI ?_|refine zJ ?_|refine zK ?_|refine zL rfl ?_|refine zN rfl ?_)
    refine wp_ret (.inr ⟨by simp, ?_⟩)
    show wp EM _ _ _
    rw [List.take_of_length_le (by omega)] at hm
    exact wp_ret ⟨rfl, m, hm, by omega, H.dropRo (by simp)⟩
theorem rshould_ok {v : AV} {l : List Lv} {cores : Int} (hv : RoSl S v 4 (lvs l)) (hl : l.length < 100000) : wpC EM (.fn (.func 10) [] []) [v, I cores] S fun r S' => ∃ m, StS l m ∧ m.length = l.length ∧ Cx S [] S' [.sl r 4 (lvs (m.take (many cores l.length)))] [] := by
  refine wpC_fn (b := Try.a10) rfl rfl ?_
  unfold Try.a10
  refine wp_call (wpC_mono (rorder_ok hv hl) fun r S2 q => ?_)
  obtain ⟨m, k1, k2, H⟩ := q
  refine wp_leno H 0 rfl ?_
  rw [lvs_len, k2]
  refine wp_min2 (wp_max2 ?_)
  have e : max 0 (min cores (l.length : Int)) = ((many cores l.length : Nat) : Int) := by unfold many; omega
  rw [e]
  refine wp_prefixO (i := many cores l.length) H 0 rfl (by rw [lvs_len, k2]; unfold many; omega) fun v' H => ?_
  refine wp_ret ⟨rfl, m, k1, k2, ?_⟩
  rw [lvs_take] at H
  exact H
end
end Go.Abs
namespace Go.Abs
open Go.Proofs
set_option maxRecDepth 100000
set_option linter.unusedVariables false
/-! ### are just these run? -/
def rightAt (m : List Lv) (n : Nat) (cores : Int) (i : Nat) (x : Lv) : Prop := (x.st = 4 ↔ i < n) ∧ (i < n → 0 ≤ x.core ∧ x.core < cores ∧ ∀ y ∈ m.take i, y.core ≠ x.core)
def rightL (m : List Lv) (n : Nat) (cores : Int) : Prop := ∀ i x, m[i]? = some x → rightAt m n cores i x
theorem not_right {m : List Lv} {n : Nat} {cores : Int} {i : Nat} {x : Lv} (h : m[i]? = some x) (k : ¬ rightAt m n cores i x) : ¬ rightL m n cores := fun q => k (q i x h)
theorem take_mem {m : List Lv} {i : Nat} {x y : Lv} (h : m[i]? = some x) : y ∈ m.take (i + 1) ↔ y ∈ m.take i ∨ y = x := by
  obtain ⟨hi, rfl⟩ := List.getElem?_eq_some_iff.1 h
  rw [List.take_succ_eq_append_getElem hi, List.mem_append, List.mem_singleton]
theorem undI : EM.P.underlying 3 = some (.int .i64) := by kernel_rfl
theorem undB : EM.P.underlying 4 = some .bool := by kernel_rfl
section
variable {B0 S : AH} {W : List Nat} {own : List Own} {ro : List Fct} {Q : Post} {k : AV → AC} {v : AV} {L : List Lv}
theorem many_self (n : Nat) : many (n : Int) n = n := by unfold many; simp
/-- which cores have been seen, each once -/
def seen (M : List (Int × AV)) (l : List Lv) : Prop := ∀ c, mget M c = if c ∈ l.map Lv.core then some (I 1) else none
theorem right_ok {v : AV} {l : List Lv} {cores : Int} (hv : RoSl S v 4 (lvs l)) (hl : l.length < 100000) : wpC EM (.fn (.func 11) [] []) [v, I cores] S fun r S' => (∃ m b, StS l m ∧ m.length = l.length ∧ r = B b ∧ (b = true ↔ rightL m (many cores l.length) cores)) ∧ Grows S S' := by
  refine wpC_fn (b := Try.a11) rfl rfl ?_
  have H : Cx S [] S [] [.sl v 4 (lvs l)] := Cx.ro1 hv
  unfold Try.a11 Try.a11x9 Try.a11x8 Try.a11x7 Try.a11x6 Try.a11x5 Try.a11x4 Try.a11x3 Try.a11x2 Try.a11x1 Try.a11x0
  refine wp_len H (by repeat (first | exact List.Mem.head _ | apply List.Mem.tail)) ?_
  rw [lvs_len]
  refine wp_call (wpC_mono (should_ok (l := l) (cores := l.length) (H.roSl (by repeat (first | exact List.Mem.head _ | apply List.Mem.tail))) hl) fun u S1 q => ?_)
  obtain ⟨m, k1, k2, K⟩ := q
  rw [many_self, ← k2, List.take_length] at K
  have H : Cx S [] S1 [.sl u 4 (lvs m)] [.sl v 4 (lvs l)] := H.addC K
  clear K
  refine wp_call (wpC_mono (should_ok (l := l) (cores := cores) (H.roSl (by repeat (first | exact List.Mem.head _ | apply List.Mem.tail))) hl) fun w S2 q => ?_)
  obtain ⟨m2, k3, k4, K⟩ := q
  obtain rfl : m2 = m := k3.uniq k1
  have hn : many cores l.length ≤ m2.length := by rw [k4]; unfold many; omega
  generalize hN : many cores l.length = N at *
  have H : Cx S [] S2 [.sl w 4 (lvs (m2.take N)), .sl u 4 (lvs m2)] [.sl v 4 (lvs l)] := H.addC K
  clear K
  refine wp_leno H 0 rfl ?_
  have hNl : (lvs (m2.take N)).length = N := by rw [lvs_len, List.length_take]; omega
  rw [hNl]
  refine wp_mkmap H fun mp S3 H => ?_
  refine wp_leno H 2 rfl ?_
  rw [lvs_len]
  have H : Cx S [] S3 [.obj mp (.map (ment [])), .sl u 4 (lvs m2)] [.sl v 4 (lvs l)] := H.dropOwn (List.Sublist.cons_cons _ (List.Sublist.cons _ (List.Sublist.refl _)))
  have done : ∀ {S1 : AH} {own} {ro} (b : Bool), Cx S [] S1 own ro → (b = true ↔ rightL m2 N cores) → (Tag.ret = .ret ∧ (∃ m b', StS l m ∧ m.length = l.length ∧ oneOf [B b] = B b' ∧ (b' = true ↔ rightL m N cores)) ∧ Grows S S1) := fun b H hb => ⟨rfl, ⟨m2, b, k1, k4, rfl, hb⟩, H.grows⟩
  refine wp_bind (wp_loop (wpL_inv (fun n vs S1 => ∃ (i : Nat) (w : AV) (Mp : List (Int × AV)), vs = [I (i : Int), w] ∧ i ≤ m2.length ∧ n = m2.length - i ∧ (∀ j x, m2[j]? = some x → j < i → rightAt m2 N cores j x) ∧ (seen Mp (m2.take (min i N))) ∧ Cx S [] S1 [.obj mp (.map (ment Mp)), .sl u 4 (lvs m2)] [.sl v 4 (lvs l)]) ?_ m2.length ⟨0, _, [], rfl, by omega, by omega, fun _ _ _ h => by omega, ?_, H⟩))
  rotate_left
  · intro c; simp [mget]
  clear H
  rintro n vs S4 ⟨i, w, Mp, rfl, hi, rfl, hr, hs, H⟩
  refine wp_lss (fun hlt => ?_) (fun hge => ?_)
  · have hlt : i < m2.length := by omega
    have hx : m2[i]? = some m2[i] := List.getElem?_eq_getElem hlt
    generalize m2[i] = x at hx
    repeat (first|refine zA ?_|refine zB rfl ?_|refine zC ?_|refine zD ?_|refine zE rfl ?_|refine zF ?_|refine zG ?_|refine zH ?_|refine zI ?_|refine zJ ?_|refine zK ?_|refine zL rfl ?_|refine zN rfl ?_)
    refine wp_bind ?_
    refine wp_ownN H 1 rfl hx ?_
    show wp EM (.op (.alloc [I 0, I 0, I 0, U 0]) _) _ _
    refine wp_alloc H fun q S5 H => ?_
    refine wp_store (n := 4) (off := 0) H 0 rfl rfl rfl (by show 0 + 4 ≤ 4; omega) fun S6 H => ?_
    have H : Cx S [] S6 [.obj q (.row x.cs), .obj mp (.map (ment Mp)), .sl u 4 (lvs m2)] [.sl v 4 (lvs l)] := H
    have H : Cx S [] S6 [.obj mp (.map (ment Mp)), .sl u 4 (lvs m2)] [.pt q 0 x.cs, .sl v 4 (lvs l)] := H.freeze (i := 0) rfl
    repeat (first|refine zA ?_|refine zB rfl ?_|refine zC ?_|refine zD ?_|refine zE rfl ?_|refine zF ?_|refine zG ?_|refine zH ?_|refine zI ?_|refine zJ ?_|refine zK ?_|refine zL rfl ?_|refine zN rfl ?_)
    refine wp_load1 (id := q) (j := 1) H (cs := x.cs) (by repeat (first | exact List.Mem.head _ | apply List.Mem.tail)) rfl ?_
    refine wp_op e_eql ?_
    refine wp_op e_lss ?_
    refine wp_op (e_eqb undB) ?_
    have hlN : ((i : Int) < (N : Int)) ↔ i < N := by omega
    by_cases hst : ¬ (x.st = 4 ↔ i < N)
    · have e : (if true = true then !(decide (x.st = 4) == decide ((i : Int) < (N : Int))) else (decide (x.st = 4) == decide ((i : Int) < (N : Int)))) = true := by
        by_cases a1 : x.st = 4 <;> by_cases a2 : i < N <;> simp_all
      rw [e]
      repeat (first|refine zA ?_|refine zB rfl ?_|refine zC ?_|refine zD ?_|refine zE rfl ?_|refine zF ?_|refine zG ?_|refine zH ?_|refine zI ?_|refine zJ ?_|refine zK ?_|refine zL rfl ?_|refine zN rfl ?_)
      exact wp_ret (.inr ⟨by simp, done false H ⟨fun h => (by cases h), fun h => absurd h (not_right hx fun h => hst h.1)⟩⟩)
    have hst := Decidable.not_not.1 hst
    have e : (if true = true then !(decide (x.st = 4) == decide ((i : Int) < (N : Int))) else (decide (x.st = 4) == decide ((i : Int) < (N : Int)))) = false := by
      by_cases a1 : x.st = 4 <;> by_cases a2 : i < N <;> simp_all
    rw [e]
    repeat (first|refine zA ?_|refine zB rfl ?_|refine zC ?_|refine zD ?_|refine zE rfl ?_|refine zF ?_|refine zG ?_|refine zH ?_|refine zI ?_|refine zJ ?_|refine zK ?_|refine zL rfl ?_|refine zN rfl ?_)
    refine wp_lss (fun hin => ?_) (fun hni => ?_)
    · have hin : i < N := by omega
      refine wp_bind ?_
      repeat (first|refine zA ?_|refine zB rfl ?_|refine zC ?_|refine zD ?_|refine zE rfl ?_|refine zF ?_|refine zG ?_|refine zH ?_|refine zI ?_|refine zJ ?_|refine zK ?_|refine zL rfl ?_|refine zN rfl ?_)
      refine wp_load1 (id := q) (j := 2) H (cs := x.cs) (by repeat (first | exact List.Mem.head _ | apply List.Mem.tail)) rfl ?_
      refine wp_lookup H 0 undI rfl ?_
      have em : min i N = i := by omega
      have em2 : min (i + 1) N = i + 1 := by omega
      rw [em] at hs
      have hcm : (x.core ∈ (m2.take i).map Lv.core) ↔ ∃ y ∈ m2.take i, y.core = x.core := List.mem_map
      have hget : (mget Mp x.core).getD (I 0) = I (if x.core ∈ (m2.take i).map Lv.core then 1 else 0) := by
        rw [hs x.core]
        by_cases hc : x.core ∈ (m2.take i).map Lv.core
        · rw [if_pos hc, if_pos hc]; rfl
        · rw [if_neg hc, if_neg hc]; rfl
      show wp EM (.op (.bin .add ((mget Mp x.core).getD (I 0)) (I 1)) _) _ _
      rw [hget]
      refine wp_add64 (by split <;> omega) (by split <;> omega) ?_
      refine wp_mapset H 0 undI rfl fun S7 H => ?_
      have H : Cx S [] S7 [.obj mp (.map (ment (mset Mp x.core (I ((if x.core ∈ (m2.take i).map Lv.core then 1 else 0) + 1))))), .sl u 4 (lvs m2)] [.pt q 0 x.cs, .sl v 4 (lvs l)] := H
      repeat (first|refine zA ?_|refine zB rfl ?_|refine zC ?_|refine zD ?_|refine zE rfl ?_|refine zF ?_|refine zG ?_|refine zH ?_|refine zI ?_|refine zJ ?_|refine zK ?_|refine zL rfl ?_|refine zN rfl ?_)
      refine wp_load1 (id := q) (j := 2) H (cs := x.cs) (by repeat (first | exact List.Mem.head _ | apply List.Mem.tail)) rfl ?_
      refine wp_lss (fun hneg => ?_) (fun hpos => ?_)
      · repeat (first|refine zA ?_|refine zB rfl ?_|refine zC ?_|refine zD ?_|refine zE rfl ?_|refine zF ?_|refine zG ?_|refine zH ?_|refine zI ?_|refine zJ ?_|refine zK ?_|refine zL rfl ?_|refine zN rfl ?_)
        exact wp_ret (.inr ⟨by simp, done false H ⟨fun h => (by cases h), fun h => absurd h (not_right hx fun h => by have := (h.2 hin).1; have : x.core < 0 := hneg; omega)⟩⟩)
      repeat (first|refine zA ?_|refine zB rfl ?_|refine zC ?_|refine zD ?_|refine zE rfl ?_|refine zF ?_|refine zG ?_|refine zH ?_|refine zI ?_|refine zJ ?_|refine zK ?_|refine zL rfl ?_|refine zN rfl ?_)
      refine wp_load1 (id := q) (j := 2) H (cs := x.cs) (by repeat (first | exact List.Mem.head _ | apply List.Mem.tail)) rfl ?_
      repeat (first|refine zA ?_|refine zB rfl ?_|refine zC ?_|refine zD ?_|refine zE rfl ?_|refine zF ?_|refine zG ?_|refine zH ?_|refine zI ?_|refine zJ ?_|refine zK ?_|refine zL rfl ?_|refine zN rfl ?_)
      refine wp_geq (fun hbig => ?_) (fun hsm => ?_)
      · repeat (first|refine zA ?_|refine zB rfl ?_|refine zC ?_|refine zD ?_|refine zE rfl ?_|refine zF ?_|refine zG ?_|refine zH ?_|refine zI ?_|refine zJ ?_|refine zK ?_|refine zL rfl ?_|refine zN rfl ?_)
        exact wp_ret (.inr ⟨by simp, done false H ⟨fun h => (by cases h), fun h => absurd h (not_right hx fun h => by have := (h.2 hin).2.1; have : x.core ≥ cores := hbig; omega)⟩⟩)
      repeat (first|refine zA ?_|refine zB rfl ?_|refine zC ?_|refine zD ?_|refine zE rfl ?_|refine zF ?_|refine zG ?_|refine zH ?_|refine zI ?_|refine zJ ?_|refine zK ?_|refine zL rfl ?_|refine zN rfl ?_)
      refine wp_load1 (id := q) (j := 2) H (cs := x.cs) (by repeat (first | exact List.Mem.head _ | apply List.Mem.tail)) rfl ?_
      repeat (first|refine zA ?_|refine zB rfl ?_|refine zC ?_|refine zD ?_|refine zE rfl ?_|refine zF ?_|refine zG ?_|refine zH ?_|refine zI ?_|refine zJ ?_|refine zK ?_|refine zL rfl ?_|refine zN rfl ?_)
      refine wp_lookup H 0 undI rfl ?_
      have hget2 : (mget (mset Mp x.core (I ((if x.core ∈ (m2.take i).map Lv.core then 1 else 0) + 1))) x.core).getD (I 0) = I ((if x.core ∈ (m2.take i).map Lv.core then 1 else 0) + 1) := by rw [mget_mset, if_pos rfl]; rfl
      show wp EM (.gop (B false) false (.bin .gtr ((mget (mset Mp x.core (I ((if x.core ∈ (m2.take i).map Lv.core then 1 else 0) + 1))) x.core).getD (I 0)) (I 1)) _) _ _
      rw [hget2]
      repeat (first|refine zA ?_|refine zB rfl ?_|refine zC ?_|refine zD ?_|refine zE rfl ?_|refine zF ?_|refine zG ?_|refine zH ?_|refine zI ?_|refine zJ ?_|refine zK ?_|refine zL rfl ?_|refine zN rfl ?_)
      refine wp_gtr (fun htwo => ?_) (fun hone => ?_)
      · repeat (first|refine zA ?_|refine zB rfl ?_|refine zC ?_|refine zD ?_|refine zE rfl ?_|refine zF ?_|refine zG ?_|refine zH ?_|refine zI ?_|refine zJ ?_|refine zK ?_|refine zL rfl ?_|refine zN rfl ?_)
        refine wp_ret (.inr ⟨by simp, done false H ⟨fun h => (by cases h), fun h => absurd h (not_right hx fun h => ?_)⟩⟩)
        by_cases hc : x.core ∈ (m2.take i).map Lv.core
        · obtain ⟨y, hy, hyc⟩ := hcm.1 hc
          exact (h.2 hin).2.2 y hy hyc
        · rw [if_neg hc] at htwo; omega
      repeat (first|refine zA ?_|refine zB rfl ?_|refine zC ?_|refine zD ?_|refine zE rfl ?_|refine zF ?_|refine zG ?_|refine zH ?_|refine zI ?_|refine zJ ?_|refine zK ?_|refine zL rfl ?_|refine zN rfl ?_)
      have hc : ¬ x.core ∈ (m2.take i).map Lv.core := fun h => by rw [if_pos h] at hone; omega
      rw [if_neg hc] at H
      refine wp_ret ?_
      show wp EM _ _ _
      refine wp_ret ?_
      show wp EM _ _ _
      refine wp_add64 (by omega) (by omega) (wp_ret (.inl ⟨rfl, m2.length - (i + 1), by omega, i + 1, _, _, rfl, by omega, rfl, ?_, ?_, H.tl⟩))
      · intro j y hy hj
        by_cases hji : j = i
        · subst hji
          rw [hx] at hy
          cases hy
          exact ⟨hst, fun _ => ⟨hpos, hsm, fun y hy hyc => hc (hcm.2 ⟨y, hy, hyc⟩)⟩⟩
        · exact hr j y hy (by omega)
      · rw [em2]
        intro c
        rw [mget_mset, hs c]
        have hmm : c ∈ (m2.take (i + 1)).map Lv.core ↔ c ∈ (m2.take i).map Lv.core ∨ x.core = c := by
          rw [List.mem_map, List.mem_map]
          constructor
          · rintro ⟨y, hy, rfl⟩
            rcases (take_mem hx).1 hy with hy | rfl
            · exact .inl ⟨y, hy, rfl⟩
            · exact .inr rfl
          · rintro (⟨y, hy, rfl⟩ | rfl)
            · exact ⟨y, (take_mem hx).2 (.inl hy), rfl⟩
            · exact ⟨x, (take_mem hx).2 (.inr rfl), rfl⟩
        by_cases h1 : x.core = c
        · rw [if_pos h1, if_pos (hmm.2 (.inr h1))]; rfl
        · rw [if_neg h1]
          by_cases h2 : c ∈ (m2.take i).map Lv.core
          · rw [if_pos h2, if_pos (hmm.2 (.inl h2))]
          · rw [if_neg h2, if_neg fun h => by rcases hmm.1 h with h | h; exact h2 h; exact h1 h]
    · have hni : ¬ i < N := by omega
      refine wp_bind ?_
      repeat (first|refine zA ?_|refine zB rfl ?_|refine zC ?_|refine zD ?_|refine zE rfl ?_|refine zF ?_|refine zG ?_|refine zH ?_|refine zI ?_|refine zJ ?_|refine zK ?_|refine zL rfl ?_|refine zN rfl ?_)
      refine wp_ret ?_
      show wp EM _ _ _
      refine wp_ret ?_
      show wp EM _ _ _
      refine wp_add64 (by omega) (by omega) (wp_ret (.inl ⟨rfl, m2.length - (i + 1), by omega, i + 1, _, _, rfl, by omega, rfl, ?_, ?_, H.tl⟩))
      · intro j y hy hj
        by_cases hji : j = i
        · subst hji
          rw [hx] at hy
          cases hy
          exact ⟨hst, fun h => absurd h hni⟩
        · exact hr j y hy (by omega)
      · have : min (i + 1) N = min i N := by omega
        rw [this]; exact hs
  · repeat (first|refine zA ?_|refine zB rfl ?_|refine zC ?_|refine zD ?_|refine zE rfl ?_|refine zF ?_|refine zG ?_|refine zH ?_|refine zI ?_|refine zJ ?_|refine zK ?_|refine zL rfl ?_|refine zN rfl ?_)
    refine wp_ret (.inr ⟨by simp, ?_⟩)
    show wp EM _ _ _
    exact wp_ret (done true H ⟨fun _ j y hy => hr j y hy (by have := (List.getElem?_eq_some_iff.1 hy).1; omega), fun _ => rfl⟩)
theorem rright_ok {v : AV} {l : List Lv} {cores : Int} (hv : RoSl S v 4 (lvs l)) (hl : l.length < 100000) : wpC EM (.fn (.func 12) [] []) [v, I cores] S fun r S' => (∃ m b, StS l m ∧ m.length = l.length ∧ r = B b ∧ (b = true ↔ rightL m (many cores l.length) cores)) ∧ Grows S S' := by
  refine wpC_fn (b := Try.a12) rfl rfl ?_
  have H : Cx S [] S [] [.sl v 4 (lvs l)] := Cx.ro1 hv
  unfold Try.a12 Try.a12x9 Try.a12x8 Try.a12x7 Try.a12x6 Try.a12x5 Try.a12x4 Try.a12x3 Try.a12x2 Try.a12x1 Try.a12x0
  refine wp_call (wpC_mono (rorder_ok (X := l) (H.roSl (by repeat (first | exact List.Mem.head _ | apply List.Mem.tail))) hl) fun u S1 q => ?_)
  obtain ⟨m, k1, k2, K⟩ := q
  have H : Cx S [] S1 [.sl u 4 (lvs m)] [.sl v 4 (lvs l)] := H.addC K
  clear K
  refine wp_call (wpC_mono (rshould_ok (l := l) (cores := cores) (H.roSl (by repeat (first | exact List.Mem.head _ | apply List.Mem.tail))) hl) fun w S2 q => ?_)
  obtain ⟨m2, k3, k4, K⟩ := q
  obtain rfl : m2 = m := k3.uniq k1
  have hn : many cores l.length ≤ m2.length := by rw [k4]; unfold many; omega
  generalize hN : many cores l.length = N at *
  have hNl : (lvs (m2.take N)).length = N := by rw [lvs_len, List.length_take]; omega
  refine wp_leno K 0 rfl ?_
  rw [hNl]
  have H : Cx S [] S2 [.sl u 4 (lvs m2)] [.sl v 4 (lvs l)] := H.grow K.grows
  clear K
  have done : ∀ {S1 : AH} {own} {ro} (b : Bool), Cx S [] S1 own ro → (b = true ↔ rightL m2 N cores) → (Tag.ret = .ret ∧ (∃ m b', StS l m ∧ m.length = l.length ∧ oneOf [B b] = B b' ∧ (b' = true ↔ rightL m N cores)) ∧ Grows S S1) := fun b H hb => ⟨rfl, ⟨m2, b, k1, k4, rfl, hb⟩, H.grows⟩
  -- one part of one of them
  have ld : ∀ {j : Nat} {y : Lv} {f : Nat} {S3 : AH} {c : AV} {Q' : Post} {K : AV → AC}, m2[j]? = some y → y.cs[f]? = some c → Cx S [] S3 [.sl u 4 (lvs m2)] [.sl v 4 (lvs l)] → wp EM (K c) S3 Q' → wp EM (.op (.saddr 4 u (I (j : Int))) fun p => .op (.faddr f p) fun q => .op (.load 1 false q) K) S3 Q' := by
    intro j y f S3 c Q' K hy hc H h
    refine wp_saddro H 0 rfl (lvs_get? hy) fun id off hp => ?_
    refine wp_faddr ?_
    exact wp_loadF hp hc h
  refine wp_bind (wp_loop (wpL_inv (fun n vs S1 => ∃ (i : Nat) (w z : AV), vs = [I (i : Int), w, z] ∧ i ≤ m2.length ∧ n = m2.length - i ∧ (∀ j x, m2[j]? = some x → j < i → rightAt m2 N cores j x) ∧ Cx S [] S1 [.sl u 4 (lvs m2)] [.sl v 4 (lvs l)]) ?_ m2.length ⟨0, _, _, rfl, by omega, by omega, fun _ _ _ h => by omega, H⟩))
  clear H
  rintro n vs S4 ⟨i, w, z, rfl, hi, rfl, hr, H⟩
  refine wp_leno H 0 rfl ?_
  rw [lvs_len]
  refine wp_lss (fun hlt => ?_) (fun hge => ?_)
  · have hlt : i < m2.length := by omega
    have hx : m2[i]? = some m2[i] := List.getElem?_eq_getElem hlt
    generalize m2[i] = x at hx
    repeat (first|refine zA ?_|refine zB rfl ?_|refine zC ?_|refine zD ?_|refine zE rfl ?_|refine zF ?_|refine zG ?_|refine zH ?_|refine zI ?_|refine zJ ?_|refine zK ?_|refine zL rfl ?_|refine zN rfl ?_)
    refine wp_bind ?_
    refine ld (y := x) (f := 1) hx rfl H ?_
    refine wp_op e_eql ?_
    refine wp_op e_lss ?_
    refine wp_op (e_eqb undB) ?_
    by_cases hst : ¬ (x.st = 4 ↔ i < N)
    · have e : (if true = true then !(decide (x.st = 4) == decide ((i : Int) < (N : Int))) else (decide (x.st = 4) == decide ((i : Int) < (N : Int)))) = true := by
        by_cases a1 : x.st = 4 <;> by_cases a2 : i < N <;> simp_all
      rw [e]
      repeat (first|refine zA ?_|refine zB rfl ?_|refine zC ?_|refine zD ?_|refine zE rfl ?_|refine zF ?_|refine zG ?_|refine zH ?_|refine zI ?_|refine zJ ?_|refine zK ?_|refine zL rfl ?_|refine zN rfl ?_)
      exact wp_ret (.inr ⟨by simp, done false H ⟨fun h => (by cases h), fun h => absurd h (not_right hx fun h => hst h.1)⟩⟩)
    have hst := Decidable.not_not.1 hst
    have e : (if true = true then !(decide (x.st = 4) == decide ((i : Int) < (N : Int))) else (decide (x.st = 4) == decide ((i : Int) < (N : Int)))) = false := by
      by_cases a1 : x.st = 4 <;> by_cases a2 : i < N <;> simp_all
    rw [e]
    repeat (first|refine zA ?_|refine zB rfl ?_|refine zC ?_|refine zD ?_|refine zE rfl ?_|refine zF ?_|refine zG ?_|refine zH ?_|refine zI ?_|refine zJ ?_|refine zK ?_|refine zL rfl ?_|refine zN rfl ?_)
    -- the cores of those ahead of it
    have inner : ∀ (S5 : AH) (c : Bool), (i < N → 0 ≤ x.core ∧ x.core < cores) → Cx S [] S5 [.sl u 4 (lvs m2)] [.sl v 4 (lvs l)] → wp EM (Try.a12x3 u (I (N : Int)) [I (i : Int), w, z]) S5 fun t vs1 S6 => (t = .normal ∧ (∃ a b, vs1 = [a, b]) ∧ rightAt m2 N cores i x ∧ Cx S [] S6 [.sl u 4 (lvs m2)] [.sl v 4 (lvs l)]) ∨ (t = .ret ∧ (∃ a, vs1 = [a, B false]) ∧ ¬ rightL m2 N cores ∧ Cx S [] S6 [.sl u 4 (lvs m2)] [.sl v 4 (lvs l)]) := by
      intro S5 c hcore H
      unfold Try.a12x3 Try.a12x2 Try.a12x1 Try.a12x0
      refine wp_bind (wp_loop (wpL_inv (fun n vs S1 => ∃ (k : Nat) (z : AV), vs = [I (k : Int), z] ∧ k ≤ i ∧ n = i - k ∧ (i < N → ∀ y ∈ m2.take k, y.core ≠ x.core) ∧ Cx S [] S1 [.sl u 4 (lvs m2)] [.sl v 4 (lvs l)]) ?_ i ⟨0, _, rfl, by omega, by omega, fun _ y hy => by simp at hy, H⟩))
      clear H
      rintro n vs S6 ⟨k, z, rfl, hk, rfl, hks, H⟩
      refine wp_lss (fun hlt2 => ?_) (fun hge2 => ?_)
      · have hlt2 : k < i := by omega
        have hy : m2[k]? = some m2[k] := List.getElem?_eq_getElem (by omega)
        generalize m2[k] = y at hy
        repeat (first|refine zA ?_|refine zB rfl ?_|refine zC ?_|refine zD ?_|refine zE rfl ?_|refine zF ?_|refine zG ?_|refine zH ?_|refine zI ?_|refine zJ ?_|refine zK ?_|refine zL rfl ?_|refine zN rfl ?_)
        refine wp_lss (fun hin => ?_) (fun hni => ?_)
        · have hin : i < N := by omega
          repeat (first|refine zA ?_|refine zB rfl ?_|refine zC ?_|refine zD ?_|refine zE rfl ?_|refine zF ?_|refine zG ?_|refine zH ?_|refine zI ?_|refine zJ ?_|refine zK ?_|refine zL rfl ?_|refine zN rfl ?_)
          refine wp_bind ?_
          refine ld (y := y) (f := 2) hy rfl H ?_
          refine ld (y := x) (f := 2) hx rfl H ?_
          refine wp_eql (fun he => ?_) (fun hne => ?_)
          · repeat (first|refine zA ?_|refine zB rfl ?_|refine zC ?_|refine zD ?_|refine zE rfl ?_|refine zF ?_|refine zG ?_|refine zH ?_|refine zI ?_|refine zJ ?_|refine zK ?_|refine zL rfl ?_|refine zN rfl ?_)
            refine wp_ret (.inr ⟨by simp, ?_⟩)
            refine Or.inr ⟨rfl, ⟨_, rfl⟩, not_right hx fun h => (h.2 hin).2.2 y ?_ he, H⟩
            exact List.mem_of_getElem? (i := k) (by rw [List.getElem?_take, if_pos hlt2]; exact hy)
          · repeat (first|refine zA ?_|refine zB rfl ?_|refine zC ?_|refine zD ?_|refine zE rfl ?_|refine zF ?_|refine zG ?_|refine zH ?_|refine zI ?_|refine zJ ?_|refine zK ?_|refine zL rfl ?_|refine zN rfl ?_)
            refine wp_ret ?_
            show wp EM _ _ _
            refine wp_add64 (by omega) (by omega) (wp_ret (.inl ⟨rfl, i - (k + 1), by omega, k + 1, _, rfl, by omega, rfl, fun _ y' hy' => ?_, H⟩))
            rcases (take_mem hy).1 hy' with h | rfl
            · exact hks hin y' h
            · exact hne
        · repeat (first|refine zA ?_|refine zB rfl ?_|refine zC ?_|refine zD ?_|refine zE rfl ?_|refine zF ?_|refine zG ?_|refine zH ?_|refine zI ?_|refine zJ ?_|refine zK ?_|refine zL rfl ?_|refine zN rfl ?_)
          refine wp_ret (.inr ⟨by simp, ?_⟩)
          show wp EM _ _ _
          refine wp_ret (Or.inl ⟨rfl, ⟨_, _, rfl⟩, ⟨hst, fun h => by omega⟩, H⟩)
      · have : k = i := by omega
        subst this
        repeat (first|refine zA ?_|refine zB rfl ?_|refine zC ?_|refine zD ?_|refine zE rfl ?_|refine zF ?_|refine zG ?_|refine zH ?_|refine zI ?_|refine zJ ?_|refine zK ?_|refine zL rfl ?_|refine zN rfl ?_)
        refine wp_ret (.inr ⟨by simp, ?_⟩)
        show wp EM _ _ _
        refine wp_ret (Or.inl ⟨rfl, ⟨_, _, rfl⟩, ⟨hst, fun h => ⟨(hcore h).1, (hcore h).2, hks h⟩⟩, H⟩)
    have rest : ∀ (S5 : AH), (i < N → 0 ≤ x.core ∧ x.core < cores) → Cx S [] S5 [.sl u 4 (lvs m2)] [.sl v 4 (lvs l)] → wp EM (Try.a12x3 u (I (N : Int)) [I (i : Int), w, z]) S5 fun t vs1 S6 => (t = .normal ∧ (∃ a b, vs1 = [a, b]) ∧ rightAt m2 N cores i x ∧ Cx S [] S6 [.sl u 4 (lvs m2)] [.sl v 4 (lvs l)]) ∨ (t = .ret ∧ (∃ a, vs1 = [a, B false]) ∧ ¬ rightL m2 N cores ∧ Cx S [] S6 [.sl u 4 (lvs m2)] [.sl v 4 (lvs l)]) := fun S5 => inner S5 true
    have step : ∀ (t : Tag) (vs1 : List AV) (S6 : AH), ((t = .normal ∧ (∃ a b, vs1 = [a, b]) ∧ rightAt m2 N cores i x ∧ Cx S [] S6 [.sl u 4 (lvs m2)] [.sl v 4 (lvs l)]) ∨ (t = .ret ∧ (∃ a, vs1 = [a, B false]) ∧ ¬ rightL m2 N cores ∧ Cx S [] S6 [.sl u 4 (lvs m2)] [.sl v 4 (lvs l)])) → (t = .normal ∧ (∃ a b, vs1 = [a, b]) ∧ Cx S [] S6 [.sl u 4 (lvs m2)] [.sl v 4 (lvs l)] ∧ ∀ j x, m2[j]? = some x → j < i + 1 → rightAt m2 N cores j x) ∨ (t = .ret ∧ (∃ a, vs1 = [a, B false]) ∧ ¬ rightL m2 N cores ∧ Cx S [] S6 [.sl u 4 (lvs m2)] [.sl v 4 (lvs l)]) := by
      rintro t vs1 S6 (⟨h1, h2, h3, h4⟩ | h)
      · refine .inl ⟨h1, h2, h4, fun j y hy hj => ?_⟩
        by_cases hji : j = i
        · subst hji
          rw [hx] at hy
          cases hy
          exact h3
        · exact hr j y hy (by omega)
      · exact .inr h
    refine wp_lss (fun hin => ?_) (fun hni => ?_)
    · have hin : i < N := by omega
      repeat (first|refine zA ?_|refine zB rfl ?_|refine zC ?_|refine zD ?_|refine zE rfl ?_|refine zF ?_|refine zG ?_|refine zH ?_|refine zI ?_|refine zJ ?_|refine zK ?_|refine zL rfl ?_|refine zN rfl ?_)
      refine wp_saddro H 0 rfl (lvs_get? hx) fun id off hp => ?_
      repeat (first|refine zA ?_|refine zB rfl ?_|refine zC ?_|refine zD ?_|refine zE rfl ?_|refine zF ?_|refine zG ?_|refine zH ?_|refine zI ?_|refine zJ ?_|refine zK ?_|refine zL rfl ?_|refine zN rfl ?_)
      refine wp_loadF (j := 2) hp rfl ?_
      refine wp_gop_t ?_
      refine wp_lss (fun hneg => ?_) (fun hpos => ?_)
      · repeat (first|refine zA ?_|refine zB rfl ?_|refine zC ?_|refine zD ?_|refine zE rfl ?_|refine zF ?_|refine zG ?_|refine zH ?_|refine zI ?_|refine zJ ?_|refine zK ?_|refine zL rfl ?_|refine zN rfl ?_)
        exact wp_ret (.inr ⟨by simp, done false H ⟨fun h => (by cases h), fun h => absurd h (not_right hx fun h => by have := (h.2 hin).1; have : x.core < 0 := hneg; omega)⟩⟩)
      repeat (first|refine zA ?_|refine zB rfl ?_|refine zC ?_|refine zD ?_|refine zE rfl ?_|refine zF ?_|refine zG ?_|refine zH ?_|refine zI ?_|refine zJ ?_|refine zK ?_|refine zL rfl ?_|refine zN rfl ?_)
      refine wp_saddro H 0 rfl (lvs_get? hx) fun id off hp => ?_
      repeat (first|refine zA ?_|refine zB rfl ?_|refine zC ?_|refine zD ?_|refine zE rfl ?_|refine zF ?_|refine zG ?_|refine zH ?_|refine zI ?_|refine zJ ?_|refine zK ?_|refine zL rfl ?_|refine zN rfl ?_)
      refine wp_loadF (j := 2) hp rfl ?_
      repeat (first|refine zA ?_|refine zB rfl ?_|refine zC ?_|refine zD ?_|refine zE rfl ?_|refine zF ?_|refine zG ?_|refine zH ?_|refine zI ?_|refine zJ ?_|refine zK ?_|refine zL rfl ?_|refine zN rfl ?_)
      refine wp_geq (fun hbig => ?_) (fun hsm => ?_)
      · repeat (first|refine zA ?_|refine zB rfl ?_|refine zC ?_|refine zD ?_|refine zE rfl ?_|refine zF ?_|refine zG ?_|refine zH ?_|refine zI ?_|refine zJ ?_|refine zK ?_|refine zL rfl ?_|refine zN rfl ?_)
        exact wp_ret (.inr ⟨by simp, done false H ⟨fun h => (by cases h), fun h => absurd h (not_right hx fun h => by have := (h.2 hin).2.1; have : x.core ≥ cores := hbig; omega)⟩⟩)
      repeat (first|refine zA ?_|refine zB rfl ?_|refine zC ?_|refine zD ?_|refine zE rfl ?_|refine zF ?_|refine zG ?_|refine zH ?_|refine zI ?_|refine zJ ?_|refine zK ?_|refine zL rfl ?_|refine zN rfl ?_)
      refine wp_mono (rest S4 (fun _ => ⟨hpos, hsm⟩) H) fun t vs1 S6 q => ?_
      rcases step t vs1 S6 q with ⟨rfl, ⟨a, b, rfl⟩, H, hr2⟩ | ⟨rfl, ⟨a, rfl⟩, hno, H⟩
      · show wp EM _ _ _
        refine wp_add64 (by omega) (by omega) (wp_ret (.inl ⟨rfl, m2.length - (i + 1), by omega, i + 1, _, _, rfl, by omega, rfl, hr2, H⟩))
      · exact .inr ⟨by simp, done false H ⟨fun h => (by cases h), fun h => absurd h hno⟩⟩
    · repeat (first|refine zA ?_|refine zB rfl ?_|refine zC ?_|refine zD ?_|refine zE rfl ?_|refine zF ?_|refine zG ?_|refine zH ?_|refine zI ?_|refine zJ ?_|refine zK ?_|refine zL rfl ?_|refine zN rfl ?_)
      refine wp_mono (rest S4 (fun h => by omega) H) fun t vs1 S6 q => ?_
      rcases step t vs1 S6 q with ⟨rfl, ⟨a, b, rfl⟩, H, hr2⟩ | ⟨rfl, ⟨a, rfl⟩, hno, H⟩
      · show wp EM _ _ _
        refine wp_add64 (by omega) (by omega) (wp_ret (.inl ⟨rfl, m2.length - (i + 1), by omega, i + 1, _, _, rfl, by omega, rfl, hr2, H⟩))
      · exact .inr ⟨by simp, done false H ⟨fun h => (by cases h), fun h => absurd h hno⟩⟩
  · repeat (first|refine zA ?_|refine zB rfl ?_|refine zC ?_|refine zD ?_|refine zE rfl ?_|refine zF ?_|refine zG ?_|refine zH ?_|refine zI ?_|refine zJ ?_|refine zK ?_|refine zL rfl ?_|refine zN rfl ?_)
    refine wp_ret (.inr ⟨by simp, ?_⟩)
    show wp EM _ _ _
    exact wp_ret (done true H ⟨fun _ j y hy => hr j y hy (by have := (List.getElem?_eq_some_iff.1 hy).1; omega), fun _ => rfl⟩)
end
end Go.Abs
namespace Go.Abs
open Go.Proofs
set_option maxRecDepth 100000
set_option linter.unusedVariables false
def ksL : List (Option IntKind) := [some .i64, some .i64, some .i64, some .u64]
theorem strL : isStructB EM.P 60 = true := by kernel_rfl
theorem grdL : EM.P.eqGuardType EM.P.depth 60 = false := by kernel_rfl
theorem flatL4 : flatT EM.P 2 60 = some ksL := by kernel_rfl
def lvv (x : Lv) : List Value := [.int .i64 x.job, .int .i64 x.st, .int .i64 x.core, .int .u64 x.key]
theorem lvs_scs (l : List Lv) : lvs l = (l.map lvv).map scs := by
  unfold lvs
  rw [List.map_map]
  rfl
theorem copyL_ok {S : AH} {v : AV} {l : List Lv} (hv : RoSl S v 4 (lvs l)) (hl : l.length ≤ 100000) : wpC EM (.fn (.func 7) [] []) [v] S fun r S' => Cx S [] S' [.sl r 4 (lvs l)] [] :=
  copy_ok (es := 4) (bytes := 32) (z := [I 0, I 0, I 0, U 0]) rfl rfl rfl hv (lvs_all l) (by rw [lvs_len]; unfold maxBytes; omega) (by rw [lvs_len]; unfold maxLenN; omega)
theorem sameL_ok {S : AH} {v v' : AV} {l : List Lv} (hv : RoSl S v 4 (lvs l)) (hv' : RoSl S v' 4 (lvs l)) (hl : l.length ≤ 100000) : wpC EM (.fn (.func 9) [] []) [v, v'] S fun r S' => r = B true ∧ Grows S S' := by
  rw [lvs_scs] at hv hv'
  exact sameS_ok (t := 60) (d := 2) (ks := ksL) rfl rfl hv hv' (by rw [List.length_map]; omega) rfl rfl flatL4 (by omega) strL grdL (fun vs hvs => by obtain ⟨x, _, rfl⟩ := List.mem_map.1 hvs; rfl)
theorem overL_ok {S : AH} {v : AV} {L : List (List AV)} (h : slW S v 4 L) (hid : ∀ id ∈ vids v, id < S.next) (hl : L.length < 4611686018427387904) : wpC EM (.fn (.func 13) [] []) [v] S fun _ S' => Turned S v 4 L.length S' :=
  over_ok (es := 4) (mk := fun k => .op (.build [I 0, I 0, I 0, U 0] [(0, 1, I (-77))]) k) (y := .agg [I (-77), I 0, I 0, U 0]) rfl rfl (fun h => wp_op (by rfl) h) rfl rfl h hid hl
theorem modelShould_ok {S : AH} {v : AV} {l : List Lv} {cores : Int} (hv : RoSl S v 4 (lvs l)) : wpC EM (.fn (.func 3) [] []) [v, I cores] S fun u _ => u = B true := by
  refine wpC_fn (b := Try.a3) rfl rfl ?_
  have H : Cx S [] S [] [.sl v 4 (lvs l)] := Cx.ro1 hv
  unfold Try.a3 Try.a3x2 Try.a3x1 Try.a3x0
  have aw : ∀ S, wp EM (.call (.fn (.func 6) [] []) [] fun v7 => .ret .ret [v7]) S fun t vs S' => t = .ret ∧ oneOf vs = B true := fun S => wp_call (wpC_kn (v := B true) rfl (wp_ret ⟨rfl, rfl⟩))
  refine wp_len H (by repeat (first | exact List.Mem.head _ | apply List.Mem.tail)) ?_
  rw [lvs_len]
  refine wp_gtr (fun hbig => ?_) (fun hsm => ?_)
  · repeat (first|refine zA ?_|refine zB rfl ?_|refine zC ?_|refine zD ?_|refine zE rfl ?_|refine zF ?_|refine zG ?_|refine zH ?_|refine zI ?_|refine zJ ?_|refine zK ?_|refine zL rfl ?_|refine zN rfl ?_)
    exact aw S
  have hl : l.length ≤ 60 := by omega
  repeat (first|refine zA ?_|refine zB rfl ?_|refine zC ?_|refine zD ?_|refine zE rfl ?_|refine zF ?_|refine zG ?_|refine zH ?_|refine zI ?_|refine zJ ?_|refine zK ?_|refine zL rfl ?_|refine zN rfl ?_)
  refine wp_callN H (copyL_ok (l := l) (H.roSl (by repeat (first | exact List.Mem.head _ | apply List.Mem.tail))) (by omega)) fun c S1 H => ?_
  refine wp_call (wpC_mono (should_ok (l := l) (cores := cores) (H.ownSl (n := 0) rfl) (by omega)) fun a S2 q => ?_)
  obtain ⟨m, k1, k2, K⟩ := q
  have H : Cx S [] S2 [.sl a 4 (lvs (m.take (many cores l.length))), .sl c 4 (lvs l)] [.sl v 4 (lvs l)] := H.addC K
  refine wp_call (wpC_mono (rshould_ok (l := l) (cores := cores) (H.roSl (by repeat (first | exact List.Mem.head _ | apply List.Mem.tail))) (by omega)) fun b S3 q => ?_)
  obtain ⟨m2, k3, k4, K2⟩ := q
  obtain rfl : m2 = m := k3.uniq k1
  have hml : (m2.take (many cores l.length)).length ≤ 100000 := by rw [List.length_take]; omega
  have H : Cx S [] S3 [.sl b 4 (lvs (m2.take (many cores l.length))), .sl a 4 (lvs (m2.take (many cores l.length))), .sl c 4 (lvs l)] [.sl v 4 (lvs l)] := H.addC K2
  refine wp_callV H (sameL_ok (H.ownSl (n := 1) rfl) (H.ownSl (n := 0) rfl) hml) fun S4 H => ?_
  repeat (first|refine zA ?_|refine zB rfl ?_|refine zC ?_|refine zD ?_|refine zE rfl ?_|refine zF ?_|refine zG ?_|refine zH ?_|refine zI ?_|refine zJ ?_|refine zK ?_|refine zL rfl ?_|refine zN rfl ?_)
  refine wp_callG H (right_ok (l := l) (cores := cores) (H.ownSl (n := 2) rfl) (by omega)) fun r1 S5 hr1 H => ?_
  repeat (first|refine zA ?_|refine zB rfl ?_|refine zC ?_|refine zD ?_|refine zE rfl ?_|refine zF ?_|refine zG ?_|refine zH ?_|refine zI ?_|refine zJ ?_|refine zK ?_|refine zL rfl ?_|refine zN rfl ?_)
  refine wp_callG H (rright_ok (l := l) (cores := cores) (H.roSl (by repeat (first | exact List.Mem.head _ | apply List.Mem.tail))) (by omega)) fun r2 S6 hr2 H => ?_
  obtain ⟨m3, b1, j1, j2, rfl, j3⟩ := hr1
  obtain ⟨m4, b2, i1, i2, rfl, i3⟩ := hr2
  obtain rfl : m4 = m3 := i1.uniq j1
  obtain rfl : b2 = b1 := by
    cases b1 with
    | true => exact i3.2 (j3.1 rfl)
    | false => cases b2 with
      | false => rfl
      | true => exact absurd (j3.2 (i3.1 rfl)) (by simp)
  repeat (first|refine zA ?_|refine zB rfl ?_|refine zC ?_|refine zD ?_|refine zE rfl ?_|refine zF ?_|refine zG ?_|refine zH ?_|refine zI ?_|refine zJ ?_|refine zK ?_|refine zL rfl ?_|refine zN rfl ?_)
  refine wp_op (e_eqb undB) ?_
  have e : (if false = true then !(b2 == b2) else (b2 == b2)) = true := by simp
  rw [e]
  repeat (first|refine zA ?_|refine zB rfl ?_|refine zC ?_|refine zD ?_|refine zE rfl ?_|refine zF ?_|refine zG ?_|refine zH ?_|refine zI ?_|refine zJ ?_|refine zK ?_|refine zL rfl ?_|refine zN rfl ?_)
  refine wp_callT H 1 rfl (overL_ok (H.oh _ (List.mem_of_getElem? (i := 1) rfl)) (fun id hid => (H.oi _ (List.mem_of_getElem? (i := 1) rfl) id hid).1) (by rw [lvs_len]; omega)) fun u S7 L' H => ?_
  have H : Cx S [] S7 [.sl b 4 (lvs (m2.take (many cores l.length))), .sl a 4 L', .sl c 4 (lvs l)] [.sl v 4 (lvs l)] := H
  repeat (first|refine zA ?_|refine zB rfl ?_|refine zC ?_|refine zD ?_|refine zE rfl ?_|refine zF ?_|refine zG ?_|refine zH ?_|refine zI ?_|refine zJ ?_|refine zK ?_|refine zL rfl ?_|refine zN rfl ?_)
  refine wp_callV H (sameL_ok (H.ownSl (n := 2) rfl) (H.roSl (by repeat (first | exact List.Mem.head _ | apply List.Mem.tail))) (by omega)) fun S8 H => ?_
  repeat (first|refine zA ?_|refine zB rfl ?_|refine zC ?_|refine zD ?_|refine zE rfl ?_|refine zF ?_|refine zG ?_|refine zH ?_|refine zI ?_|refine zJ ?_|refine zK ?_|refine zL rfl ?_|refine zN rfl ?_)
  refine wp_call (wpC_kn (v := B true) rfl ?_)
  repeat (first|refine zA ?_|refine zB rfl ?_|refine zC ?_|refine zD ?_|refine zE rfl ?_|refine zF ?_|refine zG ?_|refine zH ?_|refine zI ?_|refine zJ ?_|refine zK ?_|refine zL rfl ?_|refine zN rfl ?_)
  exact wp_ret ⟨rfl, rfl⟩
end Go.Abs
