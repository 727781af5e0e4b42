/- functions of this cut: what they compute, in the abstract machine. Conditions: stated in each theorem -/
import Derived.Test.YtdidccjcbfcklaaGreatAc
import Derived.Test.YtdidccjcbfcklaaGreatAd
import Derived.Test.YtdidccjcbfcklaaGreatT
set_option linter.unusedVariables false
set_option linter.unusedSectionVars false
set_option linter.unusedSimpArgs false
namespace Go.Abs
section
variable {M : Mach} {S : AH} {Q : Post} {k : AV → AC}
theorem zA {g : Bool} {o : AOp} (h : wp M (.op o k) S Q) : wp M (.gop (B g) g o k) S Q := wp_gop_t h
theorem zB {g g' : Bool} {o : AOp} (hg : g' = !g) (h : wp M (k uv) S Q) : wp M (.gop (B g) g' o k) S Q := wp_gop_f hg h
theorem zC {g' : Bool} {o : AOp} (h : wp M (k uv) S Q) : wp M (.gop uv g' o k) S Q := wp_gop_u h
theorem zD {g : Bool} {f : AV} {args : List AV} (h : wp M (.call f args k) S Q) : wp M (.gcall (B g) g f args k) S Q := wp_gcall_t h
theorem zE {g g' : Bool} {f : AV} {args : List AV} (hg : g' = !g) (h : wp M (k uv) S Q) : wp M (.gcall (B g) g' f args k) S Q := wp_gcall_f hg h
theorem zF {g' : Bool} {f : AV} {args : List AV} (h : wp M (k uv) S Q) : wp M (.gcall uv g' f args k) S Q := wp_gcall_u h
theorem zG {x y : AC} (h : wp M x S Q) : wp M (.ite (B true) x y) S Q := wp_ite_t h
theorem zH {x y : AC} (h : wp M y S Q) : wp M (.ite (B false) x y) S Q := wp_ite_f h
theorem zI {id off f : Nat} (h : wp M (k (.ptr id (Nat.add off f))) S Q) : wp M (.op (.faddr f (.ptr id off)) k) S Q := wp_faddr h
theorem zJ {id off : Nat} (h : wp M (k (.ptr id off)) S Q) : wp M (.op (.nilchk (.ptr id off)) k) S Q := wp_nilchk h
theorem zK {x : AV} (h : wp M (k x) S Q) : wp M (.op (.mv x) k) S Q := wp_op rfl h
theorem zL {c a b v : AV} (he : pPick c a b = some v) (h : wp M (k v) S Q) : wp M (.op (.pick c a b) k) S Q := wp_op (by show pur (pPick c a b) S = _; rw [he]; rfl) h
theorem zN {i : Nat} {x v : AV} (he : pExtract i x = some v) (h : wp M (k v) S Q) : wp M (.op (.extract i x) k) S Q := wp_op (by show pur (pExtract i x) S = _; rw [he]; rfl) h
end
end Go.Abs
namespace Go.Abs
inductive Zz (M : Mach) : AC → AH → Post → Prop
  | a {g : Bool} {o : AOp} {k : AV → AC} {S : AH} {Q : Post} (h : Zz M (.op o k) S Q) : Zz M (.gop (B g) g o k) S Q
  | b {g : Bool} {o : AOp} {k : AV → AC} {S : AH} {Q : Post} (h : Zz M (k uv) S Q) : Zz M (.gop (B g) (!g) o k) S Q
  | c {g : Bool} {o : AOp} {k : AV → AC} {S : AH} {Q : Post} (h : Zz M (k uv) S Q) : Zz M (.gop uv g o k) S Q
  | d {g : Bool} {f : AV} {l : List AV} {k : AV → AC} {S : AH} {Q : Post} (h : Zz M (.call f l k) S Q) : Zz M (.gcall (B g) g f l k) S Q
  | e {g : Bool} {f : AV} {l : List AV} {k : AV → AC} {S : AH} {Q : Post} (h : Zz M (k uv) S Q) : Zz M (.gcall (B g) (!g) f l k) S Q
  | f {g : Bool} {f : AV} {l : List AV} {k : AV → AC} {S : AH} {Q : Post} (h : Zz M (k uv) S Q) : Zz M (.gcall uv g f l k) S Q
  | g {x y : AC} {S : AH} {Q : Post} (h : Zz M x S Q) : Zz M (.ite (B true) x y) S Q
  | h {x y : AC} {S : AH} {Q : Post} (h : Zz M y S Q) : Zz M (.ite (B false) x y) S Q
  | i {n o f : Nat} {k : AV → AC} {S : AH} {Q : Post} (h : Zz M (k (.ptr n (Nat.add o f))) S Q) : Zz M (.op (.faddr f (.ptr n o)) k) S Q
  | j {n o : Nat} {k : AV → AC} {S : AH} {Q : Post} (h : Zz M (k (.ptr n o)) S Q) : Zz M (.op (.nilchk (.ptr n o)) k) S Q
  | k {x : AV} {k : AV → AC} {S : AH} {Q : Post} (h : Zz M (k x) S Q) : Zz M (.op (.mv x) k) S Q
  | l {x y : AV} {k : AV → AC} {S : AH} {Q : Post} (h : Zz M (k x) S Q) : Zz M (.op (.pick (B true) x y) k) S Q
  | m {x y : AV} {k : AV → AC} {S : AH} {Q : Post} (h : Zz M (k y) S Q) : Zz M (.op (.pick (B false) x y) k) S Q
  | n {x : AV} {l : List AV} {k : AV → AC} {S : AH} {Q : Post} (h : Zz M (k x) S Q) : Zz M (.op (.extract 0 (.tup (x :: l))) k) S Q
  | o {x y : AV} {l : List AV} {k : AV → AC} {S : AH} {Q : Post} (h : Zz M (k y) S Q) : Zz M (.op (.extract 1 (.tup (x :: y :: l))) k) S Q
  | p {x y z : AV} {l : List AV} {k : AV → AC} {S : AH} {Q : Post} (h : Zz M (k z) S Q) : Zz M (.op (.extract 2 (.tup (x :: y :: z :: l))) k) S Q
  | z {x : AC} {S : AH} {Q : Post} (h : True → wp M x S Q) : Zz M x S Q
theorem zz {M : Mach} {x : AC} {S : AH} {Q : Post} (h : Zz M x S Q) : wp M x S Q := by
  induction h with
  | a h ih => exact wp_gop_t ih
  | b h ih => exact wp_gop_f rfl ih
  | c h ih => exact wp_gop_u ih
  | d h ih => exact wp_gcall_t ih
  | e h ih => exact wp_gcall_f rfl ih
  | f h ih => exact wp_gcall_u ih
  | g h ih => exact wp_ite_t ih
  | h h ih => exact wp_ite_f ih
  | i h ih => exact wp_faddr ih
  | j h ih => exact wp_nilchk ih
  | k h ih => exact wp_op rfl ih
  | l h ih => exact wp_op rfl ih
  | m h ih => exact wp_op rfl ih
  | n h ih => exact wp_op rfl ih
  | o h ih => exact wp_op rfl ih
  | p h ih => exact wp_op rfl ih
  | z h => exact h trivial
end Go.Abs
namespace Go.Abs
set_option linter.unusedVariables false
/-! ### where a timer stands in a wheel: plain numbers -/
def lev (now a : Nat) : Nat := if a ^^^ now = 0 then 0 else Nat.log2 (a ^^^ now) / 4
def slo (now a : Nat) : Nat := a / 16 ^ lev now a % 16
theorem shr_xor_eq {a n k : Nat} : (a ^^^ n) / 2 ^ k = 0 ↔ a / 2 ^ k = n / 2 ^ k := by
  rw [← Nat.shiftRight_eq_div_pow, ← Nat.shiftRight_eq_div_pow, ← Nat.shiftRight_eq_div_pow, Nat.shiftRight_xor_distrib]
  constructor
  · intro h
    exact Nat.eq_of_testBit_eq fun i => by
      have := congrArg (fun x => Nat.testBit x i) h
      simp only [Nat.testBit_xor, Nat.zero_testBit] at this
      revert this
      cases Nat.testBit (a >>> k) i <;> cases Nat.testBit (n >>> k) i <;> simp
  · intro h; rw [h, Nat.xor_self]
theorem pow16 (l : Nat) : 16 ^ l = 2 ^ (4 * l) := by rw [show 16 = 2 ^ 4 from rfl, ← Nat.pow_mul]
theorem lev_hi (now a : Nat) : a / 16 ^ (lev now a + 1) = now / 16 ^ (lev now a + 1) := by
  rw [pow16]
  refine shr_xor_eq.1 ?_
  unfold lev
  by_cases h : a ^^^ now = 0
  · rw [h]; simp
  · rw [if_neg h]
    refine Nat.div_eq_of_lt ?_
    have := Nat.lt_log2_self (n := a ^^^ now)
    exact Nat.lt_of_lt_of_le this (Nat.pow_le_pow_right (by omega) (by omega))
theorem lev_lo {now a : Nat} (h : 0 < lev now a) : a / 16 ^ lev now a ≠ now / 16 ^ lev now a := by
  intro e
  rw [pow16] at e
  have := shr_xor_eq.2 e
  unfold lev at h this
  by_cases h0 : a ^^^ now = 0
  · rw [if_pos h0] at h; omega
  · rw [if_neg h0] at h this
    have h1 := Nat.log2_self_le h0
    have h2 : 2 ^ (4 * (Nat.log2 (a ^^^ now) / 4)) ≤ a ^^^ now := Nat.le_trans (Nat.pow_le_pow_right (by omega) (by omega)) h1
    have := Nat.div_eq_zero_iff.1 this
    have h3 : 0 < 2 ^ (4 * (Nat.log2 (a ^^^ now) / 4)) := Nat.two_pow_pos _
    omega
theorem lev_gt {now a : Nat} (hle : now ≤ a) (h : 0 < lev now a) : now / 16 ^ lev now a < a / 16 ^ lev now a := by
  have := Nat.div_le_div_right (c := 16 ^ lev now a) hle
  have := lev_lo h
  omega
theorem div_pow_mono {a n i j : Nat} (hij : i ≤ j) (h : a / 16 ^ i = n / 16 ^ i) : a / 16 ^ j = n / 16 ^ j := by
  obtain ⟨d, rfl⟩ := Nat.exists_eq_add_of_le hij
  rw [Nat.pow_add, ← Nat.div_div_eq_div_mul, ← Nat.div_div_eq_div_mul, h]
theorem lev_lt {now a b : Nat} (ha : now ≤ a) (hb : now ≤ b) (h : lev now a < lev now b) : a < b := by
  have h1 := div_pow_mono (show lev now a + 1 ≤ lev now b by omega) (lev_hi now a)
  have h2 := lev_gt hb (by omega)
  rw [← h1] at h2
  exact Nat.lt_of_not_le fun hle => by have := Nat.div_le_div_right (c := 16 ^ lev now b) hle; omega
theorem slo_lt {now a b : Nat} (h : lev now a = lev now b) (hs : slo now a < slo now b) : a < b := by
  have ha := lev_hi now a
  have hb := lev_hi now b
  unfold slo at hs
  rw [h] at ha hs
  generalize lev now b = l at ha hb hs
  have e1 : a / 16 ^ l / 16 = b / 16 ^ l / 16 := by
    rw [Nat.div_div_eq_div_mul, Nat.div_div_eq_div_mul, ← Nat.pow_succ, ha, hb]
  have : a / 16 ^ l < b / 16 ^ l := by omega
  exact Nat.lt_of_not_le fun hle => by have := Nat.div_le_div_right (c := 16 ^ l) hle; omega
theorem lev_le {now a : Nat} (hn : now < 16 ^ 11) (ha : a < 16 ^ 11) : lev now a ≤ 10 := by
  unfold lev
  by_cases h : a ^^^ now = 0
  · rw [if_pos h]; omega
  · rw [if_neg h]
    have h1 : a ^^^ now < 2 ^ 44 := Nat.xor_lt_two_pow (by simpa using ha) (by simpa using hn)
    have := (Nat.log2_lt h).2 h1
    omega
theorem slo_lt16 (now a : Nat) : slo now a < 16 := Nat.mod_lt _ (by omega)
def spt (now a : Nat) : Nat := lev now a * 16 + slo now a
theorem spt_lt {now a : Nat} (hn : now < 16 ^ 11) (ha : a < 16 ^ 11) : spt now a < 176 := by
  have := lev_le hn ha
  have := slo_lt16 now a
  unfold spt; omega
theorem spt_mono {now a b : Nat} (ha : now ≤ a) (hb : now ≤ b) (h : spt now a < spt now b) : a < b := by
  have := slo_lt16 now a
  have := slo_lt16 now b
  unfold spt at h
  by_cases h1 : lev now a < lev now b
  · exact lev_lt ha hb h1
  · exact slo_lt (now := now) (by omega) (by omega)
/-! ### digits -/
end Go.Abs
namespace Go.Abs
set_option linter.unusedVariables false
section
variable {M : Mach} {B0 S : AH} {W : List Nat} {own : List Own} {ro : List Fct} {Q : Post} {k : AV → AC}

/-! ### one's own things in another order -/
theorem Cx.perm (H : Cx B0 W S own ro) {own' : List Own} (h : own.Perm own') : Cx B0 W S own' ro where
  next := H.next
  old := H.old
  oh := fun x hx => H.oh x (h.mem_iff.2 hx)
  oi := fun x hx => H.oi x (h.mem_iff.2 hx)
  od := (h.pairwise_iff (fun {x y} hxy id hy hx => hxy id hx hy)).1 H.od
  rh := H.rh
  ri := fun φ hφ id hid => ⟨(H.ri φ hφ id hid).1, fun x hx => (H.ri φ hφ id hid).2 x (h.mem_iff.2 hx)⟩

/-! ### functions that are known without a body -/
theorem wpC_x {f : FuncId} {args : List AV} {g : List AV → AH → Option (AV × AH)} {v : AV} {S' : AH} {Q : AV → AH → Prop} (hk : M.kn.v f args = none) (ht : M.tbl f = none) (hx : M.kn.x f = some g) (h : g args S = some (v, S')) (hq : Q v S') :
    wpC M (.fn (.func f) [] []) args S Q := by
  refine ⟨v, S', ⟨1, fun n hn => ?_⟩, hq⟩
  obtain ⟨n, rfl⟩ : ∃ j, n = j + 1 := ⟨n - 1, by omega⟩
  have e : args ++ [] = args := List.append_nil _
  simp only [callT, appL_eq, List.nil_append, e, hk, ht, hx, h]

theorem take_flat : ∀ {L : List (List AV)} {es : Nat}, (∀ x ∈ L, x.length = es) → ∀ i, L.flatten.take (i * es) = (L.take i).flatten
  | [], es, _, i => by simp
  | y :: L, es, h, 0 => by simp
  | y :: L, es, h, i + 1 => by
    have hy := h y (by simp)
    have ih := take_flat (L := L) (fun z hz => h z (by simp [hz])) i
    simp only [List.flatten_cons, List.take_succ_cons]
    rw [List.take_append, ← ih, List.take_of_length_le (by rw [hy, Nat.succ_mul]; omega)]
    congr 2
    rw [hy, Nat.succ_mul]; omega
theorem drop_flat : ∀ {L : List (List AV)} {es : Nat}, (∀ x ∈ L, x.length = es) → ∀ i, L.flatten.drop (i * es) = (L.drop i).flatten
  | [], es, _, i => by simp
  | y :: L, es, h, 0 => by simp
  | y :: L, es, h, i + 1 => by
    have hy := h y (by simp)
    have ih := drop_flat (L := L) (fun z hz => h z (by simp [hz])) i
    simp only [List.flatten_cons, List.drop_succ_cons]
    rw [List.drop_append, ← ih, List.drop_eq_nil_of_le (by rw [hy, Nat.succ_mul]; omega), List.nil_append]
    congr 1
    rw [hy, Nat.succ_mul]; omega

theorem wp_insert (H : Cx B0 W S own ro) (n : Nat) {f : FuncId} {v x : AV} {es bytes i : Nat} {z : List AV} {L : List (List AV)} (hm : own[n]? = some (.sl v es L)) (hi : i ≤ L.length) (ho : odd x = false) (hx : x.cells.length = es) (hz : z.length = es)
    (hb : (L.length + 1) * bytes ≤ maxBytes) (hl : L.length + 1 ≤ maxLenN)
    (hk : ∀ a, M.kn.v f a = none) (ht : M.tbl f = none) (hxf : M.kn.x f = some (insK es bytes))
    (h : ∀ v1 S1, Cx B0 W S1 (own.set n (.sl v1 es (L.take i ++ x.cells :: L.drop i))) ro → wp M (k v1) S1 Q) :
    wp M (.op (.bslice es 1 z [(0, es, x)]) fun t => .call (.fn (.func f) [] []) [v, I (i : Int), t] k) S Q := by
  refine wp_op (v := .sl S.next 0 1 1) (S1 := S.new (.row x.cells)) ?_ ?_
  · show nBslice es 1 z [(0, es, x)] S = _
    unfold nBslice
    have e0 : repZero z 1 = z := by simp [repZero, appL_eq]
    have e1 : (not (odd x) && Nat.beq (lenL x.cells) es && Nat.ble (Nat.add 0 es) (lenL z)) = true := by
      rw [lenL_eq, lenL_eq, hx, hz, Nat.beq_refl, ho]
      have : Nat.ble (Nat.add 0 es) es = true := ble_t (by show 0 + es ≤ es; omega)
      rw [this]; rfl
    have e2 : setRange z 0 x.cells = x.cells := by rw [setRange_eq]; simp; omega
    have e3 : (Nat.beq (lenL x.cells) (Nat.mul 1 es) && Nat.beq (lenL z) es) = true := by
      rw [lenL_eq, lenL_eq, hx, hz, Nat.beq_refl]
      have : Nat.mul 1 es = es := Nat.one_mul es
      rw [this, Nat.beq_refl]; rfl
    rw [e0]
    simp only [fillP, e1, e2, e3]
    rfl
  · have K := H.grow (Grows.new S (.row x.cells))
    have hg0 : (S.new (.row x.cells)).get S.next = some (.row x.cells) := get_new_same _ _
    have hlt := fun id hid => (H.oi _ (List.mem_of_getElem? hm) id hid).1
    have q1 : (Nat.ble 1 1 && Nat.ble (0 + 1 * es) (lenL x.cells)) = true := by
      rw [lenL_eq, hx, ble_t (by omega : 0 + 1 * es ≤ es)]; rfl
    have q2 : takeL (1 * es) (dropL 0 x.cells) = x.cells := by rw [takeL_eq, dropL_eq, List.drop_zero, Nat.one_mul, List.take_of_length_le (by omega)]
    have hin : insK es bytes [v, I (i : Int), .sl S.next 0 1 1] (S.new (.row x.cells)) = insTo es bytes v i S.next 1 x.cells (S.new (.row x.cells)) := by
      show (match (S.new (.row x.cells)).get S.next with | some (.row vc) => (match Nat.ble 1 1 && Nat.ble (0 + 1 * es) (lenL vc) with | true => insTo es bytes v i S.next 1 (takeL (1 * es) (dropL 0 vc)) (S.new (.row x.cells)) | false => none) | _ => none) = _
      rw [hg0]
      simp only [q1, q2]
    have hw : slW (S.new (.row x.cells)) v es L := K.oh _ (List.mem_of_getElem? hm)
    rcases hw with ⟨rfl, rfl⟩ | ⟨id, off, c, h0, h1, h2, h3⟩
    · have i0 : i = 0 := by simpa using hi
      subst i0
      refine wp_call (wpC_x (hk _) ht hxf (v := .op ((S.new (.row x.cells)).next) 0 1 1 es) (S' := (S.new (.row x.cells)).new (.row x.cells)) ?_ ?_)
      · rw [hin]
        have g1 : (Nat.beq 0 0 && (Nat.ble (1 * bytes) maxBytes && Nat.ble 1 maxLenN)) = true := by
          rw [ble_t (by simpa using hb), ble_t (by simpa using hl)]; rfl
        show (match Nat.beq 0 0 && (Nat.ble (1 * bytes) maxBytes && Nat.ble 1 maxLenN) with | true => _ | false => _) = _
        rw [g1]
      · refine h _ _ (K.step hm (S1 := (S.new (.row x.cells)).new (.row x.cells)) (x' := .sl (.op (S.new (.row x.cells)).next 0 1 1 es) es ([].take 0 ++ x.cells :: [].drop 0)) (by simp [AH.new]) (fun id hid _ => by rw [AH.get_new, if_neg (by omega)]) ?_ ?_)
        · refine .inr ⟨_, 0, x.cells, .inr ⟨1, by simp, by omega, by simp⟩, get_new_same _ _, by simp [← hx], by simp [hx]⟩
        · intro id hid
          simp only [Own.ids, vids, List.mem_singleton] at hid
          subst hid
          exact ⟨by simp [AH.new], .inr (Nat.le_refl _)⟩
    · have hidv : id ∈ vids v := by rw [h0.ids]; simp
      have hne : id ≠ S.next := by have := hlt id hidv; omega
      have hfl := flatten_length h3
      have hbeq : Nat.beq id S.next = false := by
        cases hq : Nat.beq id S.next with
        | true => exact absurd (Nat.eq_of_beq_eq_true hq) hne
        | false => rfl
      have main : ∀ cap, L.length ≤ cap → off + cap * es ≤ c.length → insRow es bytes id off L.length cap i S.next 1 x.cells (S.new (.row x.cells)) =
          some (.op (S.new (.row x.cells)).next 0 (L.length + 1) (L.length + 1) es, ((S.new (.row x.cells)).kill id).new (.row (L.take i ++ x.cells :: L.drop i).flatten)) := by
        intro cap hc1 hc2
        unfold insRow
        rw [h1]
        have g1 : (not (Nat.beq id S.next) && (Nat.ble (off + cap * es) (lenL c) && (Nat.ble L.length cap && (Nat.ble i L.length && (Nat.ble ((L.length + 1) * bytes) maxBytes && Nat.ble (L.length + 1) maxLenN))))) = true := by
          rw [hbeq, lenL_eq, ble_t hc2, ble_t hc1, ble_t hi, ble_t hb, ble_t hl]; rfl
        have hle : L.length * es ≤ cap * es := Nat.mul_le_mul_right es hc1
        have hie : i * es ≤ L.length * es := Nat.mul_le_mul_right es hi
        have e1 : (c.drop off).take (i * es) = (L.take i).flatten := by
          rw [← take_flat h3, ← h2, List.take_take, Nat.min_eq_left hie]
        have e2 : (c.drop (off + i * es)).take ((L.length - i) * es) = (L.drop i).flatten := by
          rw [← drop_flat h3, ← h2, List.drop_take, List.drop_drop, Nat.sub_mul]
        simp only [g1, appL_eq, takeL_eq, dropL_eq, e1, e2, List.flatten_append, List.flatten_cons]
      have hres : insTo es bytes v i S.next 1 x.cells (S.new (.row x.cells)) = some (.op (S.new (.row x.cells)).next 0 (L.length + 1) (L.length + 1) es, ((S.new (.row x.cells)).kill id).new (.row (L.take i ++ x.cells :: L.drop i).flatten)) := by
        rcases h0 with ⟨cap, q1, q2, rfl⟩ | ⟨cap, q1, q2, rfl⟩
        · exact main cap q1 q2
        · show (match Nat.beq es es with | true => _ | false => _) = _
          rw [Nat.beq_refl]
          exact main cap q1 q2
      refine wp_call (wpC_x (hk _) ht hxf (hin.trans hres) ?_)
      have hnx : ((S.new (.row x.cells)).kill id).next = (S.new (.row x.cells)).next := rfl
      have hL2 : (L.take i ++ x.cells :: L.drop i).length = L.length + 1 := by simp; omega
      have hall : ∀ y ∈ L.take i ++ x.cells :: L.drop i, y.length = es := by
        intro y hy
        rcases List.mem_append.1 hy with hy | hy
        · exact h3 y (List.mem_of_mem_take hy)
        · rcases List.mem_cons.1 hy with rfl | hy
          · exact hx
          · exact h3 y (List.mem_of_mem_drop hy)
      refine h _ _ (K.step hm (x' := .sl (.op (S.new (.row x.cells)).next 0 (L.length + 1) (L.length + 1) es) es (L.take i ++ x.cells :: L.drop i)) ?_ ?_ ?_ ?_)
      · simp [AH.new, AH.kill]
      · intro j hj hnj
        rw [AH.get_new, hnx, if_neg (by omega), AH.get_kill, if_neg ?_]
        simpa [Own.ids, h0.ids] using hnj
      · refine .inr ⟨_, 0, (L.take i ++ x.cells :: L.drop i).flatten, .inr ⟨L.length + 1, by omega, by rw [flatten_length hall, hL2]; omega, by rw [hL2]⟩, ?_, ?_, hall⟩
        · have := get_new_same ((S.new (.row x.cells)).kill id) (.row (L.take i ++ x.cells :: L.drop i).flatten)
          exact this
        · rw [List.drop_zero, List.take_of_length_le (by rw [flatten_length hall]; omega)]
      · intro j hj
        simp only [Own.ids, vids, List.mem_singleton] at hj
        subst hj
        exact ⟨by simp [AH.new, AH.kill], .inr (Nat.le_refl _)⟩
end
end Go.Abs
namespace Go.Abs
set_option linter.unusedVariables false
/-! ### maps: an entry is taken out -/
def mdel : List (Int × AV) → Int → List (Int × AV)
  | [], _ => []
  | (k', v') :: r, k => if k' = k then r else (k', v') :: mdel r k
theorem mget_none {m : List (Int × AV)} {k : Int} (h : k ∉ m.map (·.1)) : mget m k = none := by
  induction m with
  | nil => rfl
  | cons p r ih =>
    obtain ⟨a, b⟩ := p
    simp only [List.map_cons, List.mem_cons, not_or] at h
    unfold mget
    rw [if_neg (fun e => h.1 e.symm)]
    exact ih h.2
theorem mget_mdel {m : List (Int × AV)} (hn : (m.map (·.1)).Nodup) (k k' : Int) : mget (mdel m k) k' = if k = k' then none else mget m k' := by
  induction m with
  | nil => simp [mdel, mget]
  | cons p r ih =>
    obtain ⟨a, b⟩ := p
    simp only [List.map_cons, List.nodup_cons] at hn
    unfold mdel
    by_cases h : a = k
    · rw [if_pos h]
      subst h
      by_cases h2 : a = k'
      · subst h2; rw [if_pos rfl]; exact mget_none hn.1
      · rw [if_neg h2]; simp [mget, h2]
    · rw [if_neg h]
      simp only [mget]
      rw [ih hn.2]
      by_cases h2 : a = k'
      · subst h2
        rw [if_pos rfl, if_neg (fun e => h e.symm), if_pos rfl]
      · rw [if_neg h2, if_neg h2]
theorem mdel_sub (m : List (Int × AV)) (k : Int) : (mdel m k).Sublist m := by
  induction m with
  | nil => exact .slnil
  | cons p r ih =>
    unfold mdel
    split
    · exact List.sublist_cons_self _ _
    · exact ih.cons_cons _
theorem mdel_nodup {m : List (Int × AV)} (hn : (m.map (·.1)).Nodup) (k : Int) : ((mdel m k).map (·.1)).Nodup := hn.sublist ((mdel_sub m k).map _)
theorem mset_keys (m : List (Int × AV)) (k : Int) (v : AV) : (mset m k v).map (·.1) = if k ∈ m.map (·.1) then m.map (·.1) else m.map (·.1) ++ [k] := by
  induction m with
  | nil => simp [mset]
  | cons p r ih =>
    obtain ⟨a, b⟩ := p
    unfold mset
    by_cases h : a = k
    · subst h; simp
    · rw [if_neg h]
      simp only [List.map_cons, ih, List.mem_cons]
      by_cases h2 : k ∈ r.map (·.1)
      · rw [if_pos h2, if_pos (.inr h2)]
      · rw [if_neg h2, if_neg (by rintro (e | e); exact h e.symm; exact h2 e)]; rfl
theorem mset_nodup {m : List (Int × AV)} (hn : (m.map (·.1)).Nodup) (k : Int) (v : AV) : ((mset m k v).map (·.1)).Nodup := by
  rw [mset_keys]
  split
  · exact hn
  · next h => exact List.nodup_append.2 ⟨hn, by simp, fun a ha b hb => by simp at hb; subst hb; exact fun e => h (e ▸ ha)⟩
theorem mfind_del (key : Int) : ∀ (m : List (Int × AV)) (i : Nat), match mfind m key i with
    | some (j, _) => i ≤ j ∧ (ment m).eraseIdx (j - i) = ment (mdel m key)
    | none => mdel m key = m
  | [], i => by simp [mfind, mdel]
  | (a, u) :: r, i => by
    have ih := mfind_del key r (i + 1)
    unfold mfind mdel
    by_cases h : a = key
    · simp [h, ment]
    · simp only [h, if_false]
      cases hf : mfind r key (i + 1) with
      | none => rw [hf] at ih; simp only at ih ⊢; rw [ih]
      | some q =>
        obtain ⟨j, w⟩ := q
        rw [hf] at ih
        simp only at ih ⊢
        obtain ⟨h1, h2⟩ := ih
        have e : j - i = (j - (i + 1)) + 1 := by omega
        rw [e]
        refine ⟨by omega, ?_⟩
        simp only [ment, List.map_cons, List.eraseIdx_cons_succ] at h2 ⊢
        rw [h2]
theorem list_set_self {α : Type} {l : List α} {n : Nat} {x : α} (h : l[n]? = some x) : l.set n x = l := by
  apply List.ext_getElem?
  intro j
  rw [List.getElem?_set]
  split
  · next e =>
    subst e
    obtain ⟨h1, h2⟩ := List.getElem?_eq_some_iff.1 h
    rw [if_pos h1, h]
  · rfl
section
variable {M : Mach} {B0 S : AH} {W : List Nat} {own : List Own} {ro : List Fct} {Q : Post} {k : AV → AC}
theorem wp_mapdel (H : Cx B0 W S own ro) (n : Nat) {kt : TypeId} (hk : M.P.underlying kt = some (.int .i64)) {id : Nat} {m : List (Int × AV)} {key : Int} (hm : own[n]? = some (.obj id (.map (ment m))))
    (h : ∀ S1, Cx B0 W S1 (own.set n (.obj id (.map (ment (mdel m key))))) ro → wp M (k uv) S1 Q) : wp M (.op (.mapdel kt (.map id) (I key)) k) S Q := by
  have hg : S.get id = some (.map (ment m)) := H.oh _ (List.mem_of_getElem? hm)
  have hs := mfind_del key m 0
  have h1 : toV (I key) = some (.int .i64 key) := by simp [toV]
  cases hf : mfind m key 0 with
  | none =>
    rw [hf] at hs
    simp only at hs
    refine wp_op (v := uv) (S1 := S) ?_ (h S ?_)
    · show eMapdel M.P kt (.map id) (I key) S = _
      unfold eMapdel
      rw [h1]
      simp only [hg, keyOk_int hk, if_true, findE_int hk, hf]
    · rw [hs, list_set_self hm]; exact H
  | some q =>
    rw [hf] at hs
    obtain ⟨j, w⟩ := q
    simp only [Nat.sub_zero] at hs
    refine wp_op (v := uv) (S1 := S.set id (.map (ment (mdel m key)))) ?_ (h _ (H.step hm (Nat.le_refl _) ?_ ?_ ?_))
    · show eMapdel M.P kt (.map id) (I key) S = _
      unfold eMapdel
      rw [h1]
      simp only [hg, keyOk_int hk, if_true, findE_int hk, hf, hs.2]
    · intro j hj hne
      rw [AH.get_set, if_neg (by simpa [Own.ids] using hne)]
    · show (S.set id _).get id = _
      rw [AH.get_set, if_pos rfl]
    · intro j hj
      simp only [Own.ids, List.mem_singleton] at hj
      subst hj
      exact ⟨(H.oi _ (List.mem_of_getElem? hm) j (by simp [Own.ids])).1, .inl (by simp [Own.ids])⟩

/-! ### a slice of one's own is cut: what is behind is cleared -/
theorem bnds_lo {i n m : Nat} (h1 : i ≤ n) (h2 : n ≤ m) : bnds (some (I (i : Int))) none none n m = some (i, n, m) := by
  have h3 : below i (Nat.succ n) = some i := by unfold below; rw [ble_t (by omega)]
  show (match (match bndO (some (I (i : Int))) 0 n with | some l => _ | none => none) with | r => r) = _
  have h2 : bndO (some (I (i : Int))) 0 n = some i := h3
  rw [h2]; rfl
theorem wp_cut (H : Cx B0 W S own ro) (n : Nat) {v : AV} {es i : Nat} {z : List AV} {L : List (List AV)} (hm : own[n]? = some (.sl v es L)) (hi : i ≤ L.length) (hz : z.length = es)
    (h : ∀ v1 S1, Cx B0 W S1 (own.set n (.sl v1 es (L.take i))) ro → wp M (k v1) S1 Q) :
    wp M (.op (.sslice es v (some (I (i : Int))) none none) fun t => .op (.clear es z t) fun _ => .op (.sslice es v none (some (I (i : Int))) none) k) S Q := by
  have hw : slW S v es L := H.oh _ (List.mem_of_getElem? hm)
  rcases hw with ⟨rfl, rfl⟩ | ⟨id, off, c, h0, h1, h2, h3⟩
  · have i0 : i = 0 := by simpa using hi
    subst i0
    refine wp_op (v := Ns) rfl (wp_op (v := uv) rfl (wp_op (v := Ns) rfl (h _ _ ?_)))
    rw [List.take_nil, list_set_self hm]; exact H
  · have hcap : ∃ cap, L.length ≤ cap ∧ off + cap * es ≤ c.length := by
      rcases h0 with ⟨m, q1, q2, _⟩ | ⟨m, q1, q2, _⟩ <;> exact ⟨m, q1, q2⟩
    obtain ⟨cap0, hc1, hc2⟩ := hcap
    have hle : L.length * es ≤ cap0 * es := Nat.mul_le_mul_right es hc1
    have hie : i * es ≤ L.length * es := Nat.mul_le_mul_right es hi
    obtain ⟨v', e1, e2⟩ := slForm_sub (M := M) (S := S) h0 hi
    have hsub : (L.length - i) * es = L.length * es - i * es := Nat.sub_mul ..
    have main : ∀ o, (o = off + i * es ∨ (L.length = i ∧ o ≤ c.length)) → ∀ t, (∃ cp, t = .sl id o (L.length - i) cp) ∨ (∃ cp, t = .op id o (L.length - i) cp es) →
        ∃ c', evalOp M.P (.clear es z t) S = some (uv, S.set id (.row c')) ∧ c'.length = c.length ∧ (c'.drop off).take (i * es) = (L.take i).flatten := by
      intro o ho t ht
      have hlen : o + (L.length - i) * es ≤ c.length := by
        rcases ho with rfl | ⟨e, he⟩
        · rw [hsub]; omega
        · rw [e, Nat.sub_self, Nat.zero_mul]; omega
      have hrl : (repZero z (L.length - i)).length = (L.length - i) * es := by rw [repZero_length, hz]
      refine ⟨setRange c o (repZero z (L.length - i)), ?_, setRange_length (by rw [hrl]; exact hlen), ?_⟩
      · have hq : (Nat.ble (o + (L.length - i) * es) (lenL c) && Nat.beq (lenL z) es) = true := by rw [lenL_eq, lenL_eq, ble_t hlen, hz, Nat.beq_refl]; rfl
        rcases ht with ⟨cp, rfl⟩ | ⟨cp, rfl⟩
        · show (match S.get id with | some (.row c) => if Nat.ble (o + (L.length - i) * es) (lenL c) && Nat.beq (lenL z) es then some (uv, S.set id (.row (setRange c o (repZero z (L.length - i))))) else none | some (.ro _) => if Nat.beq (L.length - i) 0 then some (uv, S) else none | _ => none) = _
          rw [h1]; simp only [hq, if_true]
        · show (match S.get id with | some (.row c) => if Nat.ble (o + (L.length - i) * es) (lenL c) && Nat.beq (lenL z) es then some (uv, S.set id (.row (setRange c o (repZero z (L.length - i))))) else none | some (.ro _) => if Nat.beq (L.length - i) 0 then some (uv, S) else none | _ => none) = _
          rw [h1]; simp only [hq, if_true]
      · rw [← take_flat h3, ← h2, List.take_take, Nat.min_eq_left hie]
        apply List.ext_getElem?
        intro j
        rw [List.getElem?_take, List.getElem?_take]
        split
        · next hj =>
          rw [List.getElem?_drop, List.getElem?_drop, setRange_get (by rw [hrl]; exact hlen), hrl]
          rw [if_neg]
          rintro ⟨ha, hb⟩
          rcases ho with rfl | ⟨e, he⟩
          · omega
          · rw [e, Nat.sub_self, Nat.zero_mul] at hb; omega
        · rfl
    have hoff : off ≤ c.length := by omega
    have fin : ∀ c', c'.length = c.length → (c'.drop off).take (i * es) = (L.take i).flatten → evalOp M.P (.sslice es v none (some (I (i : Int))) none) (S.set id (.row c')) = some (v', S.set id (.row c')) → wp M (k v') (S.set id (.row c')) Q := by
      intro c' hl1 hl2 _
      refine h _ _ (H.step hm (Nat.le_refl _) ?_ ?_ ?_)
      · intro j hj hne
        rw [AH.get_set, if_neg (by simpa [Own.ids, h0.ids] using hne)]
      · refine .inr ⟨id, off, c', ?_, by rw [AH.get_set, if_pos rfl], ?_, fun x hx => h3 x (List.mem_of_mem_take hx)⟩
        · rw [List.length_take, Nat.min_eq_left hi]
          rcases e2 with ⟨m, q1, q2, q3⟩ | ⟨m, q1, q2, q3⟩
          · exact .inl ⟨m, q1, by rw [hl1]; exact q2, q3⟩
          · exact .inr ⟨m, q1, by rw [hl1]; exact q2, q3⟩
        · rw [List.length_take, Nat.min_eq_left hi]; exact hl2
      · intro j hj
        have : j ∈ vids v := by
          have : j ∈ vids v' := hj
          rw [e2.ids] at this; rw [h0.ids]; exact this
        exact ⟨(H.oi _ (List.mem_of_getElem? hm) j this).1, .inl this⟩
    have pure' : ∀ c', evalOp M.P (.sslice es v none (some (I (i : Int))) none) (S.set id (.row c')) = some (v', S.set id (.row c')) := by
      intro c'
      obtain ⟨v2, g1, g2⟩ := slForm_sub (M := M) (S := S.set id (.row c')) h0 hi
      have ge : pur (pSslice es v none (some (I (i : Int))) none) S = some (v', S) := e1
      have gf : pur (pSslice es v none (some (I (i : Int))) none) (S.set id (.row c')) = some (v2, S.set id (.row c')) := g1
      have : v2 = v' := by
        unfold pur at ge gf
        split at ge
        · next u hu => rw [hu] at gf; cases ge; cases gf; rfl
        · cases ge
      rw [this] at g1; exact g1
    rcases h0 with ⟨cap, q1, q2, rfl⟩ | ⟨cap, q1, q2, rfl⟩
    · have hev : evalOp M.P (.sslice es (.sl id off L.length cap) (some (I (i : Int))) none none) S = some (.sl id (if Nat.beq cap i then off else Nat.add off (Nat.mul i es)) (L.length - i) (cap - i), S) := by
        show pur (pSslice es (.sl id off L.length cap) (some (I (i : Int))) none none) S = _
        unfold pSslice
        simp only [bnds_lo hi q1]
        rfl
      obtain ⟨c', g1, g2, g3⟩ := main (if Nat.beq cap i then off else Nat.add off (Nat.mul i es)) (by
        by_cases e : Nat.beq cap i = true
        · rw [if_pos e]; have := Nat.eq_of_beq_eq_true e; exact .inr ⟨by omega, hoff⟩
        · rw [if_neg e]; exact .inl rfl) _ (.inl ⟨cap - i, rfl⟩)
      exact wp_op hev (wp_op g1 (wp_op (pure' c') (fin c' g2 g3 (pure' c'))))
    · have hev : evalOp M.P (.sslice es (.op id off L.length cap es) (some (I (i : Int))) none none) S = some (.op id (Nat.add off (Nat.mul i es)) (L.length - i) (cap - i) es, S) := by
        show pur (pSslice es (.op id off L.length cap es) (some (I (i : Int))) none none) S = _
        unfold pSslice
        simp only [bnds_lo hi q1, Nat.beq_refl]
        rfl
      obtain ⟨c', g1, g2, g3⟩ := main (Nat.add off (Nat.mul i es)) (.inl rfl) _ (.inr ⟨cap - i, rfl⟩)
      exact wp_op hev (wp_op g1 (wp_op (pure' c') (fin c' g2 g3 (pure' c'))))
end
end Go.Abs
namespace Go.Abs
set_option linter.unusedVariables false
/-! ### ranges over functions that tell given things, one behind the other; the body may stop them -/
section
variable (M : Mach) (B0 : AH) (W : List Nat) (ro : List Fct)
def Tells (l : Nat) (e : AV) (P P' Stop : List Own → Prop) : Prop := ∀ E own S ro', (∀ φ ∈ ro, φ ∈ ro') → P own → Cx B0 W S (E ++ own) ro' → wpC M (.yd l) [e] S fun v S' => ∃ own', Cx B0 W S' (E ++ own') ro' ∧ ((v = B true ∧ P' own') ∨ (v = B false ∧ Stop own'))
def Drives (f : AV) (es : List AV) (ok : List Own → Prop) : Prop := ∀ l (P : List AV → List Own → Prop) (Stop : List Own → Prop), (∀ d own, P d own → ok own) → (∀ d e r, es = d ++ e :: r → Tells M B0 W ro l e (P d) (P (d ++ [e])) Stop) →
  ∀ E own S ro', (∀ φ ∈ ro, φ ∈ ro') → P [] own → Cx B0 W S (E ++ own) ro' → wpC M f [.yd l] S fun _ S' => ∃ own', Cx B0 W S' (E ++ own') ro' ∧ (P es own' ∨ Stop own')
end
section
variable {M : Mach} {B0 S : AH} {W : List Nat} {own : List Own} {ro : List Fct} {Q : Post} {k : AV → AC}
theorem app_get {E own : List Own} {n : Nat} {x : Own} (h : own[n]? = some x) : (E ++ own)[E.length + n]? = some x := by rw [List.getElem?_append_right (by omega), Nat.add_sub_cancel_left]; exact h
theorem app_set {E own : List Own} {n : Nat} {x : Own} : (E ++ own).set (E.length + n) x = E ++ own.set n x := by rw [List.set_append_right _ _ (by omega), Nat.add_sub_cancel_left]
theorem tells_round {l : Nat} {e : AV} {body : List AV → AC} {P P' : List Own → Prop} {Stop : Tag → List Own → Prop}
    (hb : ∀ E own S ro', (∀ φ ∈ ro, φ ∈ ro') → P own → Cx B0 W S (E ++ .obj l (.loop .ready none 1 body) :: own) ro' → wp M (body [.yd l, e]) S fun t _ S' => ∃ own', Cx B0 W S' (E ++ .obj l (.loop .busy none 1 body) :: own') ro' ∧ ((t = .normal ∧ P' own') ∨ (t ≠ .normal ∧ Stop t own'))) :
    Tells M B0 W ro l e (fun o => ∃ o1, o = .obj l (.loop .ready none 1 body) :: o1 ∧ P o1) (fun o => ∃ o1, o = .obj l (.loop .ready none 1 body) :: o1 ∧ P' o1) (fun o => ∃ t o1, t ≠ .normal ∧ o = .obj l (.loop .done (some t) 1 body) :: o1 ∧ Stop t o1) := by
  rintro E own S ro' hro ⟨o1, rfl, hP⟩ H
  have hm : (E ++ Own.obj l (.loop .ready none 1 body) :: o1)[E.length]? = some (.obj l (.loop .ready none 1 body)) := by simp
  refine wpC_yd (H.oh _ (List.mem_of_getElem? hm)) rfl (wp_mono (hb E o1 S ro' hro hP H) fun t vs S' q => ?_)
  obtain ⟨own', H', q⟩ := q
  have hm' : (E ++ Own.obj l (.loop .busy none 1 body) :: own')[E.length]? = some (.obj l (.loop .busy none 1 body)) := by simp
  have hset : ∀ o, (E ++ Own.obj l (.loop .busy none 1 body) :: own').set E.length (.obj l o) = E ++ Own.obj l o :: own' := by intro o; simp
  refine ⟨none, 1, body, H'.oh _ (List.mem_of_getElem? hm'), ?_⟩
  rcases q with ⟨rfl, q⟩ | ⟨ht, q⟩
  · have K := H'.setOb hm' (.loop .ready none 1 body)
    rw [hset] at K
    exact ⟨_, K, .inl ⟨rfl, own', rfl, q⟩⟩
  · have K := H'.setOb hm' (.loop .done (some t) 1 body)
    rw [hset] at K
    cases t with
    | normal => exact absurd rfl ht
    | _ => exact ⟨_, K, .inr ⟨rfl, _, own', ht, rfl, q⟩⟩
theorem wp_rngD {f : AV} {es : List AV} {ok : List Own → Prop} (hD : Drives M B0 W ro f es ok) (hok : ∀ x own, ok own → ok (x :: own)) {body : List AV → AC} {kk : AC} {outs : List AV} (hf : ∀ i, f ≠ .yd i) (P : List AV → List Own → Prop) (Stop : Tag → List Own → Prop)
    (hPo : ∀ d own, P d own → ok own)
    (hb : ∀ l d e r, es = d ++ e :: r → ∀ E own S ro', (∀ φ ∈ ro, φ ∈ ro') → P d own → Cx B0 W S (E ++ .obj l (.loop .ready none 1 body) :: own) ro' → wp M (body [.yd l, e]) S fun t _ S' => ∃ own', Cx B0 W S' (E ++ .obj l (.loop .busy none 1 body) :: own') ro' ∧ ((t = .normal ∧ P (d ++ [e]) own') ∨ (t ≠ .normal ∧ Stop t own')))
    {E : List Own} (hP : P [] own) (H : Cx B0 W S (E ++ own) ro)
    (hk : ∀ S own, P es own → Cx B0 W S (E ++ own) ro → wp M kk S Q)
    (hs : ∀ t S own, t ≠ .normal → Stop t own → Cx B0 W S (E ++ own) ro → Q t outs S) : wp M (.rng 1 f body kk outs) S Q := by
  refine wp_rng hf ?_
  have H1 : Cx B0 W (S.new (.loop .ready none 1 body)) (.obj S.next (.loop .ready none 1 body) :: (E ++ own)) ro := H.addOwn (Grows.new S _) (get_new_same _ _) (fun j hj => by
    simp only [Own.ids, List.mem_singleton] at hj
    subst hj
    exact ⟨Nat.le_refl _, by simp⟩)
  replace H1 : Cx B0 W (S.new (.loop .ready none 1 body)) (E ++ .obj S.next (.loop .ready none 1 body) :: own) ro := H1.perm List.perm_middle.symm
  refine wpC_mono (hD S.next (fun d o => ∃ o1, o = .obj S.next (.loop .ready none 1 body) :: o1 ∧ P d o1) (fun o => ∃ t o1, t ≠ .normal ∧ o = .obj S.next (.loop .done (some t) 1 body) :: o1 ∧ Stop t o1) (fun d o ⟨o1, e, hp⟩ => by rw [e]; exact hok _ _ (hPo d o1 hp)) (fun d e r h => tells_round (hb S.next d e r h)) E _ _ ro (fun _ h => h) ⟨own, rfl, hP⟩ H1) fun v S' q => ?_
  obtain ⟨own', H', q⟩ := q
  have drop : ∀ o o1, Cx B0 W S' (E ++ .obj S.next o :: o1) ro → ∀ o', Cx B0 W (S'.set S.next o') (E ++ o1) ro := by
    intro o o1 H o'
    have hm : (E ++ Own.obj S.next o :: o1)[E.length]? = some (.obj S.next o) := by simp
    have K := (H.setOb hm o').dropAt E.length
    have : ((E ++ Own.obj S.next o :: o1).set E.length (.obj S.next o')).eraseIdx E.length = E ++ o1 := by
      rw [List.set_append_right _ _ (Nat.le_refl _), Nat.sub_self, List.set_cons_zero, List.eraseIdx_append_of_length_le (Nat.le_refl _), Nat.sub_self, List.eraseIdx_cons_zero]
    rw [this] at K; exact K
  rcases q with ⟨o1, rfl, q⟩ | ⟨t, o1, ht, rfl, q⟩
  · refine ⟨.ready, none, 1, body, H'.oh _ (List.mem_append_right _ (List.Mem.head _)), by simp, ?_⟩
    exact hk _ _ q (drop _ _ H' _)
  · refine ⟨.done, some t, 1, body, H'.oh _ (List.mem_append_right _ (List.Mem.head _)), by simp, ?_⟩
    exact hs t _ _ ht q (drop _ _ H' _)
theorem wp_round2 {l : Nat} {x y : AV} {E own : List Own} {body : List AV → AC} {kk : AV → AC} (H : Cx B0 W S (E ++ .obj l (.loop .ready none 1 body) :: own) ro)
    (h : ∀ id S1, Cx B0 W S1 (E ++ .obj l (.loop .busy none 1 body) :: own) (.pt id 0 [x, y] :: ro) → wp M (kk (.ptr id 0)) S1 Q) :
    wp M (.op (.alloc [I 0, I 0]) fun p => .op (.store 2 p (.agg [x, y])) fun _ => .start (.yd l) (kk p)) S Q := by
  refine wp_alloc H fun id S1 H1 => ?_
  refine wp_store H1 0 (c := [I 0, I 0]) rfl rfl rfl (by simp) fun S2 H2 => ?_
  have e : setRange [I 0, I 0] 0 (AV.agg [x, y]).cells = [x, y] := rfl
  have H2 : Cx B0 W S2 (.obj id (.row [x, y]) :: (E ++ .obj l (.loop .ready none 1 body) :: own)) ro := by
    have H2 : Cx B0 W S2 (.obj id (.row (setRange [I 0, I 0] 0 (AV.agg [x, y]).cells)) :: (E ++ .obj l (.loop .ready none 1 body) :: own)) ro := H2
    rw [e] at H2; exact H2
  have H3 := H2.freeze (i := 0) rfl
  have hm : (E ++ Own.obj l (.loop .ready none 1 body) :: own)[E.length]? = some (.obj l (.loop .ready none 1 body)) := by simp
  refine wp_startO (H3 : Cx B0 W S2 (E ++ .obj l (.loop .ready none 1 body) :: own) _) E.length hm fun S3 H4 => ?_
  refine h id S3 ?_
  have : (E ++ Own.obj l (.loop .ready none 1 body) :: own).set E.length (.obj l (.loop .busy none 1 body)) = E ++ Own.obj l (.loop .busy none 1 body) :: own := by simp
  exact this ▸ (show Cx B0 W S3 ((E ++ Own.obj l (AO.loop LoopState.ready none 1 body) :: own).set E.length (Own.obj l (AO.loop LoopState.busy none 1 body))) _ from H4)
end
end Go.Abs

namespace Go.Abs
/-! ### lists of lists, one behind the other -/
theorem flat_split {α : Type} (g : Nat → List α) : ∀ {n s : Nat}, s < n → ∃ r, (List.range n).flatMap g = (List.range s).flatMap g ++ (g s ++ r)
  | 0, s, h => by omega
  | n + 1, s, h => by
    rw [List.range_succ, List.flatMap_append]
    by_cases e : s = n
    · subst e; exact ⟨[], by simp⟩
    · obtain ⟨r, hr⟩ := flat_split g (n := n) (s := s) (by omega)
      exact ⟨r ++ g n, by rw [hr]; simp⟩
theorem flat_succ {α : Type} (g : Nat → List α) (s : Nat) : (List.range (s + 1)).flatMap g = (List.range s).flatMap g ++ g s := by rw [List.range_succ, List.flatMap_append]; simp
end Go.Abs
namespace Go.Abs
set_option linter.unusedVariables false
/-! ### timers, in order -/
structure Fi where
  id : Nat
  tm : Nat
  deriving DecidableEq
def Fi.cs (f : Fi) : List AV := [I f.id, I f.tm]
def fis (l : List Fi) : List (List AV) := l.map Fi.cs
theorem fis_len (l : List Fi) : (fis l).length = l.length := List.length_map ..
theorem fis_get {l : List Fi} {i : Nat} (h : i < l.length) : (fis l)[i]? = some l[i].cs := by simp [fis, h]
theorem fis_app (a b : List Fi) : fis (a ++ b) = fis a ++ fis b := List.map_append ..
theorem fis_take (l : List Fi) (i : Nat) : fis (l.take i) = (fis l).take i := List.map_take ..
theorem fis_all (l : List Fi) : ∀ x ∈ fis l, x.length = 2 := by intro x hx; obtain ⟨f, _, rfl⟩ := List.mem_map.1 hx; rfl
def Fi.lt (a b : Fi) : Prop := a.tm < b.tm ∨ a.tm = b.tm ∧ a.id < b.id
instance (a b : Fi) : Decidable (Fi.lt a b) := inferInstanceAs (Decidable (_ ∨ _))
theorem Fi.lt_irrefl (a : Fi) : ¬ a.lt a := by unfold Fi.lt; omega
theorem Fi.lt_trans {a b c : Fi} (h : a.lt b) (k : b.lt c) : a.lt c := by unfold Fi.lt at *; omega
theorem Fi.lt_asymm {a b : Fi} (h : a.lt b) : ¬ b.lt a := by unfold Fi.lt at *; omega
theorem Fi.lt_or {a b : Fi} (h : a.id ≠ b.id) : a.lt b ∨ b.lt a := by unfold Fi.lt; omega
abbrev Ord (l : List Fi) : Prop := l.Pairwise Fi.lt
theorem ord_ext : ∀ {a b : List Fi}, Ord a → Ord b → (∀ x, x ∈ a ↔ x ∈ b) → a = b
  | [], [], _, _, _ => rfl
  | [], y :: b, _, _, h => absurd ((h y).2 (by simp)) (by simp)
  | x :: a, [], _, _, h => absurd ((h x).1 (by simp)) (by simp)
  | x :: a, y :: b, ha, hb, h => by
    have ha' := List.pairwise_cons.1 ha
    have hb' := List.pairwise_cons.1 hb
    have e : x = y := by
      rcases List.mem_cons.1 ((h x).1 (by simp)) with e | hx
      · exact e
      · rcases List.mem_cons.1 ((h y).2 (by simp)) with e | hy
        · exact e.symm
        · exact absurd (hb'.1 x hx) (Fi.lt_asymm (ha'.1 y hy))
    subst e
    congr 1
    refine ord_ext ha'.2 hb'.2 fun z => ?_
    constructor
    · intro hz
      rcases List.mem_cons.1 ((h z).1 (by simp [hz])) with e | hz'
      · exact absurd (ha'.1 z hz) (by rw [e]; exact Fi.lt_irrefl _)
      · exact hz'
    · intro hz
      rcases List.mem_cons.1 ((h z).2 (by simp [hz])) with e | hz'
      · exact absurd (hb'.1 z hz) (by rw [e]; exact Fi.lt_irrefl _)
      · exact hz'
def ins (f : Fi) : List Fi → List Fi
  | [] => [f]
  | g :: r => if f.lt g then f :: g :: r else g :: ins f r
theorem mem_ins {f x : Fi} {l : List Fi} : x ∈ ins f l ↔ x = f ∨ x ∈ l := by
  induction l with
  | nil => simp [ins]
  | cons g r ih =>
    unfold ins
    split
    · simp
    · simp only [List.mem_cons, ih]
      constructor
      · rintro (h | h | h)
        · exact .inr (.inl h)
        · exact .inl h
        · exact .inr (.inr h)
      · rintro (h | h | h)
        · exact .inr (.inl h)
        · exact .inl h
        · exact .inr (.inr h)
theorem ord_ins {f : Fi} {l : List Fi} (h : Ord l) (hn : ∀ x ∈ l, x.id ≠ f.id) : Ord (ins f l) := by
  induction l with
  | nil => simp [ins]
  | cons g r ih =>
    have h' := List.pairwise_cons.1 h
    unfold ins
    split
    · next hlt =>
      refine List.pairwise_cons.2 ⟨fun x hx => ?_, h⟩
      rcases List.mem_cons.1 hx with rfl | hx
      · exact hlt
      · exact Fi.lt_trans hlt (h'.1 x hx)
    · next hlt =>
      refine List.pairwise_cons.2 ⟨fun x hx => ?_, ih h'.2 fun x hx => hn x (by simp [hx])⟩
      rcases mem_ins.1 hx with rfl | hx
      · exact (Fi.lt_or (hn g (by simp))).resolve_right hlt
      · exact h'.1 x hx
theorem ins_at {f : Fi} : ∀ {l : List Fi} {k : Nat}, k ≤ l.length → (∀ i (h : i < l.length), i < k → ¬ f.lt l[i]) → (∀ (h : k < l.length), f.lt l[k]) → ins f l = l.take k ++ f :: l.drop k
  | [], k, hk, _, _ => by have : k = 0 := by simpa using hk
                          subst this; rfl
  | g :: r, 0, hk, _, h2 => by
    have : f.lt g := h2 (by simp)
    unfold ins
    rw [if_pos this]; rfl
  | g :: r, k + 1, hk, h1, h2 => by
    have h0 : ¬ f.lt g := h1 0 (by simp) (by omega)
    unfold ins
    rw [if_neg h0, ins_at (k := k) (by simpa using hk) (fun i h hi => h1 (i + 1) (by simpa using h) (by omega)) (fun h => h2 (by simpa using h))]
    rfl
def rmv (id : Nat) (l : List Fi) : List Fi := l.filter (fun f => f.id != id)
theorem mem_rmv {id : Nat} {x : Fi} {l : List Fi} : x ∈ rmv id l ↔ x ∈ l ∧ x.id ≠ id := by simp [rmv, List.mem_filter]
structure Wl where
  now : Nat
  L : List Fi
structure Wl.Ok (x : Wl) : Prop where
  clk : x.now ≤ 1099511627776
  ord : Ord x.L
  nd : (x.L.map (·.id)).Nodup
  ge : ∀ f ∈ x.L, x.now ≤ f.tm
  le : ∀ f ∈ x.L, f.tm ≤ 1099511627776
  id : ∀ f ∈ x.L, f.id < 256
def Wl.slot (x : Wl) (k : Nat) : List Fi := x.L.filter (fun f => spt x.now f.tm == k)
theorem Wl.Ok.inj {x : Wl} (h : x.Ok) {f g : Fi} (hf : f ∈ x.L) (hg : g ∈ x.L) (e : f.id = g.id) : f = g := by
  have := h.nd
  rw [List.Nodup, List.pairwise_map, List.pairwise_iff_getElem] at this
  obtain ⟨i, hi, rfl⟩ := List.mem_iff_getElem.1 hf
  obtain ⟨j, hj, rfl⟩ := List.mem_iff_getElem.1 hg
  rcases Nat.lt_trichotomy i j with hij | rfl | hij
  · exact absurd e (this i j hi hj hij)
  · rfl
  · exact absurd e.symm (this j i hj hi hij)
theorem nodup_le : ∀ {n : Nat} {l : List Nat}, l.Nodup → (∀ x ∈ l, x < n) → l.length ≤ n
  | 0, [], _, _ => by simp
  | 0, x :: l, _, h => absurd (h x (by simp)) (by omega)
  | n + 1, l, hn, h => by
    have := nodup_le (n := n) (l := l.erase n) (hn.sublist List.erase_sublist) fun x hx => by
      have h1 := h x (List.mem_of_mem_erase hx)
      have h2 : x ≠ n := fun e => by subst e; exact (List.Nodup.not_mem_erase hn) hx
      omega
    have h3 := List.length_erase (a := n) (l := l)
    split at h3 <;> omega
theorem Wl.Ok.len {x : Wl} (h : x.Ok) : x.L.length ≤ 256 := by
  have := nodup_le h.nd fun i hi => by
    obtain ⟨f, hf, rfl⟩ := List.mem_map.1 hi
    exact h.id f hf
  simpa using this
end Go.Abs
namespace Go.Abs
set_option linter.unusedVariables false
section
variable {M : Mach} {B0 S : AH} {W : List Nat} {own : List Own} {ro : List Fct} {Q : Post} {k : AV → AC} {κ κ' : IntKind}
theorem e_shr {a b : Int} (hb : 0 ≤ b) : evalOp M.P (.bin .shr (Z κ a) (Z κ' b)) S = some (Z κ (a.fdiv (2 ^ (min b.toNat κ.bits))), S) := by
  show pur (bShr (Z κ a) (Z κ' b)) S = _
  have : ltF b 0 = false := by rw [ltF_eq]; simpa using hb
  unfold bShr
  simp only [this]
  rfl
theorem shr_nat {n s : Nat} : ((n : Int).fdiv (2 ^ s)) = ((n / 2 ^ s : Nat) : Int) := by
  have : ((2 : Int) ^ s) = ((2 ^ s : Nat) : Int) := by simp
  rw [this, Int.ofNat_fdiv]
theorem wp_shrU {n s : Nat} (hn : n ≤ 18446744073709551615) (hs : s ≤ 64) (h : wp M (k (U ((n / 2 ^ s : Nat) : Int))) S Q) : wp M (.op (.bin .shr (U (n : Int)) (Z κ' (s : Int))) k) S Q := by
  refine wp_op (e_shr (by omega)) ?_
  have e : min (s : Int).toNat IntKind.u64.bits = s := by show min (s : Int).toNat 64 = s; omega
  rw [e, shr_nat]; exact h
theorem wp_shrI {n s : Nat} (hn : n ≤ 9223372036854775807) (hs : s ≤ 64) (h : wp M (k (I ((n / 2 ^ s : Nat) : Int))) S Q) : wp M (.op (.bin .shr (I (n : Int)) (Z κ' (s : Int))) k) S Q := by
  refine wp_op (e_shr (by omega)) ?_
  have e : min (s : Int).toNat IntKind.i64.bits = s := by show min (s : Int).toNat 64 = s; omega
  rw [e, shr_nat]; exact h
theorem wp_conv {a c : Int} (hw : wrapF κ a = c) (h : wp M (k (Z κ c)) S Q) : wp M (.op (.conv κ (Z κ' a)) k) S Q := wp_op (v := Z κ c) (by show pur (pConv κ (Z κ' a)) S = _; rw [← hw]; rfl) h
theorem xor64 {a b : Nat} (ha : a ≤ 9223372036854775807) (hb : b ≤ 9223372036854775807) : evalOp M.P (.bin .xor (I (a : Int)) (I (b : Int))) S = some (I ((a ^^^ b : Nat) : Int), S) := by
  show pur (bXor (I (a : Int)) (I (b : Int))) S = _
  unfold bXor
  have e : ((BitVec.ofInt 64 (a : Int) ^^^ BitVec.ofInt 64 (b : Int)).toNat : Int) = ((a ^^^ b : Nat) : Int) := by
    rw [BitVec.toNat_xor]
    simp only [BitVec.ofInt_natCast, BitVec.toNat_ofNat]
    rw [Nat.mod_eq_of_lt (by omega), Nat.mod_eq_of_lt (by omega)]
  have hlt : a ^^^ b < 2 ^ 63 := Nat.xor_lt_two_pow (by omega) (by omega)
  simp only [int2, asInt, vInt, kindEq_refl]
  show some (I (wrapF .i64 ((BitVec.ofInt 64 (a : Int) ^^^ BitVec.ofInt 64 (b : Int)).toNat : Int)), S) = _
  rw [e, wrap64 (by omega) (by omega)]
theorem wp_paddr {len es id o i : Nat} (hi : i < len) (h : wp M (k (.ptr id (o + i * es))) S Q) : wp M (.op (.paddr len es (.ptr id o) (I (i : Int))) k) S Q := by
  refine wp_op (v := .ptr id (o + i * es)) ?_ h
  show pur (pPaddr len es (.ptr id o) (I (i : Int))) S = _
  have hidx : idx? (I (i : Int)) len = some i := by
    show below i len = some i
    unfold below; rw [ble_t hi]
  unfold pPaddr
  simp only [hidx]
  rfl
theorem wp_sidx {s : ByteArray} {i : Nat} {b : UInt8} (hi : i < s.size) (hb : s[i]? = some b) (h : wp M (k (Z .u8 (b.toNat : Int))) S Q) : wp M (.op (.sidx (.sc (.string s)) (Z κ (i : Int))) k) S Q := by
  refine wp_op (v := Z .u8 (b.toNat : Int)) ?_ h
  show pur (pSidx (.sc (.string s)) (Z κ (i : Int))) S = _
  have hidx : idx? (Z κ (i : Int)) s.size = some i := by
    show below i s.size = some i
    unfold below; rw [ble_t hi]
  unfold pSidx
  simp only [hidx, hb]
  rfl
theorem wp_two (H : Cx B0 W S own ro) {x y : AV} (hx : odd x = false) (hy : odd y = false) (lx : x.cells = [x]) (ly : y.cells = [y]) (h : ∀ v S1, Cx B0 W S1 own (.sl v 1 [[x], [y]] :: ro) → wp M (k v) S1 Q) :
    wp M (.op (.bslice 1 2 [I 0] [(0, 1, x), (1, 1, y)]) k) S Q := by
  refine wp_op (v := .sl S.next 0 2 2) (S1 := S.new (.row [x, y])) ?_ (h _ _ (H.addNewRo (Grows.new S _) (φ := .sl (.sl S.next 0 2 2) 1 [[x], [y]]) ?_ ?_))
  · show nBslice 1 2 [I 0] [(0, 1, x), (1, 1, y)] S = _
    unfold nBslice
    have e1 : fillP (repZero [I 0] 2) [(0, 1, x), (1, 1, y)] = some [x, y] := by
      simp only [fillP, hx, hy, lx, ly]
      rfl
    rw [e1]
    rfl
  · exact .inr ⟨S.next, 0, [x, y], .inl ⟨2, by simp, by simp, rfl⟩, row_cells (get_new_same _ _), by simp, by simp⟩
  · intro id hid
    simp only [Fct.ids, vids, List.mem_singleton] at hid
    subst hid
    exact ⟨Nat.le_refl _, by simp [AH.new]⟩
theorem e_ptrNil {t id off : Nat} {n : Bool} (ht : typc M.P t = 1) : evalOp M.P (.eq t n (.ptr id off) Np) S = some (B n, S) := by
  show pur (pEq M.P t n (.ptr id off) Np) S = _
  have : aeq M.P t (.ptr id off) Np = some false := by
    unfold aeq
    rw [ht]
    rfl
  unfold pEq
  rw [this]
  cases n <;> rfl
end
def bitlen (n : Nat) : Nat := if n = 0 then 0 else Nat.log2 n + 1
theorem bitlen_shift {n s : Nat} (h : 2 ^ s ≤ n) : bitlen n = bitlen (n / 2 ^ s) + s := by
  have hp : 0 < 2 ^ s := Nat.two_pow_pos s
  have h0 : n ≠ 0 := by omega
  have h1 : n / 2 ^ s ≠ 0 := by
    have := Nat.div_pos h hp
    omega
  unfold bitlen
  rw [if_neg h0, if_neg h1]
  have e : Nat.log2 n = Nat.log2 (n / 2 ^ s) + s := by
    have h2 := Nat.log2_self_le h1
    have h3 := Nat.lt_log2_self (n := n / 2 ^ s)
    refine (Nat.log2_eq_iff h0).2 ⟨?_, ?_⟩
    · rw [Nat.pow_add]
      exact Nat.le_trans (Nat.mul_le_mul_right _ h2) (Nat.div_mul_le_self n (2 ^ s))
    · rw [show Nat.log2 (n / 2 ^ s) + s + 1 = (Nat.log2 (n / 2 ^ s) + 1) + s by omega, Nat.pow_add]
      exact (Nat.div_lt_iff_lt_mul hp).1 h3
  omega
theorem lev_bitlen (now a : Nat) : lev now a = if 0 < bitlen (a ^^^ now) then (bitlen (a ^^^ now) - 1) / 4 else 0 := by
  unfold lev bitlen
  by_cases h : a ^^^ now = 0
  · simp [h]
  · simp [h]
end Go.Abs
namespace Go.Abs
open Go.Proofs
set_option maxRecDepth 100000
set_option linter.unusedVariables false
class Ek where
  b : Bool
def knB (ek : Bool) (f : FuncId) (l : List AV) : Option AV := match (Nat.beq f 4 && ek) with
  | true => (match l with | [] => some (.sc (.bool true)) | _ => none)
  | false => knV [(22, .bool true)] f l
noncomputable def EM [Ek] : Mach := ⟨Tryz.prog, Tryz.tbl, ⟨knB Ek.b, xOf [(176, insK 2 16)]⟩⟩
variable [Ek]


/-! ### numbers -/
def cmpI (a b : Int) : Int := if a < b then -1 else if b < a then 1 else 0
theorem nan_ok {S : AH} {a : Int} : wpC EM (.fn (.func 248) [] []) [I a] S fun r S' => r = B false ∧ Grows S S' := by
  refine wpC_fn (b := Tryz.a248) rfl rfl ?_
  rw [Tryz.u248]
  refine wp_neq_f rfl ?_
  exact wp_ret ⟨rfl, rfl, Grows.refl _⟩
theorem compare_ok {S : AH} {a b : Int} : wpC EM (.fn (.func 156) [] []) [I a, I b] S fun r S' => r = I (cmpI a b) ∧ Grows S S' := by
  refine wpC_fn (b := Tryz.a156) rfl rfl ?_
  have H : Cx S [] S [] [] := Cx.enter (by simp)
  rw [Tryz.u156]; unfold cmpI 
  refine wp_callV H nan_ok fun S1 H => ?_
  refine wp_callV H nan_ok fun S2 H => ?_
  try(refine zz ?_;(repeat constructor);intro _)
  refine wp_lss (fun h => ?_) (fun h => ?_)
  · rw [if_pos h]
    try(refine zz ?_;(repeat constructor);intro _)
    exact wp_ret ⟨rfl, rfl, H.grows⟩
  rw [if_neg (by omega)]
  try(refine zz ?_;(repeat constructor);intro _)
  refine wp_gtr (fun h2 => ?_) (fun h2 => ?_)
  · rw [if_pos h2]
    try(refine zz ?_;(repeat constructor);intro _)
    exact wp_ret ⟨rfl, rfl, H.grows⟩
  · rw [if_neg (by omega)]
    try(refine zz ?_;(repeat constructor);intro _)
    exact wp_ret ⟨rfl, rfl, H.grows⟩
def orI : List Int → Int
  | [] => 0
  | a :: l => if a ≠ 0 then a else orI l
theorem orI_drop {l : List Int} {i : Nat} (h : i < l.length) : orI (l.drop i) = if l[i] ≠ 0 then l[i] else orI (l.drop (i + 1)) := by
  rw [List.drop_eq_getElem_cons h]; rfl
theorem or_ok {S : AH} {v : AV} {l : List Int} (hv : RoSl S v 1 (ints l)) (hl : l.length < 1000000) : wpC EM (.fn (.func 154) [] []) [v] S fun r S' => r = I (orI l) ∧ Grows S S' := by
  refine wpC_fn (b := Tryz.a154) rfl rfl ?_
  have H := Cx.ro1 hv
  rw [Tryz.u154]
  refine wp_len H (by repeat (first | exact List.Mem.head _ | apply List.Mem.tail)) ?_
  rw [ints_len]
  refine wp_bind (wp_loop (wpL_inv (fun m vs S1 => ∃ (i : Nat) (u : AV), vs = [I (i : Int), u] ∧ i ≤ l.length ∧ m = l.length - i ∧ orI l = orI (l.drop i) ∧ Cx S [] S1 [] [.sl v 1 (ints l)]) ?_ l.length ⟨0, _, rfl, by omega, by omega, rfl, H⟩))
  rintro m vs S1 ⟨i, u, rfl, hi, rfl, he, H⟩
  refine wp_lss (fun hlt => ?_) (fun hge => ?_)
  · have hlt : i < l.length := by omega
    try(refine zz ?_;(repeat constructor);intro _)
    refine wp_bind ?_
    refine wp_saddr (i := i) (x := [I l[i]]) H (by repeat (first | exact List.Mem.head _ | apply List.Mem.tail)) (by simp [ints, hlt]) fun p off H1 => ?_
    refine wp_load0 H1 (by repeat (first | exact List.Mem.head _ | apply List.Mem.tail)) rfl ?_
    rw [orI_drop hlt] at he
    refine wp_neq (fun hne => ?_) (fun hz => ?_)
    · try(refine zz ?_;(repeat constructor);intro _)
      rw [if_pos hne] at he
      exact wp_ret (.inr ⟨by simp, rfl, by rw [he]; rfl, H.grows⟩)
    · try(refine zz ?_;(repeat constructor);intro _)
      rw [if_neg (by simpa using hz)] at he
      refine wp_ret ?_
      show wp EM _ _ _
      exact wp_add64 (by omega) (by omega) (wp_ret (.inl ⟨rfl, l.length - (i + 1), by omega, i + 1, _, rfl, by omega, rfl, he, H⟩))
  · try(refine zz ?_;(repeat constructor);intro _)
    refine wp_ret (.inr ⟨by simp, wp_ret ⟨rfl, ?_, H.grows⟩⟩)
    rw [List.drop_of_length_le (by omega)] at he
    rw [he]; rfl
theorem ord_cmp {a b : Fi} : orI [cmpI a.tm b.tm, cmpI a.id b.id] < 0 ↔ a.lt b := by
  unfold orI orI orI cmpI Fi.lt
  repeat' split
  all_goals omega
theorem order_ok {S : AH} {a b : Fi} : wpC EM (.fn (.func 175) [] []) [.agg a.cs, .agg b.cs] S fun r S' => r = I (orI [cmpI a.tm b.tm, cmpI a.id b.id]) ∧ Grows S S' := by
  refine wpC_fn (b := Tryz.a175) rfl rfl ?_
  have H : Cx S [] S [] [] := Cx.enter (by simp)
  rw [Tryz.u175]
  refine wp_box H rfl fun p S1 H => ?_
  refine wp_box H rfl fun q S2 H => ?_
  try(refine zz ?_;(repeat constructor);intro _)
  refine wp_load1 (id := p) (j := 1) H (cs := a.cs) (by repeat (first | exact List.Mem.head _ | apply List.Mem.tail)) rfl ?_
  try(refine zz ?_;(repeat constructor);intro _)
  refine wp_load1 (id := q) (j := 1) H (cs := b.cs) (by repeat (first | exact List.Mem.head _ | apply List.Mem.tail)) rfl ?_
  try(refine zz ?_;(repeat constructor);intro _)
  refine wp_load1 (id := p) (j := 0) H (cs := a.cs) (by repeat (first | exact List.Mem.head _ | apply List.Mem.tail)) rfl ?_
  try(refine zz ?_;(repeat constructor);intro _)
  refine wp_load1 (id := q) (j := 0) H (cs := b.cs) (by repeat (first | exact List.Mem.head _ | apply List.Mem.tail)) rfl ?_
  refine wp_callV H compare_ok fun S3 H => ?_
  refine wp_chk1 (id := p) (off := 0) (j := 0) (cs := a.cs) H (by repeat (first | exact List.Mem.head _ | apply List.Mem.tail)) rfl beq_num ?_
  refine wp_chk1 (id := q) (off := 0) (j := 0) (cs := b.cs) H (by repeat (first | exact List.Mem.head _ | apply List.Mem.tail)) rfl beq_num ?_
  refine wp_callV H compare_ok fun S4 H => ?_
  refine wp_two H rfl rfl rfl rfl fun v S5 H => ?_
  refine wp_callV H (or_ok (l := [cmpI a.tm b.tm, cmpI a.id b.id]) (H.roSl (by repeat (first | exact List.Mem.head _ | apply List.Mem.tail))) (by simp)) fun S6 H => ?_
  exact wp_ret ⟨rfl, rfl, H.grows⟩
def len8 : ByteArray := ⟨(0 :: (List.replicate 1 1 ++ List.replicate 2 2 ++ List.replicate 4 3 ++ List.replicate 8 4 ++ List.replicate 16 5 ++ List.replicate 32 6 ++ List.replicate 64 7 ++ List.replicate 128 8)).toArray⟩
theorem len8_ok : ∀ i, i < 256 → len8[i]? = some (UInt8.ofNat (bitlen i)) ∧ bitlen i < 256 := by decide +kernel
theorem len8_size : len8.size = 256 := by decide +kernel
theorem len64_ok {S : AH} {n : Nat} (hn : n < 2 ^ 64) : wpC EM (.fn (.func 246) [] []) [U (n : Int)] S fun r S' => r = I (bitlen n) ∧ Grows S S' := by
  refine wpC_fn (b := Tryz.a246) rfl rfl ?_
  unfold Tryz.a246 
  have last : ∀ (a b : Nat) (Q : Post), a ≤ 56 → b < 256 → bitlen n = a + bitlen b → (Q .ret [I (bitlen n)] S) → wp EM (.op (.conv .u8 (U (b : Int))) fun v7 => .op (.sidx (.sc (.string len8)) v7) fun v8 => .op (.conv .i64 v8) fun v9 => .op (.bin .add (I (a : Int)) v9) fun v10 => .ret .ret [v10]) S Q := by
    intro a b Q ha hb e hq
    obtain ⟨h1, h2⟩ := len8_ok b hb
    refine wp_conv (c := (b : Int)) (by rw [wrapF_eq, IntKind.wrap_u8]; omega) ?_
    refine wp_sidx (i := b) (by rw [len8_size]; exact hb) h1 ?_
    have e8 : ((UInt8.ofNat (bitlen b)).toNat : Int) = (bitlen b : Int) := by rw [UInt8.toNat_ofNat']; omega
    rw [e8]
    refine wp_conv (c := (bitlen b : Int)) (by rw [wrap64 (by omega) (by omega)]) ?_
    refine wp_add64 (by omega) (by omega) (wp_ret ?_)
    rw [e] at hq
    rw [Int.natCast_add] at hq
    exact hq
  have mid2 : ∀ (a b : Nat) (Q : Post), a ≤ 48 → b < 65536 → bitlen n = a + bitlen b → (Q .ret [I (bitlen n)] S) → wp EM (Tryz.a246x4 [I (a : Int), U (b : Int)]) S Q := by
    intro a b Q ha hb e hq
    unfold Tryz.a246x4 
    refine wp_geq (fun h => ?_) (fun h => ?_)
    · refine wp_bind (wp_ite_t ?_)
      unfold Tryz.a246x2 
      refine wp_shrU (s := 8) (by omega) (by omega) ?_
      refine wp_add64 (by omega) (by omega) (wp_ret ?_)
      refine last (a + 8) (b / 2 ^ 8) Q (by omega) (by omega) ?_ hq
      rw [e, bitlen_shift (n := b) (s := 8) (by omega)]; omega
    · refine wp_bind (wp_ite_f (wp_ret ?_))
      exact last a b Q (by omega) (by omega) e hq
  have mid1 : ∀ (a b : Nat) (Q : Post), a ≤ 32 → b < 4294967296 → bitlen n = a + bitlen b → (∀ Q', (Q' .ret [I (bitlen n)] S) → Q' = Q → True) → (Q .ret [I (bitlen n)] S) → wp EM (.op (.bin .geq (U (b : Int)) (U 65536)) fun v3 => .bind (Tryz.a246x1 [I (a : Int), U (b : Int)] v3) none (fun v4 => Tryz.a246x4 v4) (fun v4 => [nth v4 0])) S Q := by
    intro a b Q ha hb e _ hq
    unfold Tryz.a246x1 
    refine wp_geq (fun h => ?_) (fun h => ?_)
    · refine wp_bind (wp_ite_t ?_)
      refine wp_shrU (s := 16) (by show b ≤ _; omega) (by omega) ?_
      refine wp_add64 (by omega) (by omega) (wp_ret ?_)
      refine mid2 (a + 16) (b / 2 ^ 16) Q (by omega) (by omega) ?_ hq
      rw [e, bitlen_shift (n := b) (s := 16) (by omega)]; omega
    · refine wp_bind (wp_ite_f (wp_ret ?_))
      exact mid2 a b Q (by omega) (by omega) e hq
  refine wp_geq (fun h => ?_) (fun h => ?_)
  · refine wp_bind (wp_ite_t ?_)
    unfold Tryz.a246x0 
    refine wp_shrU (s := 32) (by omega) (by omega) (wp_ret ?_)
    refine mid1 32 (n / 2 ^ 32) _ (by omega) (by omega) ?_ (fun _ _ _ => trivial) ⟨rfl, rfl, Grows.refl _⟩
    rw [bitlen_shift (n := n) (s := 32) (by omega)]; omega
  · refine wp_bind (wp_ite_f (wp_ret ?_))
    exact mid1 0 n _ (by omega) (by omega) (by omega) (fun _ _ _ => trivial) ⟨rfl, rfl, Grows.refl _⟩
end Go.Abs
namespace Go.Abs
variable [Ek]
open Go.Proofs
set_option maxRecDepth 100000
set_option linter.unusedVariables false
/-! ### a wheel's memory -/
def upd {α : Type} (f : Nat → α) (k : Nat) (x : α) : Nat → α := fun j => if j = k then x else f j
theorem range_map_set {α : Type} {f : Nat → α} {n k : Nat} {y : α} : ((List.range n).map f).set k y = (List.range n).map (upd f k y) := by
  apply List.ext_getElem?
  intro j
  rw [List.getElem?_set]
  simp only [List.length_map, List.length_range, List.getElem?_map]
  unfold upd
  by_cases h : k = j
  · subst h
    by_cases hk : k < n
    · simp [hk]
    · simp [hk]
  · rw [if_neg h]
    by_cases hj : j < n
    · simp [hj, show j ≠ k from fun e => h e.symm]
    · simp [hj]
def wrow (now m : Nat) (rs : Nat → AV) : List AV := I now :: B true :: ((List.range 176).map rs ++ [.map m])
theorem wrow_len (now m : Nat) (rs : Nat → AV) : (wrow now m rs).length = 179 := by simp [wrow]
theorem wrow_slot {now m : Nat} {rs : Nat → AV} {k : Nat} (h : k < 176) : (wrow now m rs)[2 + k]? = some (rs k) := by
  rw [show 2 + k = k + 1 + 1 by omega]
  unfold wrow
  rw [List.getElem?_cons_succ, List.getElem?_cons_succ, List.getElem?_append_left (by simpa using h)]
  simp [h]
theorem wrow_map {now m : Nat} {rs : Nat → AV} : (wrow now m rs)[178]? = some (.map m) := by simp [wrow]
theorem setRange_one {c : List AV} {o : Nat} {v : AV} (h : o < c.length) : setRange c o [v] = c.set o v := by
  apply List.ext_getElem?
  intro j
  rw [setRange_get (by simp; omega), List.getElem?_set]
  simp only [List.length_singleton]
  by_cases e : o = j
  · subst e
    rw [if_pos (by omega), if_pos rfl, if_pos h, Nat.sub_self]; rfl
  · rw [if_neg (by omega), if_neg e]
theorem wrow_set {now m : Nat} {rs : Nat → AV} {k : Nat} {v : AV} (h : k < 176) : (wrow now m rs).set (2 + k) v = wrow now m (upd rs k v) := by
  rw [show 2 + k = k + 1 + 1 by omega]
  unfold wrow
  rw [List.set_cons_succ, List.set_cons_succ, List.set_append_left _ _ (by simpa using h), range_map_set]
def wOwn (w m : Nat) (row : List AV) (Mp : List (Int × AV)) (vs : Nat → AV) (fs : Nat → List Fi) : List Own :=
  .obj w (.row row) :: .obj m (.map (ment Mp)) :: (List.range 176).map fun k => Own.sl (vs k) 2 (fis (fs k))
section
variable {E R : List Own} {w m : Nat} {row : List AV} {Mp : List (Int × AV)} {vs : Nat → AV} {fs : Nat → List Fi}
theorem wO_row : (E ++ (wOwn w m row Mp vs fs ++ R))[E.length + 0]? = some (.obj w (.row row)) := app_get rfl
theorem wO_map : (E ++ (wOwn w m row Mp vs fs ++ R))[E.length + 1]? = some (.obj m (.map (ment Mp))) := app_get rfl
theorem wO_slot {k : Nat} (h : k < 176) : (E ++ (wOwn w m row Mp vs fs ++ R))[E.length + (k + 1 + 1)]? = some (.sl (vs k) 2 (fis (fs k))) := by
  refine app_get ?_
  unfold wOwn
  rw [List.cons_append, List.cons_append, List.getElem?_cons_succ, List.getElem?_cons_succ, List.getElem?_append_left (by simpa using h)]
  simp [h]
theorem wO_setRow {row' : List AV} : (E ++ (wOwn w m row Mp vs fs ++ R)).set (E.length + 0) (.obj w (.row row')) = E ++ (wOwn w m row' Mp vs fs ++ R) := by rw [app_set]; rfl
theorem wO_setMap {Mp' : List (Int × AV)} : (E ++ (wOwn w m row Mp vs fs ++ R)).set (E.length + 1) (.obj m (.map (ment Mp'))) = E ++ (wOwn w m row Mp' vs fs ++ R) := by rw [app_set]; rfl
theorem wO_setSlot {k : Nat} {v : AV} {l : List Fi} (h : k < 176) : (E ++ (wOwn w m row Mp vs fs ++ R)).set (E.length + (k + 1 + 1)) (.sl v 2 (fis l)) = E ++ (wOwn w m row Mp (upd vs k v) (upd fs k l) ++ R) := by
  rw [app_set]
  congr 1
  unfold wOwn
  rw [List.cons_append, List.cons_append, List.set_cons_succ, List.set_cons_succ, List.set_append_left _ _ (by simpa using h), range_map_set]
  congr 4
  funext j
  unfold upd
  split <;> rfl
end
section
variable {B0 S : AH} {W : List Nat} {own : List Own} {ro : List Fct} {Q : Post} {k : AV → AC}
theorem wp_tmp2 {M : Mach} (H : Cx B0 W S own ro) {x y : AV} (h : ∀ id S1, Cx B0 W S1 own (.pt id 0 [x, y] :: ro) → wp M (k (.ptr id 0)) S1 Q) : wp M (.op (.alloc [I 0, I 0]) fun p => .op (.store 2 p (.agg [x, y])) fun _ => k p) S Q := by
  refine wp_alloc H fun id S1 H1 => ?_
  refine wp_store H1 0 (c := [I 0, I 0]) rfl rfl rfl (by simp) fun S2 H2 => ?_
  have H2 : Cx B0 W S2 (.obj id (.row [x, y]) :: own) ro := H2
  exact h id S2 (H2.freeze (i := 0) rfl)
theorem Cx.ownPt (H : Cx B0 W S own ro) {n id : Nat} {c : List AV} (hm : own[n]? = some (.obj id (.row c))) : (Fct.pt id 0 c).holds S ∧ id < S.next :=
  ⟨⟨c, row_cells (H.oh _ (List.mem_of_getElem? hm)), by omega, by simp⟩, (H.oi _ (List.mem_of_getElem? hm) id (by simp [Own.ids])).1⟩
theorem wp_row {M : Mach} (H : Cx B0 W S own ro) (n : Nat) {id j : Nat} {c : List AV} {v : AV} (hm : own[n]? = some (.obj id (.row c))) (hj : c[j]? = some v) (h : wp M (k v) S Q) : wp M (.op (.load 1 false (.ptr id j)) k) S Q := wp_loado H n hm hj h
theorem wp_set1 {M : Mach} (H : Cx B0 W S own ro) (n : Nat) {id j : Nat} {c : List AV} {v : AV} (hm : own[n]? = some (.obj id (.row c))) (hj : j < c.length) (ho : odd v = false) (hc : v.cells = [v]) (h : ∀ S1, Cx B0 W S1 (own.set n (.obj id (.row (c.set j v)))) ro → wp M (k uv) S1 Q) :
    wp M (.op (.store 1 (.ptr id j) v) k) S Q :=
  wp_store H n hm ho (by rw [hc]; rfl) (by omega) fun S1 H1 => h S1 (by rw [hc, setRange_one hj] at H1; exact H1)

theorem bitlen_le {n : Nat} (h : n < 2 ^ 63) : bitlen n ≤ 63 := by
  unfold bitlen
  split
  · omega
  · next h0 => have := (Nat.log2_lt h0).2 h; omega
/-! ### where a time belongs -/
theorem spot_ok {w now a : Nat} {c : List AV} (hw : (Fct.pt w 0 c).holds S ∧ w < S.next) (hc : c[0]? = some (I now)) (hn : now ≤ 1099511627776) (ha : a ≤ 1099511627776) :
    wpC EM (.fn (.func 171) [] []) [.ptr w 0, I (a : Int)] S fun r S' => r = .agg [I (lev now a), I (slo now a)] ∧ Grows S S' := by
  refine wpC_fn (b := Tryz.a171) rfl rfl ?_
  have H : Cx S [] S [] [.pt w 0 c] := Cx.enter (by
    intro φ hφ
    simp only [List.mem_singleton] at hφ
    subst hφ
    exact ⟨hw.1, fun id hid => by simp only [Fct.ids, List.mem_singleton] at hid; subst hid; exact hw.2⟩)
  have hl : lev now a ≤ 10 := lev_le (by omega) (by omega)
  unfold Tryz.a171 
  refine wp_fin ?_
  refine wp_alloc H fun p S1 H => ?_
  try(refine zz ?_;(repeat constructor);intro _)
  refine wp_load1 (id := w) (j := 0) H (by repeat (first | exact List.Mem.head _ | apply List.Mem.tail)) hc ?_
  refine wp_op (xor64 (by omega) (by omega)) ?_
  have hx : a ^^^ now < 2 ^ 63 := Nat.xor_lt_two_pow (by omega) (by omega)
  refine wp_conv (c := ((a ^^^ now : Nat) : Int)) (by rw [wrapF_eq, IntKind.wrap_u64]; omega) ?_
  refine wp_callV H (len64_ok (by omega)) fun S2 H => ?_
  have fin : ∀ (v1 : AV) (l : Nat) T, l = lev now a → v1 = .ptr p 0 → Cx S [] T [.obj p (.row [I 0, I 0])] [.pt w 0 c] → wp EM (Tryz.a171x1 [.ptr w 0, I (a : Int)] v1 [I (l : Int)]) T (fun t vs S' => (t = .normal ∨ t = .ret) ∧ wp EM (.op (.load 2 true (nth vs 0)) fun v2 => .ret .ret [v2]) S' fun t vs S' => t = .ret ∧ oneOf vs = .agg [I (lev now a), I (slo now a)] ∧ Grows S S') := by
    rintro v1 l T rfl rfl H
    unfold Tryz.a171x1 
    refine wp_mul (c := ((4 * lev now a : Nat) : Int)) (by rw [wrap64 (by omega) (by omega)]; omega) ?_
    refine wp_shrI (s := 4 * lev now a) (by omega) (by omega) ?_
    refine wp_rem (by omega) ?_
    have e1 : ((a / 2 ^ (4 * lev now a) : Nat) : Int).tmod 16 = (slo now a : Int) := by
      unfold slo
      rw [pow16]
      rw [show (16 : Int) = ((16 : Nat) : Int) from rfl, Int.ofNat_tmod]
    rw [e1]
    refine wp_op (v := .agg [I (lev now a), I (slo now a)]) rfl ?_
    refine wp_store H 0 (c := [I 0, I 0]) rfl rfl rfl (by simp) fun S3 H => ?_
    have H : Cx S [] S3 [.obj p (.row [I (lev now a), I (slo now a)])] [.pt w 0 c] := H
    refine wp_ret ⟨.inr rfl, ?_⟩
    refine wp_loadoa H 0 rfl (by simp) ?_
    exact wp_ret ⟨rfl, rfl, H.grows⟩
  have hb := lev_bitlen now a
  refine wp_gtr (fun h => ?_) (fun h => ?_)
  · refine wp_bind (wp_ite_t ?_)
    have hbl := bitlen_le hx
    rw [if_pos (by omega)] at hb
    refine wp_sub (c := ((bitlen (a ^^^ now) - 1 : Nat) : Int)) (by rw [wrap64 (by omega) (by omega)]; omega) ?_
    have e4 : ((bitlen (a ^^^ now) - 1 : Nat) : Int).tdiv 4 = (lev now a : Int) := by
      rw [hb, Int.ofNat_tdiv]; rfl
    refine wp_quo (c := (lev now a : Int)) (by omega) (by rw [e4, wrap64 (by omega) (by omega)]) (wp_ret ?_)
    exact fin _ _ _ rfl rfl H
  · refine wp_bind (wp_ite_f (wp_ret ?_))
    rw [if_neg (by omega)] at hb
    exact fin _ 0 _ hb.symm rfl H
end
end Go.Abs
namespace Go.Abs
variable [Ek]
open Go.Proofs
set_option maxRecDepth 100000
set_option linter.unusedVariables false
section
variable {B0 S : AH} {W : List Nat} {own : List Own} {ro : List Fct}
theorem ord_get {l : List Fi} (h : Ord l) {i j : Nat} (hij : i < j) (hj : j < l.length) : (l[i]'(by omega)).lt l[j] := (List.pairwise_iff_getElem.1 h) i j (by omega) hj hij
theorem search_ok {v : AV} {l : List Fi} {f : Fi} (hv : RoSl S v 2 (fis l)) (ho : Ord l) (hl : l.length < 1000000) :
    wpC EM (.fn (.func 174) [] []) [v, .agg f.cs, .fn (.func 175) [] []] S
      fun r S' => (∃ (i : Nat) (b : Bool), r = .tup [I (i : Int), B b] ∧ i ≤ l.length ∧ (∀ t (h : t < l.length), t < i → l[t].lt f) ∧ (∀ t (h : t < l.length), i ≤ t → ¬ l[t].lt f)) ∧ Grows S S' := by
  refine wpC_fn (b := Tryz.a174) rfl rfl ?_
  have H := Cx.ro1 hv
  rw [Tryz.u174]
  refine wp_box H rfl fun p S1 H => ?_
  refine wp_len H (by repeat (first | exact List.Mem.head _ | apply List.Mem.tail)) ?_
  rw [fis_len]
  refine wp_bind (wp_loop (wpL_inv (fun m vs S1 => ∃ (j i : Nat), vs = [I (j : Int), I (i : Int)] ∧ i ≤ j ∧ j ≤ l.length ∧ m = j - i ∧ (∀ t (h : t < l.length), t < i → l[t].lt f) ∧ (∀ t (h : t < l.length), j ≤ t → ¬ l[t].lt f) ∧ Cx S [] S1 [] [.pt p 0 f.cs, .sl v 2 (fis l)]) ?_ l.length ⟨l.length, 0, rfl, by omega, by omega, by omega, by intro t h h2; omega, by intro t h h2; omega, H⟩))
  rintro m vs S1 ⟨j, i, rfl, hij, hj, rfl, hlo, hhi, H⟩
  refine wp_lss (fun hlt => ?_) (fun hge => ?_)
  · have hlt : i < j := by omega
    try(refine zz ?_;(repeat constructor);intro _)
    refine wp_bind ?_
    refine wp_add64 (by omega) (by omega) ?_
    refine wp_conv (c := ((i + j : Nat) : Int)) (by rw [wrapF_eq, IntKind.wrap_u64]; omega) ?_
    refine wp_shrU (s := 1) (by omega) (by omega) ?_
    refine wp_conv (c := (((i + j) / 2 ^ 1 : Nat) : Int)) (by rw [wrap64 (by omega) (by omega)]) ?_
    have hh : (i + j) / 2 ^ 1 < l.length := by omega
    refine wp_saddr (i := (i + j) / 2 ^ 1) H (by repeat (first | exact List.Mem.head _ | apply List.Mem.tail)) (fis_get hh) fun q qo H1 => ?_
    refine wp_loada (n := 2) H1 (cs := (l[(i + j) / 2 ^ 1]).cs) (by repeat (first | exact List.Mem.head _ | apply List.Mem.tail)) (Nat.le_refl _) ?_
    refine wp_loada (n := 2) H1 (id := p) (off := 0) (cs := f.cs) (by repeat (first | exact List.Mem.head _ | apply List.Mem.tail)) (Nat.le_refl _) ?_
    refine wp_callV H1 (order_ok (a := l[(i + j) / 2 ^ 1]) (b := f)) fun S2 H2 => ?_
    refine wp_lss (fun hc => ?_) (fun hc => ?_)
    · refine wp_bind (wp_ite_t ?_)
      have hc : l[(i + j) / 2 ^ 1].lt f := ord_cmp.1 hc
      refine wp_add64 (by omega) (by omega) (wp_ret ?_)
      show wp EM _ _ _
      refine wp_ret ?_
      show wp EM _ _ _
      refine wp_ret (.inl ⟨rfl, j - ((i + j) / 2 + 1), by omega, j, (i + j) / 2 + 1, by simp [nth], by omega, hj, rfl, fun t h h2 => ?_, hhi, H2.tl⟩)
      by_cases e : t = (i + j) / 2 ^ 1
      · subst e; exact hc
      · exact Fi.lt_trans (ord_get ho (i := t) (j := (i + j) / 2 ^ 1) (by omega) hh) hc
    · refine wp_bind (wp_ite_f (wp_ret ?_))
      have hc : ¬ l[(i + j) / 2 ^ 1].lt f := fun h => by have := ord_cmp.2 h; omega
      show wp EM _ _ _
      refine wp_ret ?_
      show wp EM _ _ _
      refine wp_ret (.inl ⟨rfl, (i + j) / 2 - i, by omega, (i + j) / 2, i, by simp [nth], by omega, by omega, rfl, hlo, fun t h h2 => ?_, H2.tl⟩)
      by_cases e : t = (i + j) / 2 ^ 1
      · subst e; exact hc
      · exact fun ht => hc (Fi.lt_trans (ord_get ho (i := (i + j) / 2 ^ 1) (j := t) (by omega) h) ht)
  · have : i = j := by omega
    subst this
    try(refine zz ?_;(repeat constructor);intro _)
    refine wp_ret (.inr ⟨by simp, ?_⟩)
    show wp EM _ _ _
    refine wp_lss (fun h => ?_) (fun h => ?_)
    · have h : i < l.length := by omega
      skip
      try(refine zz ?_;(repeat constructor);intro _)
      refine wp_saddr (i := i) H (by repeat (first | exact List.Mem.head _ | apply List.Mem.tail)) (fis_get h) fun q qo H1 => ?_
      try(refine zz ?_;(repeat constructor);intro _)
      refine wp_loada (n := 2) H1 (cs := (l[i]).cs) (by repeat (first | exact List.Mem.head _ | apply List.Mem.tail)) (Nat.le_refl _) ?_
      try(refine zz ?_;(repeat constructor);intro _)
      refine wp_loada (n := 2) H1 (id := p) (off := 0) (cs := f.cs) (by repeat (first | exact List.Mem.head _ | apply List.Mem.tail)) (Nat.le_refl _) ?_
      skip
      try(refine zz ?_;(repeat constructor);intro _)
      refine wp_callV H1 (order_ok (a := l[i]) (b := f)) fun S2 H2 => ?_
      try(refine zz ?_;(repeat constructor);intro _)
      refine wp_op e_eql ?_
      try(refine zz ?_;(repeat constructor);intro _)
      exact wp_ret ⟨rfl, ⟨i, _, rfl, by omega, hlo, hhi⟩, H2.grows⟩
    · skip
      try(refine zz ?_;(repeat constructor);intro _)
      exact wp_ret ⟨rfl, ⟨i, _, rfl, by omega, hlo, hhi⟩, H.grows⟩
theorem strF : isStructB EM.P 64 = true := by kernel_rfl
theorem flatF2 : flatT EM.P 2 64 = some [some .i64, some .i64] := by kernel_rfl
theorem grdF : EM.P.eqGuardType EM.P.depth 64 = false := by kernel_rfl
theorem cs_toVs (f : Fi) : toVs f.cs = some [.int .i64 f.id, .int .i64 f.tm] := by simp [Fi.cs, toVs, toV]
theorem e_eqF {a b : Fi} {n : Bool} : evalOp EM.P (.eq 64 n (.agg a.cs) (.agg b.cs)) S = some (B (if n then !(decide (a = b)) else decide (a = b)), S) := by
  obtain ⟨fs, hu⟩ := isStructB_some strF
  have h := e_eqs (M := EM) (S := S) (n := n) flatF2 (by omega) hu grdF (cs_toVs a) (cs_toVs b) rfl rfl
  have e : eqVs [.int .i64 a.id, .int .i64 a.tm] [.int .i64 b.id, .int .i64 b.tm] = decide (a = b) := by
    obtain ⟨a1, a2⟩ := a
    obtain ⟨b1, b2⟩ := b
    rw [Bool.eq_iff_iff]
    simp [eqVs, eqV]
    omega
  rw [e] at h
  exact h
theorem isIt_ok {p : Nat} {a f : Fi} (H0 : Cx B0 W S own ro) (hp : Fct.pt p 0 f.cs ∈ ro) : wpC EM (.fn (.func 173) [] [.ptr p 0]) [.agg a.cs] S fun r S' => r = B (decide (a = f)) ∧ Grows S S' := by
  refine wpC_fn (b := Tryz.a173) rfl rfl ?_
  have H : Cx S [] S [] [.pt p 0 f.cs] := Cx.enter fun φ hφ => by
    simp only [List.mem_singleton] at hφ
    subst hφ
    exact ⟨H0.rh _ hp, fun id hid => (H0.ri _ hp id hid).1⟩
  rw [Tryz.u173]
  refine wp_box H rfl fun q S1 H => ?_
  refine wp_loada (n := 2) H (id := q) (off := 0) (cs := a.cs) (by repeat (first | exact List.Mem.head _ | apply List.Mem.tail)) (Nat.le_refl _) ?_
  refine wp_loada (n := 2) H (id := p) (off := 0) (cs := f.cs) (by repeat (first | exact List.Mem.head _ | apply List.Mem.tail)) (Nat.le_refl _) ?_
  refine wp_op e_eqF ?_
  exact wp_ret ⟨rfl, rfl, H.grows⟩
theorem index_ok {p n : Nat} {v : AV} {l : List Fi} {f : Fi} (H0 : Cx B0 W S own ro) (hp : Fct.pt p 0 f.cs ∈ ro) (hm : own[n]? = some (.sl v 2 (fis l))) (hl : l.length < 1000000) {pre suf : List Fi} (he : l = pre ++ f :: suf) (hpre : f ∉ pre) :
    wpC EM (.fn (.func 257) [] []) [v, .fn (.func 173) [] [.ptr p 0]] S fun r S' => r = I (pre.length : Int) ∧ Grows S S' := by
  refine wpC_fn (b := Tryz.a257) rfl rfl ?_
  have hv := H0.ownSl hm
  have H : Cx S [] S [] [.pt p 0 f.cs, .sl v 2 (fis l)] := Cx.enter fun φ hφ => by
    simp only [List.mem_cons, List.not_mem_nil, or_false] at hφ
    rcases hφ with rfl | rfl
    · exact ⟨H0.rh _ hp, fun id hid => (H0.ri _ hp id hid).1⟩
    · exact hv
  rw [Tryz.u257]
  refine wp_len H (by repeat (first | exact List.Mem.head _ | apply List.Mem.tail)) ?_
  rw [fis_len]
  have hll : pre.length < l.length := by rw [he]; simp
  refine wp_bind (wp_loop (wpL_inv (fun m vs S1 => ∃ (i : Nat) (u : AV), vs = [I (i : Int), u] ∧ i ≤ pre.length ∧ m = l.length - i ∧ Cx S [] S1 [] [.pt p 0 f.cs, .sl v 2 (fis l)]) ?_ l.length ⟨0, _, rfl, by omega, by omega, H⟩))
  rintro m vs S1 ⟨i, u, rfl, hi, rfl, H⟩
  have hil : i < l.length := by omega
  refine wp_lss_t (by omega) ?_
  try(refine zz ?_;(repeat constructor);intro _)
  refine wp_bind ?_
  refine wp_saddr (i := i) H (by repeat (first | exact List.Mem.head _ | apply List.Mem.tail)) (fis_get hil) fun q qo H1 => ?_
  refine wp_loada (n := 2) H1 (cs := (l[i]).cs) (by repeat (first | exact List.Mem.head _ | apply List.Mem.tail)) (Nat.le_refl _) ?_
  refine wp_callV H1 (isIt_ok (a := l[i]) H1 (by repeat (first | exact List.Mem.head _ | apply List.Mem.tail))) fun S2 H2 => ?_
  by_cases e : i = pre.length
  · have : l[i] = f := by subst e; simp [he]
    rw [this, decide_eq_true rfl]
    try(refine zz ?_;(repeat constructor);intro _)
    exact wp_ret (.inr ⟨by simp, rfl, by rw [e]; rfl, H2.grows⟩)
  · have : l[i] ≠ f := by
      intro h
      apply hpre
      have hip : i < pre.length := by omega
      have : l[i] = pre[i] := by simp only [he]; rw [List.getElem_append_left hip]
      rw [← h, this]; exact List.getElem_mem hip
    rw [decide_eq_false this]
    try(refine zz ?_;(repeat constructor);intro _)
    refine wp_ret ?_
    show wp EM _ _ _
    exact wp_add64 (by omega) (by omega) (wp_ret (.inl ⟨rfl, l.length - (i + 1), by omega, i + 1, _, rfl, by omega, rfl, H2.tl⟩))
end
end Go.Abs
namespace Go.Abs
variable [Ek]
open Go.Proofs
set_option maxRecDepth 100000
set_option linter.unusedVariables false
section
variable {B0 S : AH} {W : List Nat} {own : List Own} {ro : List Fct}
theorem mid_set {α : Type} (a b : List α) (x y : α) (c : List α) : (a ++ b ++ x :: y :: c).set (a.length + b.length) y = a ++ (b ++ [y]) ++ y :: c := by
  rw [show a.length + b.length = (a ++ b).length by simp, List.set_append_right _ _ (Nat.le_refl _), Nat.sub_self]
  simp
theorem delete_ok {p n : Nat} {v : AV} {l : List Fi} {f : Fi} (H : Cx B0 W S own ro) (hp : Fct.pt p 0 f.cs ∈ ro) (hm : own[n]? = some (.sl v 2 (fis l))) (hl : l.length < 1000000) {pre suf : List Fi} (he : l = pre ++ f :: suf) (hpre : f ∉ pre) (hsuf : f ∉ suf) :
    wpC EM (.fn (.func 172) [] []) [v, .fn (.func 173) [] [.ptr p 0]] S fun r S' => Cx B0 W S' (own.set n (.sl r 2 (fis (pre ++ suf)))) ro := by
  refine wpC_fn (b := Tryz.a172) rfl rfl ?_
  have hn : n < own.length := (List.getElem?_eq_some_iff.1 hm).1
  have hlen : l.length = pre.length + 1 + suf.length := by rw [he]; simp; omega
  rw [Tryz.u172]
  refine wp_callV H (index_ok H hp hm hl he hpre) fun S1 H => ?_
  refine wp_eql_f (by omega) ?_
  try(refine zz ?_;(repeat constructor);intro _)
  refine wp_add64 (by omega) (by omega) ?_
  refine wp_bind (wp_loop (wpL_inv (fun m vs S2 => ∃ (t : Nat) (x : Fi), m = suf.length - t ∧ t ≤ suf.length ∧ vs = [I ((pre.length + t + 1 : Nat) : Int), I ((pre.length + t : Nat) : Int)] ∧ Cx B0 W S2 (own.set n (.sl v 2 (fis (pre ++ suf.take t ++ x :: suf.drop t)))) ro) ?_ suf.length ⟨0, f, rfl, by omega, by simp, ?_⟩))
  · rintro m vs S2 ⟨t, x, rfl, ht, rfl, H⟩
    have hm2 : (own.set n (.sl v 2 (fis (pre ++ suf.take t ++ x :: suf.drop t))))[n]? = some (.sl v 2 (fis (pre ++ suf.take t ++ x :: suf.drop t))) := by rw [List.getElem?_set]; simp [hn]
    have hL : (pre ++ suf.take t ++ x :: suf.drop t).length = l.length := by rw [hlen]; simp; omega
    refine wp_leno H n hm2 ?_
    rw [fis_len, hL]
    refine wp_lss (fun hlt => ?_) (fun hge => ?_)
    · have hlt : t < suf.length := by omega
      have hd : suf.drop t = suf[t] :: suf.drop (t + 1) := List.drop_eq_getElem_cons hlt
      have hg : (pre ++ suf.take t ++ x :: suf.drop t)[pre.length + t + 1]? = some suf[t] := by
        have e1 : (pre ++ suf.take t).length = pre.length + t := by simp; omega
        rw [List.getElem?_append_right (by omega), e1, show pre.length + t + 1 - (pre.length + t) = 1 by omega, hd]; rfl
      try(refine zz ?_;(repeat constructor);intro _)
      refine wp_bind ?_
      have hg2 : (fis (pre ++ suf.take t ++ x :: suf.drop t))[pre.length + t + 1]? = some suf[t].cs := by unfold fis; rw [List.getElem?_map, hg]; rfl
      refine wp_saddro (i := pre.length + t + 1) H n hm2 hg2 fun q qo hq => ?_
      refine wp_loadFn (j := 0) (n := 2) hq (Nat.le_refl _) ?_
      refine wp_tmp2 (x := I (suf[t].id : Int)) (y := I (suf[t].tm : Int)) H fun id S3 H => ?_
      refine wp_loada (n := 2) H (id := id) (off := 0) (cs := suf[t].cs) (by repeat (first | exact List.Mem.head _ | apply List.Mem.tail)) (Nat.le_refl _) ?_
      refine wp_callV H (isIt_ok (a := suf[t]) (f := f) H (List.mem_cons_of_mem _ hp)) fun S4 H => ?_
      have hne : suf[t] ≠ f := fun e => hsuf (e ▸ List.getElem_mem hlt)
      rw [decide_eq_false hne]
      refine wp_op (v := B true) rfl ?_
      refine wp_bind (wp_ite_t ?_)
      refine wp_loada (n := 2) H (id := id) (off := 0) (cs := suf[t].cs) (by repeat (first | exact List.Mem.head _ | apply List.Mem.tail)) (Nat.le_refl _) ?_
      refine wp_storeE (i := pre.length + t) (y := .agg suf[t].cs) H n hm2 (by rw [fis_len, hL]; omega) rfl rfl fun S5 H => ?_
      refine wp_add64 (by omega) (by omega) (wp_ret ?_)
      show wp EM _ _ _
      refine wp_ret ?_
      show wp EM _ _ _
      refine wp_add64 (by omega) (by omega) (wp_ret (.inl ⟨rfl, suf.length - (t + 1), by omega, t + 1, suf[t], rfl, by omega, by simp [nth]; omega, ?_⟩))
      have e1 : (own.set n (.sl v 2 (fis (pre ++ suf.take t ++ x :: suf.drop t)))).set n (.sl v 2 ((fis (pre ++ suf.take t ++ x :: suf.drop t)).set (pre.length + t) (AV.agg suf[t].cs).cells)) = own.set n (.sl v 2 (fis (pre ++ suf.take (t + 1) ++ suf[t] :: suf.drop (t + 1)))) := by
        rw [List.set_set]
        congr 2
        have e2 : (AV.agg suf[t].cs).cells = suf[t].cs := rfl
        rw [e2]
        unfold fis
        rw [← List.map_set]
        congr 1
        have e3 := mid_set pre (suf.take t) x suf[t] (suf.drop (t + 1))
        rw [List.length_take, Nat.min_eq_left ht] at e3
        rw [hd, e3, List.take_succ_eq_append_getElem hlt]
      have H6 : Cx B0 W S5 ((own.set n (.sl v 2 (fis (pre ++ suf.take t ++ x :: suf.drop t)))).set n (.sl v 2 ((fis (pre ++ suf.take t ++ x :: suf.drop t)).set (pre.length + t) (AV.agg suf[t].cs).cells))) ro := H.tl
      rw [e1] at H6
      exact H6
    · have : t = suf.length := by omega
      subst this
      try(refine zz ?_;(repeat constructor);intro _)
      refine wp_ret (.inr ⟨by simp, ?_⟩)
      show wp EM _ _ _
      refine wp_cut (i := pre.length + suf.length) H n hm2 (by rw [fis_len, hL]; omega) rfl fun v1 S3 H => ?_
      refine wp_ret ⟨rfl, ?_⟩
      have e1 : (own.set n (.sl v 2 (fis (pre ++ suf.take suf.length ++ x :: suf.drop suf.length)))).set n (.sl v1 2 ((fis (pre ++ suf.take suf.length ++ x :: suf.drop suf.length)).take (pre.length + suf.length))) = own.set n (.sl v1 2 (fis (pre ++ suf))) := by
        rw [List.set_set]
        congr 2
        rw [← fis_take, List.take_length]
        congr 1
        rw [show pre.length + suf.length = (pre ++ suf).length by simp, List.take_left]
      have H6 : Cx B0 W S3 ((own.set n (.sl v 2 (fis (pre ++ suf.take suf.length ++ x :: suf.drop suf.length)))).set n (.sl v1 2 ((fis (pre ++ suf.take suf.length ++ x :: suf.drop suf.length)).take (pre.length + suf.length)))) ro := H
      rw [e1] at H6
      exact H6
  · have : pre ++ suf.take 0 ++ f :: suf.drop 0 = l := by rw [he]; simp
    rw [this, list_set_self hm]
    exact H
end
end Go.Abs
namespace Go.Abs
variable [Ek]
open Go.Proofs
set_option maxRecDepth 100000
set_option linter.unusedVariables false
section
variable {B0 S : AH} {W : List Nat} {E R : List Own} {ro : List Fct} {w m now : Nat} {Mp : List (Int × AV)} {vs : Nat → AV} {fs : Nat → List Fi}
theorem wp_paddrE {M : Mach} {Q : Post} {k : AV → AC} {len es id o i o' : Nat} (hi : i < len) (he : o + i * es = o') (h : wp M (k (.ptr id o')) S Q) : wp M (.op (.paddr len es (.ptr id o) (I (i : Int))) k) S Q := by
  subst he; exact wp_paddr hi h
theorem slW_one {v : AV} {es : Nat} {L : List (List AV)} (h : slW S v es L) : odd v = false ∧ v.cells = [v] := by
  rcases h with ⟨rfl, _⟩ | ⟨id, off, c, h0, _⟩
  · exact ⟨rfl, rfl⟩
  · rcases h0 with ⟨_, _, _, rfl⟩ | ⟨_, _, _, rfl⟩ <;> exact ⟨rfl, rfl⟩
theorem upd_same {α : Type} (f : Nat → α) (k : Nat) (x : α) : upd f k x k = x := if_pos rfl
theorem undI : EM.P.underlying 3 = some (.int .i64) := by kernel_rfl
theorem put_ok (H : Cx B0 W S (E ++ (wOwn w m (wrow now m vs) Mp vs fs ++ R)) ro) {f : Fi} (hn : now ≤ 1099511627776) (hf : f.tm ≤ 1099511627776) (ho : Ord (fs (spt now f.tm))) (hid : ∀ x ∈ fs (spt now f.tm), x.id ≠ f.id) (hl : (fs (spt now f.tm)).length < 1000) :
    wpC EM (.fn (.func 126) [] []) [.ptr w 0, .agg f.cs] S fun r S' => r = uv ∧ ∃ vs', Cx B0 W S' (E ++ (wOwn w m (wrow now m vs') (mset Mp f.id (.agg f.cs)) vs' (upd fs (spt now f.tm) (ins f (fs (spt now f.tm)))) ++ R)) ro := by
  refine wpC_fn (b := Tryz.a126) rfl rfl ?_
  have hk : spt now f.tm < 176 := spt_lt (by omega) (by omega)
  have hlev : lev now f.tm ≤ 10 := lev_le (by omega) (by omega)
  have hslo := slo_lt16 now f.tm
  generalize hke : spt now f.tm = κ at hk ho hid hl ⊢
  have hoff : 0 + 2 + lev now f.tm * 16 + slo now f.tm * 1 = 2 + κ := by rw [← hke]; unfold spt; omega
  rw [Tryz.u126]
  refine wp_box H rfl fun p S1 H => ?_
  try(refine zz ?_;(repeat constructor);intro _)
  refine wp_load1 (id := p) (j := 1) H (cs := f.cs) (by repeat (first | exact List.Mem.head _ | apply List.Mem.tail)) rfl ?_
  refine wp_callV H (spot_ok (a := f.tm) (H.ownPt wO_row) rfl hn hf) fun S2 H => ?_
  refine wp_tmp2 H fun q S3 H => ?_
  skip
  try(refine zz ?_;(repeat constructor);intro _)
  refine wp_load1 (id := q) (j := 0) H (cs := [I (lev now f.tm : Int), I (slo now f.tm : Int)]) (by repeat (first | exact List.Mem.head _ | apply List.Mem.tail)) rfl ?_
  try(refine zz ?_;(repeat constructor);intro _)
  refine wp_load1 (id := q) (j := 1) H (cs := [I (lev now f.tm : Int), I (slo now f.tm : Int)]) (by repeat (first | exact List.Mem.head _ | apply List.Mem.tail)) rfl ?_
  try(refine zz ?_;(repeat constructor);intro _)
  skip
  refine wp_paddr (by omega) ?_
  refine wp_paddrE (by omega) hoff ?_
  try(refine zz ?_;(repeat constructor);intro _)
  refine wp_row H _ wO_row (wrow_slot hk) ?_
  refine wp_loada (n := 2) H (id := p) (off := 0) (cs := f.cs) (by repeat (first | exact List.Mem.head _ | apply List.Mem.tail)) (Nat.le_refl _) ?_
  refine wp_callG H (search_ok (f := f) (H.ownSl (wO_slot hk)) ho (by omega)) fun v S4 hv H => ?_
  obtain ⟨i, b, rfl, hi, hlo, hhi⟩ := hv
  skip
  try(refine zz ?_;(repeat constructor);intro _)
  refine wp_row H _ wO_row (wrow_slot hk) ?_
  refine wp_loada (n := 2) H (id := p) (off := 0) (cs := f.cs) (by repeat (first | exact List.Mem.head _ | apply List.Mem.tail)) (Nat.le_refl _) ?_
  skip
  refine wp_insert (i := i) (bytes := 16) H _ (wO_slot hk) (by rw [fis_len]; exact hi) rfl rfl rfl (by rw [fis_len]; unfold maxBytes; omega) (by rw [fis_len]; unfold maxLenN; omega) (fun _ => rfl) rfl rfl fun v1 S5 H => ?_
  have e1 : (fis (fs κ)).take i ++ (AV.agg (f.cs.take 2)).cells :: (fis (fs κ)).drop i = fis (ins f (fs κ)) := by
    rw [ins_at hi (fun t h ht => Fi.lt_asymm (hlo t h ht)) (fun h => (Fi.lt_or (hid _ (List.getElem_mem h))).resolve_left (hhi i h (Nat.le_refl _)))]
    unfold fis
    rw [List.map_append, List.map_cons, List.map_take, List.map_drop]
    rfl
  rw [e1, wO_setSlot hk] at H
  try(refine zz ?_;(repeat constructor);intro _)
  have hs : slW S5 v1 2 (fis (ins f (fs κ))) := by
    have h : slW S5 (upd vs κ v1 κ) 2 (fis (upd fs κ (ins f (fs κ)) κ)) := H.oh _ (List.mem_of_getElem? (wO_slot hk))
    rwa [upd_same, upd_same] at h
  refine wp_set1 H _ wO_row (by rw [wrow_len]; omega) (slW_one hs).1 (slW_one hs).2 fun S6 H => ?_
  rw [wrow_set hk, wO_setRow] at H
  try(refine zz ?_;(repeat constructor);intro _)
  refine wp_row H _ wO_row wrow_map ?_
  skip
  try(refine zz ?_;(repeat constructor);intro _)
  refine wp_load1 (id := p) (j := 0) H (cs := f.cs) (by repeat (first | exact List.Mem.head _ | apply List.Mem.tail)) rfl ?_
  refine wp_loada (n := 2) H (id := p) (off := 0) (cs := f.cs) (by repeat (first | exact List.Mem.head _ | apply List.Mem.tail)) (Nat.le_refl _) ?_
  refine wp_mapset H _ undI wO_map fun S7 H => ?_
  rw [wO_setMap] at H
  exact wp_ret ⟨rfl, rfl, _, H.tl.tl⟩
theorem take_none (H : Cx B0 W S (E ++ (wOwn w m (wrow now m vs) Mp vs fs ++ R)) ro) {id : Int} (hg : mget Mp id = none) :
    wpC EM (.fn (.func 125) [] []) [.ptr w 0, I id] S fun r S' => r = uv ∧ Cx B0 W S' (E ++ (wOwn w m (wrow now m vs) Mp vs fs ++ R)) ro := by
  refine wpC_fn (b := Tryz.a125) rfl rfl ?_
  rw [Tryz.u125]
  try(refine zz ?_;(repeat constructor);intro _)
  refine wp_row H _ wO_row wrow_map ?_
  refine wp_lookup2 H _ undI wO_map ?_
  rw [hg]
  try(refine zz ?_;(repeat constructor);intro _)
  skip
  refine wp_tmp2 H fun q S3 H => ?_
  refine wp_op (v := B true) rfl ?_
  try(refine zz ?_;(repeat constructor);intro _)
  exact wp_ret ⟨rfl, rfl, H.tl⟩
theorem take_ok (H : Cx B0 W S (E ++ (wOwn w m (wrow now m vs) Mp vs fs ++ R)) ro) {f : Fi} (hg : mget Mp (f.id : Int) = some (.agg f.cs)) (hn : now ≤ 1099511627776) (hf : f.tm ≤ 1099511627776) {pre suf : List Fi} (he : fs (spt now f.tm) = pre ++ f :: suf) (hpre : f ∉ pre) (hsuf : f ∉ suf) (hl : (fs (spt now f.tm)).length < 1000) :
    wpC EM (.fn (.func 125) [] []) [.ptr w 0, I (f.id : Int)] S fun r S' => r = uv ∧ ∃ vs', Cx B0 W S' (E ++ (wOwn w m (wrow now m vs') (mdel Mp f.id) vs' (upd fs (spt now f.tm) (pre ++ suf)) ++ R)) ro := by
  refine wpC_fn (b := Tryz.a125) rfl rfl ?_
  have hk : spt now f.tm < 176 := spt_lt (by omega) (by omega)
  have hlev : lev now f.tm ≤ 10 := lev_le (by omega) (by omega)
  have hslo := slo_lt16 now f.tm
  generalize hke : spt now f.tm = κ at hk he hl ⊢
  have hoff : 0 + 2 + lev now f.tm * 16 + slo now f.tm * 1 = 2 + κ := by rw [← hke]; unfold spt; omega
  rw [Tryz.u125]
  try(refine zz ?_;(repeat constructor);intro _)
  refine wp_row H _ wO_row wrow_map ?_
  refine wp_lookup2 H _ undI wO_map ?_
  rw [hg]
  try(refine zz ?_;(repeat constructor);intro _)
  skip
  refine wp_tmp2 (x := I (f.id : Int)) (y := I (f.tm : Int)) H fun p S3 H => ?_
  refine wp_op (v := B false) rfl ?_
  try(refine zz ?_;(repeat constructor);intro _)
  skip
  refine wp_load1 (id := p) (j := 1) H (cs := f.cs) (by repeat (first | exact List.Mem.head _ | apply List.Mem.tail)) rfl ?_
  refine wp_callV H (spot_ok (a := f.tm) (H.ownPt wO_row) rfl hn hf) fun S2 H => ?_
  refine wp_tmp2 H fun q S3 H => ?_
  try(refine zz ?_;(repeat constructor);intro _)
  refine wp_load1 (id := q) (j := 0) H (cs := [I (lev now f.tm : Int), I (slo now f.tm : Int)]) (by repeat (first | exact List.Mem.head _ | apply List.Mem.tail)) rfl ?_
  skip
  try(refine zz ?_;(repeat constructor);intro _)
  refine wp_load1 (id := q) (j := 1) H (cs := [I (lev now f.tm : Int), I (slo now f.tm : Int)]) (by repeat (first | exact List.Mem.head _ | apply List.Mem.tail)) rfl ?_
  try(refine zz ?_;(repeat constructor);intro _)
  refine wp_paddr (by omega) ?_
  refine wp_paddrE (by omega) hoff ?_
  skip
  try(refine zz ?_;(repeat constructor);intro _)
  refine wp_row H _ wO_row (wrow_slot hk) ?_
  refine wp_call (wpC_mono (delete_ok (f := f) (p := p) H (List.mem_cons_of_mem _ (List.Mem.head _)) (wO_slot hk) (by omega) he hpre hsuf) fun v1 S5 H => ?_)
  rw [wO_setSlot hk] at H
  have hs : slW S5 v1 2 (fis (pre ++ suf)) := by
    have h : slW S5 (upd vs κ v1 κ) 2 (fis (upd fs κ (pre ++ suf) κ)) := H.oh _ (List.mem_of_getElem? (wO_slot hk))
    rwa [upd_same, upd_same] at h
  try(refine zz ?_;(repeat constructor);intro _)
  refine wp_set1 H _ wO_row (by rw [wrow_len]; omega) (slW_one hs).1 (slW_one hs).2 fun S6 H => ?_
  rw [wrow_set hk, wO_setRow] at H
  skip
  try(refine zz ?_;(repeat constructor);intro _)
  refine wp_row H _ wO_row wrow_map ?_
  refine wp_mapdel H _ undI wO_map fun S7 H => ?_
  rw [wO_setMap] at H
  exact wp_ret ⟨rfl, rfl, _, H.tl.tl⟩
end
end Go.Abs
namespace Go.Abs
variable [Ek]
open Go.Proofs
set_option maxRecDepth 100000
set_option linter.unusedVariables false
section
variable {B0 S : AH} {W : List Nat} {own : List Own} {ro : List Fct}
theorem wp_aidx {M : Mach} {Q : Post} {k : AV → AC} {len i : Nat} {cs : List AV} {v : AV} (hi : i < len) (hv : cs[i]? = some v) (h : wp M (k v) S Q) : wp M (.op (.aidx len 1 false (.agg cs) (I (i : Int))) k) S Q := by
  refine wp_op (v := v) ?_ h
  show pur (pAidx len 1 false (.agg cs) (I (i : Int))) S = _
  have hidx : idx? (I (i : Int)) len = some i := by
    show below i len = some i
    unfold below; rw [ble_t hi]
  have h1 : asAgg (.agg cs) = some cs := rfl
  unfold pAidx
  simp only [h1, hidx]
  have : mkPart false cs (Nat.mul i 1) 1 = some v := mkPart_one (by show cs[i * 1]? = _; rw [Nat.mul_one]; exact hv)
  rw [this]; rfl
theorem wp_lenE {M : Mach} {Q : Post} {k : AV → AC} {v : AV} {es : Nat} {L : List (List AV)} (hs : slOk S v es L) (h : wp M (k (I L.length)) S Q) : wp M (.op (.len false v) k) S Q := wp_op (slOk_len hs) h
theorem wp_elem {M : Mach} {Q : Post} {k : AV → AC} {v : AV} {es i : Nat} {L : List (List AV)} {x : List AV} (hs : slOk S v es L) (hi : L[i]? = some x) (h : ∀ id off, (Fct.pt id off x).holds S → wp M (k (.ptr id off)) S Q) : wp M (.op (.saddr es v (I (i : Int))) k) S Q := by
  obtain ⟨id, off, h1, h2, _⟩ := slOk_elem (M := M) hs hi
  exact wp_op h1 (h id off h2)
def hasW (w m now : Nat) (Mp : List (Int × AV)) (vs : Nat → AV) (fs : Nat → List Fi) (own : List Own) : Prop := ∃ E R, own = E ++ (wOwn w m (wrow now m vs) Mp vs fs ++ R)
theorem hasW.cons {w m now : Nat} {Mp : List (Int × AV)} {vs : Nat → AV} {fs : Nat → List Fi} {own : List Own} (x : Own) (h : hasW w m now Mp vs fs own) : hasW w m now Mp vs fs (x :: own) := by
  obtain ⟨E, R, rfl⟩ := h; exact ⟨x :: E, R, rfl⟩
theorem hasW.app {w m now : Nat} {Mp : List (Int × AV)} {vs : Nat → AV} {fs : Nat → List Fi} {own : List Own} (E : List Own) (h : hasW w m now Mp vs fs own) : hasW w m now Mp vs fs (E ++ own) := by
  obtain ⟨E', R, rfl⟩ := h; exact ⟨E ++ E', R, by rw [List.append_assoc]⟩
def aggs (l : List Fi) : List AV := l.map fun f => .agg f.cs
variable {w m now : Nat} {Mp : List (Int × AV)} {vs : Nat → AV} {fs : Nat → List Fi}
theorem hasW.slot (h : hasW w m now Mp vs fs own) (H : Cx B0 W S own ro) {k : Nat} (hk : k < 176) : slOk S (vs k) 2 (fis (fs k)) := by
  obtain ⟨E, R, rfl⟩ := h
  exact ownSl_ok (H.oh _ (List.mem_of_getElem? (wO_slot hk)))
theorem hasW.row (h : hasW w m now Mp vs fs own) (H : Cx B0 W S own ro) : S.get w = some (.row (wrow now m vs)) := by
  obtain ⟨E, R, rfl⟩ := h
  exact H.oh _ (List.mem_of_getElem? wO_row)
theorem hasW.pt (h : hasW w m now Mp vs fs own) (H : Cx B0 W S own ro) : (Fct.pt w 0 (wrow now m vs)).holds S ∧ w < S.next := by
  obtain ⟨E, R, rfl⟩ := h
  exact H.ownPt wO_row
theorem row_drives {bx bl l : Nat} (hl : l < 11) (hbx : Fct.pt bx 0 [.ptr w 0] ∈ ro) (hbl : Fct.pt bl 0 [I (l : Int)] ∈ ro) (hlen : ∀ k, (fs k).length < 1000) :
    Drives EM B0 W ro (.fn (.func 322) [] [.ptr bx 0, .ptr bl 0]) ((List.range 16).flatMap fun s => aggs (fs (l * 16 + s))) (hasW w m now Mp vs fs) := by
  intro y P Stop hok hT E own S ro' hro hP H
  refine wpC_fn (b := Tryz.a322) rfl rfl ?_
  rw [Tryz.u322]
  refine wp_load0 H (hro _ hbx) rfl ?_
  refine wp_load0 H (hro _ hbl) rfl ?_
  try(refine zz ?_;(repeat constructor);intro _)
  refine wp_paddrE (i := l) (o' := 2 + l * 16) hl (by show 0 + 2 + l * 16 = _; omega) ?_
  refine wp_op (e_loadn (row_cells (((hok _ _ hP).app E).row H)) (by rw [wrow_len]; omega)) ?_
  have hcell : ∀ s, s < 16 → (((wrow now m vs).drop (2 + l * 16)).take 16)[s]? = some (vs (l * 16 + s)) := by
    intro s hs
    rw [List.getElem?_take, if_pos hs, List.getElem?_drop, show 2 + l * 16 + s = 2 + (l * 16 + s) by omega, wrow_slot (by omega)]
  skip
  let g : Nat → List AV := fun s => aggs (fs (l * 16 + s))
  refine wp_bind (wp_loop (wpL_inv (fun k vs1 S1 => ∃ (s : Nat) (u : AV) (own1 : List Own), vs1 = [I (s : Int), u] ∧ s ≤ 16 ∧ k = 16 - s ∧ P ((List.range s).flatMap g) own1 ∧ Cx B0 W S1 (E ++ own1) ro') ?_ 16 ⟨0, _, own, rfl, by omega, by omega, hP, H⟩))
  rintro k vs1 S1 ⟨s, u, own1, rfl, hs, rfl, hP, H⟩
  skip
  refine wp_lss (fun hlt => ?_) (fun hge => ?_)
  · have hlt : s < 16 := by omega
    try(refine zz ?_;(repeat constructor);intro _)
    skip
    refine wp_bind ?_
    refine wp_aidx (i := s) hlt (hcell s hlt) ?_
    refine wp_lenE (((hok _ _ hP).app E).slot H (k := l * 16 + s) (by omega)) ?_
    rw [fis_len]
    have hgl : (g s).length = (fs (l * 16 + s)).length := by simp [g, aggs]
    have hL := hlen (l * 16 + s)
    obtain ⟨rst, hrst⟩ := flat_split g hlt
    refine wp_bind (wp_loop (wpL_inv (fun k vs1 S1 => ∃ (j : Nat) (own1 : List Own), vs1 = [I (j : Int)] ∧ j ≤ (fs (l * 16 + s)).length ∧ k = (fs (l * 16 + s)).length - j ∧ P ((List.range s).flatMap g ++ (g s).take j) own1 ∧ Cx B0 W S1 (E ++ own1) ro') ?_ (fs (l * 16 + s)).length ⟨0, own1, rfl, by omega, by omega, by simpa using hP, H⟩))
    rintro k vs1 S1 ⟨j, own1, rfl, hj, rfl, hP, H⟩
    skip
    refine wp_lss (fun hlt2 => ?_) (fun hge2 => ?_)
    · have hlt2 : j < (fs (l * 16 + s)).length := by omega
      try(refine zz ?_;(repeat constructor);intro _)
      refine wp_bind ?_
      skip
      refine wp_elem (i := j) (((hok _ _ hP).app E).slot H (k := l * 16 + s) (by omega)) (fis_get hlt2) fun q qo hq => ?_
      refine wp_loadFn (j := 0) (n := 2) hq (Nat.le_refl _) ?_
      refine wp_tmp2 (x := I ((fs (l * 16 + s))[j].id : Int)) (y := I ((fs (l * 16 + s))[j].tm : Int)) H fun p S2 H => ?_
      refine wp_loada (n := 2) H (id := p) (off := 0) (cs := (fs (l * 16 + s))[j].cs) (by repeat (first | exact List.Mem.head _ | apply List.Mem.tail)) (Nat.le_refl _) ?_
      have hge : (g s)[j]? = some (.agg (fs (l * 16 + s))[j].cs) := by simp [g, aggs, hlt2]
      have hsplit : (List.range 16).flatMap g = ((List.range s).flatMap g ++ (g s).take j) ++ .agg (fs (l * 16 + s))[j].cs :: ((g s).drop (j + 1) ++ rst) := by
        rw [hrst, List.append_assoc]
        congr 1
        have : g s = (g s).take j ++ (.agg (fs (l * 16 + s))[j].cs :: (g s).drop (j + 1)) := by
          conv => lhs; rw [← List.take_append_drop j (g s)]
          congr 1
          rw [List.drop_eq_getElem_cons (by omega)]
          congr 1
          have := (List.getElem?_eq_some_iff.1 hge).2
          exact this
        conv => lhs; rw [this]
        simp
      refine wp_call (wpC_mono (hT _ _ _ hsplit E own1 S2 _ (fun φ h => List.mem_cons_of_mem _ (hro φ h)) hP H) fun v S3 q => ?_)
      obtain ⟨own2, H3, q⟩ := q
      skip
      rcases q with ⟨rfl, hP3⟩ | ⟨rfl, hS3⟩
      · refine wp_op (v := B false) rfl ?_
        try(refine zz ?_;(repeat constructor);intro _)
        refine wp_ret ?_
        show wp EM _ _ _
        skip
        refine wp_add64 (by omega) (by omega) (wp_ret (.inl ⟨rfl, _, (by omega : (fs (l * 16 + s)).length - (j + 1) < (fs (l * 16 + s)).length - j), j + 1, own2, rfl, by omega, rfl, ?_, H3.tl⟩))
        have : (g s).take (j + 1) = (g s).take j ++ [.agg (fs (l * 16 + s))[j].cs] := by
          rw [List.take_add_one, hge]; rfl
        rw [this, ← List.append_assoc]; exact hP3
      · refine wp_op (v := B true) rfl ?_
        try(refine zz ?_;(repeat constructor);intro _)
        refine wp_ret (.inr ⟨by simp, ?_⟩)
        exact .inr ⟨by simp, rfl, own2, H3.tl, .inr hS3⟩
    · try(refine zz ?_;(repeat constructor);intro _)
      have : j = (fs (l * 16 + s)).length := by omega
      subst this
      refine wp_ret (.inr ⟨by simp, ?_⟩)
      show wp EM _ _ _
      refine wp_ret ?_
      show wp EM _ _ _
      skip
      refine wp_add64 (by omega) (by omega) (wp_ret (.inl ⟨rfl, 16 - (s + 1), by omega, s + 1, _, own1, rfl, by omega, rfl, ?_, H⟩))
      rw [flat_succ]
      rw [List.take_of_length_le (by rw [hgl]; omega)] at hP
      exact hP
  · have : s = 16 := by omega
    subst this
    try(refine zz ?_;(repeat constructor);intro _)
    refine wp_ret (.inr ⟨by simp, ?_⟩)
    show wp EM _ _ _
    exact wp_ret ⟨rfl, own1, H, .inl hP⟩
end
end Go.Abs
namespace Go.Abs
variable [Ek]
open Go.Proofs
set_option maxRecDepth 100000
set_option linter.unusedVariables false
section
variable {B0 S : AH} {W : List Nat} {own : List Own} {ro : List Fct}
variable {w m now : Nat} {Mp : List (Int × AV)} {vs : Nat → AV} {fs : Nat → List Fi}
def lvl (fs : Nat → List Fi) (l : Nat) : List AV := (List.range 16).flatMap fun s => aggs (fs (l * 16 + s))
theorem mem_lvl {l : Nat} {e : AV} (h : e ∈ lvl fs l) : ∃ f : Fi, e = .agg f.cs := by
  obtain ⟨s, _, hs⟩ := List.mem_flatMap.1 h
  obtain ⟨f, _, rfl⟩ := List.mem_map.1 hs
  exact ⟨f, rfl⟩
theorem all_drives {bw : Nat} (hbw : Fct.pt bw 0 [.ptr w 0] ∈ ro) (hlen : ∀ k, (fs k).length < 1000) :
    Drives EM B0 W ro (.fn (.func 232) [] [.ptr bw 0]) ((List.range 11).flatMap (lvl fs)) (hasW w m now Mp vs fs) := by
  intro y P Stop hok hT E own S ro' hro hP H
  refine wpC_fn (b := Tryz.a232) rfl rfl ?_
  unfold Tryz.a232 
  refine wp_box (x := .yd y) H rfl fun bv S1 H => ?_
  refine wp_bind (wp_loop (wpL_inv (fun k vs1 S1 => ∃ (l : Nat) (own1 : List Own), vs1 = [I (l : Int)] ∧ l ≤ 11 ∧ k = 11 - l ∧ P ((List.range l).flatMap (lvl fs)) own1 ∧ Cx B0 W S1 (E ++ own1) (.pt bv 0 [.yd y] :: ro')) ?_ 11 ⟨0, own, rfl, by omega, by omega, hP, H⟩))
  rintro k vs1 S1 ⟨l, own1, rfl, hl, rfl, hP, H⟩
  unfold Tryz.a232x4 
  refine wp_lss (fun hlt => ?_) (fun hge => ?_)
  · have hlt : l < 11 := by omega
    try(refine zz ?_;(repeat constructor);intro _)
    unfold Tryz.a232x2 
    refine wp_bind ?_
    refine wp_load0 H (List.mem_cons_of_mem _ (hro _ hbw)) rfl ?_
    refine wp_call (wpC_fn (b := Tryz.a233) rfl rfl ?_)
    rw [Tryz.u233]
    refine wp_box (x := .ptr w 0) H rfl fun b1 S2 H => ?_
    refine wp_box (x := I (l : Int)) H rfl fun b2 S3 H => ?_
    refine wp_ret ⟨rfl, ?_⟩
    obtain ⟨rst, hrst⟩ := flat_split (lvl fs) hlt
    refine wp_bind (wp_rngD (row_drives (bx := b1) (bl := b2) (m := m) (now := now) (Mp := Mp) (vs := vs) (fs := fs) hlt (by repeat (first | exact List.Mem.head _ | apply List.Mem.tail)) (by repeat (first | exact List.Mem.head _ | apply List.Mem.tail)) hlen) (fun x own h => h.cons x) (fun i h => by cases h) (fun d own => P ((List.range l).flatMap (lvl fs) ++ d) own) (fun t own => t = .ret ∧ Stop own) (fun d own h => hok _ _ h) ?_ (E := E) (own := own1) (by simpa using hP) H ?_ ?_)
    · intro y' d e r hes E0 own2 S4 ro2 hro2 hP2 H4
      obtain ⟨f, rfl⟩ := mem_lvl (l := l) (fs := fs) (e := e) (by
        have : e ∈ lvl fs l := by show e ∈ (List.range 16).flatMap _; rw [hes]; simp
        exact this)
      unfold Tryz.a232x1 
      refine wp_round2 (x := I (f.id : Int)) (y := I (f.tm : Int)) H4 fun q S5 H5 => ?_
      refine wp_bind ?_
      unfold Tryz.a232x0 
      refine wp_load0 (cs := [.yd y]) H5 (List.mem_cons_of_mem _ (hro2 _ (by repeat (first | exact List.Mem.head _ | apply List.Mem.tail)))) rfl ?_
      refine wp_loada (n := 2) (id := q) (off := 0) (cs := f.cs) H5 (by repeat (first | exact List.Mem.head _ | apply List.Mem.tail)) (Nat.le_refl _) ?_
      have hsplit : (List.range 11).flatMap (lvl fs) = ((List.range l).flatMap (lvl fs) ++ d) ++ .agg f.cs :: (r ++ rst) := by
        rw [hrst]
        have : lvl fs l = d ++ .agg f.cs :: r := hes
        rw [this]; simp
      have H6 : Cx B0 W S5 ((E0 ++ [.obj y' (.loop .busy none 1 fun v6 => Tryz.a232x1 (.ptr bv 0) v6)]) ++ own2) (.pt q 0 [I (f.id : Int), I (f.tm : Int)] :: ro2) := by
        rw [List.append_assoc]; exact H5
      refine wp_call (wpC_mono (hT _ _ _ hsplit _ own2 S5 _ (fun φ h => List.mem_cons_of_mem _ (hro2 φ (by
        refine List.mem_cons_of_mem _ (List.mem_cons_of_mem _ (List.mem_cons_of_mem _ (hro φ h)))))) hP2 H6) fun v S6 q6 => ?_)
      obtain ⟨own3, H7, q6⟩ := q6
      rw [List.append_assoc] at H7
      rcases q6 with ⟨rfl, hP3⟩ | ⟨rfl, hS3⟩
      · refine wp_op (v := B false) rfl ?_
        try(refine zz ?_;(repeat constructor);intro _)
        refine wp_ret ?_
        show wp EM _ _ _
        refine wp_ret ⟨own3, H7.tl, .inl ⟨rfl, ?_⟩⟩
        rw [← List.append_assoc]; exact hP3
      · refine wp_op (v := B true) rfl ?_
        try(refine zz ?_;(repeat constructor);intro _)
        exact wp_ret ⟨own3, H7.tl, .inr ⟨by simp, rfl, hS3⟩⟩
    · intro S4 own2 hP2 H4
      refine wp_ret ?_
      show wp EM _ _ _
      refine wp_ret ?_
      show wp EM _ _ _
      unfold Tryz.a232x3 
      refine wp_add64 (by omega) (by omega) (wp_ret (.inl ⟨rfl, 11 - (l + 1), by omega, l + 1, own2, rfl, by omega, rfl, ?_, H4.tl.tl⟩))
      rw [flat_succ]; exact hP2
    · rintro t S4 own2 ht ⟨rfl, hS⟩ H4
      exact .inr ⟨by simp, rfl, own2, H4.tl.tl.tl, .inr hS⟩
  · have : l = 11 := by omega
    subst this
    try(refine zz ?_;(repeat constructor);intro _)
    refine wp_ret (.inr ⟨by simp, ?_⟩)
    show wp EM _ _ _
    exact wp_ret ⟨rfl, own1, H.tl, .inl hP⟩
end
end Go.Abs
