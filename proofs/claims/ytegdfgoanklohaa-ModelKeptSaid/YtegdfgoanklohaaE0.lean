/- functions of this cut: what they compute, in the abstract machine. Conditions: stated in each theorem -/
import Derived.Test.YtegdfgoanklohaaAc
import Derived.Test.YtegdfgoanklohaaAd
import Derived.Test.YtegdfgoanklohaaT
set_option linter.unusedVariables false
set_option linter.unusedSimpArgs false
namespace Go.Abs
section
variable {M : Mach} {S : AH} {Q : Post} {k : AV → AC}
theorem zA {g : Bool} {o : AOp} (h : wp M (.op o k) S Q) : wp M (.gop (B g) g o k) S Q := wp_gop_t h
theorem zB {g g' : Bool} {o : AOp} (hg : g' = !g) (h : wp M (k uv) S Q) : wp M (.gop (B g) g' o k) S Q := wp_gop_f hg h
theorem zC {g' : Bool} {o : AOp} (h : wp M (k uv) S Q) : wp M (.gop uv g' o k) S Q := wp_gop_u h
theorem zD {g : Bool} {f : AV} {args : List AV} (h : wp M (.call f args k) S Q) : wp M (.gcall (B g) g f args k) S Q := wp_gcall_t h
theorem zE {g g' : Bool} {f : AV} {args : List AV} (hg : g' = !g) (h : wp M (k uv) S Q) : wp M (.gcall (B g) g' f args k) S Q := wp_gcall_f hg h
theorem zF {g' : Bool} {f : AV} {args : List AV} (h : wp M (k uv) S Q) : wp M (.gcall uv g' f args k) S Q := wp_gcall_u h
theorem zG {x y : AC} (h : wp M x S Q) : wp M (.ite (B true) x y) S Q := wp_ite_t h
theorem zH {x y : AC} (h : wp M y S Q) : wp M (.ite (B false) x y) S Q := wp_ite_f h
theorem zI {id off f : Nat} (h : wp M (k (.ptr id (Nat.add off f))) S Q) : wp M (.op (.faddr f (.ptr id off)) k) S Q := wp_faddr h
theorem zJ {id off : Nat} (h : wp M (k (.ptr id off)) S Q) : wp M (.op (.nilchk (.ptr id off)) k) S Q := wp_nilchk h
theorem zK {x : AV} (h : wp M (k x) S Q) : wp M (.op (.mv x) k) S Q := wp_op rfl h
theorem zL {c a b v : AV} (he : pPick c a b = some v) (h : wp M (k v) S Q) : wp M (.op (.pick c a b) k) S Q := wp_op (by show pur (pPick c a b) S = _; rw [he]; rfl) h
theorem zN {i : Nat} {x v : AV} (he : pExtract i x = some v) (h : wp M (k v) S Q) : wp M (.op (.extract i x) k) S Q := wp_op (by show pur (pExtract i x) S = _; rw [he]; rfl) h
end
end Go.Abs
namespace Go.Abs
set_option linter.unusedVariables false
/-! ### where a timer stands in a wheel: plain numbers -/
def lev (now a : Nat) : Nat := if a ^^^ now = 0 then 0 else Nat.log2 (a ^^^ now) / 4
def slo (now a : Nat) : Nat := a / 16 ^ lev now a % 16
theorem shr_xor_eq {a n k : Nat} : (a ^^^ n) / 2 ^ k = 0 ↔ a / 2 ^ k = n / 2 ^ k := by
  rw [← Nat.shiftRight_eq_div_pow, ← Nat.shiftRight_eq_div_pow, ← Nat.shiftRight_eq_div_pow, Nat.shiftRight_xor_distrib]
  constructor
  · intro h
    exact Nat.eq_of_testBit_eq fun i => by
      have := congrArg (fun x => Nat.testBit x i) h
      simp only [Nat.testBit_xor, Nat.zero_testBit] at this
      revert this
      cases Nat.testBit (a >>> k) i <;> cases Nat.testBit (n >>> k) i <;> simp
  · intro h; rw [h, Nat.xor_self]
theorem pow16 (l : Nat) : 16 ^ l = 2 ^ (4 * l) := by rw [show 16 = 2 ^ 4 from rfl, ← Nat.pow_mul]
theorem lev_hi (now a : Nat) : a / 16 ^ (lev now a + 1) = now / 16 ^ (lev now a + 1) := by
  rw [pow16]
  refine shr_xor_eq.1 ?_
  unfold lev
  by_cases h : a ^^^ now = 0
  · rw [h]; simp
  · rw [if_neg h]
    refine Nat.div_eq_of_lt ?_
    have := Nat.lt_log2_self (n := a ^^^ now)
    exact Nat.lt_of_lt_of_le this (Nat.pow_le_pow_right (by omega) (by omega))
theorem lev_lo {now a : Nat} (h : 0 < lev now a) : a / 16 ^ lev now a ≠ now / 16 ^ lev now a := by
  intro e
  rw [pow16] at e
  have := shr_xor_eq.2 e
  unfold lev at h this
  by_cases h0 : a ^^^ now = 0
  · rw [if_pos h0] at h; omega
  · rw [if_neg h0] at h this
    have h1 := Nat.log2_self_le h0
    have h2 : 2 ^ (4 * (Nat.log2 (a ^^^ now) / 4)) ≤ a ^^^ now := Nat.le_trans (Nat.pow_le_pow_right (by omega) (by omega)) h1
    have := Nat.div_eq_zero_iff.1 this
    have h3 : 0 < 2 ^ (4 * (Nat.log2 (a ^^^ now) / 4)) := Nat.two_pow_pos _
    omega
theorem lev_gt {now a : Nat} (hle : now ≤ a) (h : 0 < lev now a) : now / 16 ^ lev now a < a / 16 ^ lev now a := by
  have := Nat.div_le_div_right (c := 16 ^ lev now a) hle
  have := lev_lo h
  omega
theorem div_pow_mono {a n i j : Nat} (hij : i ≤ j) (h : a / 16 ^ i = n / 16 ^ i) : a / 16 ^ j = n / 16 ^ j := by
  obtain ⟨d, rfl⟩ := Nat.exists_eq_add_of_le hij
  rw [Nat.pow_add, ← Nat.div_div_eq_div_mul, ← Nat.div_div_eq_div_mul, h]
/-- a place that is ahead of another one's has the sooner times -/
theorem lev_lt {now a b : Nat} (ha : now ≤ a) (hb : now ≤ b) (h : lev now a < lev now b) : a < b := by
  have h1 := div_pow_mono (show lev now a + 1 ≤ lev now b by omega) (lev_hi now a)
  have h2 := lev_gt hb (by omega)
  rw [← h1] at h2
  exact Nat.lt_of_not_le fun hle => by have := Nat.div_le_div_right (c := 16 ^ lev now b) hle; omega
theorem slo_lt {now a b : Nat} (h : lev now a = lev now b) (hs : slo now a < slo now b) : a < b := by
  have ha := lev_hi now a
  have hb := lev_hi now b
  unfold slo at hs
  rw [h] at ha hs
  generalize lev now b = l at ha hb hs
  have e1 : a / 16 ^ l / 16 = b / 16 ^ l / 16 := by
    rw [Nat.div_div_eq_div_mul, Nat.div_div_eq_div_mul, ← Nat.pow_succ, ha, hb]
  have : a / 16 ^ l < b / 16 ^ l := by omega
  exact Nat.lt_of_not_le fun hle => by have := Nat.div_le_div_right (c := 16 ^ l) hle; omega
theorem lev_le {now a : Nat} (hn : now < 16 ^ 11) (ha : a < 16 ^ 11) : lev now a ≤ 10 := by
  unfold lev
  by_cases h : a ^^^ now = 0
  · rw [if_pos h]; omega
  · rw [if_neg h]
    have h1 : a ^^^ now < 2 ^ 44 := Nat.xor_lt_two_pow (by simpa using ha) (by simpa using hn)
    have := (Nat.log2_lt h).2 h1
    omega
theorem slo_lt16 (now a : Nat) : slo now a < 16 := Nat.mod_lt _ (by omega)
/-- the number of a slot -/
def spt (now a : Nat) : Nat := lev now a * 16 + slo now a
theorem spt_lt {now a : Nat} (hn : now < 16 ^ 11) (ha : a < 16 ^ 11) : spt now a < 176 := by
  have := lev_le hn ha
  have := slo_lt16 now a
  unfold spt; omega
theorem spt_mono {now a b : Nat} (ha : now ≤ a) (hb : now ≤ b) (h : spt now a < spt now b) : a < b := by
  have := slo_lt16 now a
  have := slo_lt16 now b
  unfold spt at h
  by_cases h1 : lev now a < lev now b
  · exact lev_lt ha hb h1
  · exact slo_lt (now := now) (by omega) (by omega)
theorem spt_self (now : Nat) : spt now now = now % 16 := by
  unfold spt slo lev; simp

/-! ### digits -/
def dig (a l : Nat) : Nat := a / 16 ^ l % 16
theorem lev_dig_hi {now a l : Nat} (h : lev now a < l) : dig a l = dig now l := by
  unfold dig
  rw [div_pow_mono (show lev now a + 1 ≤ l by omega) (lev_hi now a)]
theorem lev_dig_ne {now a : Nat} (h : 0 < lev now a) : dig a (lev now a) ≠ dig now (lev now a) := by
  have h1 := lev_lo h
  have h2 := lev_hi now a
  rw [Nat.pow_succ, ← Nat.div_div_eq_div_mul, ← Nat.div_div_eq_div_mul] at h2
  unfold dig
  omega
theorem dig_eq_zero {now a : Nat} (h : lev now a = 0) (hd : dig a 0 = dig now 0) : a = now := by
  have h2 := lev_hi now a
  rw [h] at h2
  unfold dig at hd
  simp at h2 hd
  omega
end Go.Abs
namespace Go.Abs
set_option linter.unusedVariables false
section
variable {M : Mach} {B0 S : AH} {W : List Nat} {own : List Own} {ro : List Fct} {Q : Post} {k : AV → AC}

/-! ### one's own things in another order -/
theorem Cx.perm (H : Cx B0 W S own ro) {own' : List Own} (h : own.Perm own') : Cx B0 W S own' ro where
  next := H.next
  old := H.old
  oh := fun x hx => H.oh x (h.mem_iff.2 hx)
  oi := fun x hx => H.oi x (h.mem_iff.2 hx)
  od := (h.pairwise_iff (fun {x y} hxy id hy hx => hxy id hx hy)).1 H.od
  rh := H.rh
  ri := fun φ hφ id hid => ⟨(H.ri φ hφ id hid).1, fun x hx => (H.ri φ hφ id hid).2 x (h.mem_iff.2 hx)⟩

/-! ### functions that are known without a body -/
theorem wpC_x {f : FuncId} {args : List AV} {g : List AV → AH → Option (AV × AH)} {v : AV} {S' : AH} {Q : AV → AH → Prop} (hk : M.kn.v f args = none) (ht : M.tbl f = none) (hx : M.kn.x f = some g) (h : g args S = some (v, S')) (hq : Q v S') :
    wpC M (.fn (.func f) [] []) args S Q := by
  refine ⟨v, S', ⟨1, fun n hn => ?_⟩, hq⟩
  obtain ⟨n, rfl⟩ : ∃ j, n = j + 1 := ⟨n - 1, by omega⟩
  have e : args ++ [] = args := List.append_nil _
  simp only [callT, appL_eq, List.nil_append, e, hk, ht, hx, h]

theorem take_flat : ∀ {L : List (List AV)} {es : Nat}, (∀ x ∈ L, x.length = es) → ∀ i, L.flatten.take (i * es) = (L.take i).flatten
  | [], es, _, i => by simp
  | y :: L, es, h, 0 => by simp
  | y :: L, es, h, i + 1 => by
    have hy := h y (by simp)
    have ih := take_flat (L := L) (fun z hz => h z (by simp [hz])) i
    simp only [List.flatten_cons, List.take_succ_cons]
    rw [List.take_append, ← ih, List.take_of_length_le (by rw [hy, Nat.succ_mul]; omega)]
    congr 2
    rw [hy, Nat.succ_mul]; omega
theorem drop_flat : ∀ {L : List (List AV)} {es : Nat}, (∀ x ∈ L, x.length = es) → ∀ i, L.flatten.drop (i * es) = (L.drop i).flatten
  | [], es, _, i => by simp
  | y :: L, es, h, 0 => by simp
  | y :: L, es, h, i + 1 => by
    have hy := h y (by simp)
    have ih := drop_flat (L := L) (fun z hz => h z (by simp [hz])) i
    simp only [List.flatten_cons, List.drop_succ_cons]
    rw [List.drop_append, ← ih, List.drop_eq_nil_of_le (by rw [hy, Nat.succ_mul]; omega), List.nil_append]
    congr 1
    rw [hy, Nat.succ_mul]; omega

/-- one more element within a slice of one's own, by slices.Insert -/
theorem wp_insert (H : Cx B0 W S own ro) (n : Nat) {f : FuncId} {v x : AV} {es bytes i : Nat} {z : List AV} {L : List (List AV)} (hm : own[n]? = some (.sl v es L)) (hi : i ≤ L.length) (ho : odd x = false) (hx : x.cells.length = es) (hz : z.length = es)
    (hb : (L.length + 1) * bytes ≤ maxBytes) (hl : L.length + 1 ≤ maxLenN)
    (hk : ∀ a, M.kn.v f a = none) (ht : M.tbl f = none) (hxf : M.kn.x f = some (insK es bytes))
    (h : ∀ v1 S1, Cx B0 W S1 (own.set n (.sl v1 es (L.take i ++ x.cells :: L.drop i))) ro → wp M (k v1) S1 Q) :
    wp M (.op (.bslice es 1 z [(0, es, x)]) fun t => .call (.fn (.func f) [] []) [v, I (i : Int), t] k) S Q := by
  refine wp_op (v := .sl S.next 0 1 1) (S1 := S.new (.row x.cells)) ?_ ?_
  · show nBslice es 1 z [(0, es, x)] S = _
    unfold nBslice
    have e0 : repZero z 1 = z := by simp [repZero, appL_eq]
    have e1 : (not (odd x) && Nat.beq (lenL x.cells) es && Nat.ble (Nat.add 0 es) (lenL z)) = true := by
      rw [lenL_eq, lenL_eq, hx, hz, Nat.beq_refl, ho]
      have : Nat.ble (Nat.add 0 es) es = true := ble_t (by show 0 + es ≤ es; omega)
      rw [this]; rfl
    have e2 : setRange z 0 x.cells = x.cells := by rw [setRange_eq]; simp; omega
    have e3 : (Nat.beq (lenL x.cells) (Nat.mul 1 es) && Nat.beq (lenL z) es) = true := by
      rw [lenL_eq, lenL_eq, hx, hz, Nat.beq_refl]
      have : Nat.mul 1 es = es := Nat.one_mul es
      rw [this, Nat.beq_refl]; rfl
    rw [e0]
    simp only [fillP, e1, e2, e3]
    rfl
  · have K := H.grow (Grows.new S (.row x.cells))
    have hg0 : (S.new (.row x.cells)).get S.next = some (.row x.cells) := get_new_same _ _
    have hlt := fun id hid => (H.oi _ (List.mem_of_getElem? hm) id hid).1
    have q1 : (Nat.ble 1 1 && Nat.ble (0 + 1 * es) (lenL x.cells)) = true := by
      rw [lenL_eq, hx, ble_t (by omega : 0 + 1 * es ≤ es)]; rfl
    have q2 : takeL (1 * es) (dropL 0 x.cells) = x.cells := by rw [takeL_eq, dropL_eq, List.drop_zero, Nat.one_mul, List.take_of_length_le (by omega)]
    have hin : insK es bytes [v, I (i : Int), .sl S.next 0 1 1] (S.new (.row x.cells)) = insTo es bytes v i S.next 1 x.cells (S.new (.row x.cells)) := by
      show (match (S.new (.row x.cells)).get S.next with | some (.row vc) => (match Nat.ble 1 1 && Nat.ble (0 + 1 * es) (lenL vc) with | true => insTo es bytes v i S.next 1 (takeL (1 * es) (dropL 0 vc)) (S.new (.row x.cells)) | false => none) | _ => none) = _
      rw [hg0]
      simp only [q1, q2]
    have hw : slW (S.new (.row x.cells)) v es L := K.oh _ (List.mem_of_getElem? hm)
    rcases hw with ⟨rfl, rfl⟩ | ⟨id, off, c, h0, h1, h2, h3⟩
    · have i0 : i = 0 := by simpa using hi
      subst i0
      refine wp_call (wpC_x (hk _) ht hxf (v := .op ((S.new (.row x.cells)).next) 0 1 1 es) (S' := (S.new (.row x.cells)).new (.row x.cells)) ?_ ?_)
      · rw [hin]
        have g1 : (Nat.beq 0 0 && (Nat.ble (1 * bytes) maxBytes && Nat.ble 1 maxLenN)) = true := by
          rw [ble_t (by simpa using hb), ble_t (by simpa using hl)]; rfl
        show (match Nat.beq 0 0 && (Nat.ble (1 * bytes) maxBytes && Nat.ble 1 maxLenN) with | true => _ | false => _) = _
        rw [g1]
      · refine h _ _ (K.step hm (S1 := (S.new (.row x.cells)).new (.row x.cells)) (x' := .sl (.op (S.new (.row x.cells)).next 0 1 1 es) es ([].take 0 ++ x.cells :: [].drop 0)) (by simp [AH.new]) (fun id hid _ => by rw [AH.get_new, if_neg (by omega)]) ?_ ?_)
        · refine .inr ⟨_, 0, x.cells, .inr ⟨1, by simp, by omega, by simp⟩, get_new_same _ _, by simp [← hx], by simp [hx]⟩
        · intro id hid
          simp only [Own.ids, vids, List.mem_singleton] at hid
          subst hid
          exact ⟨by simp [AH.new], .inr (Nat.le_refl _)⟩
    · have hidv : id ∈ vids v := by rw [h0.ids]; simp
      have hne : id ≠ S.next := by have := hlt id hidv; omega
      have hfl := flatten_length h3
      have hbeq : Nat.beq id S.next = false := by
        cases hq : Nat.beq id S.next with
        | true => exact absurd (Nat.eq_of_beq_eq_true hq) hne
        | false => rfl
      have main : ∀ cap, L.length ≤ cap → off + cap * es ≤ c.length → insRow es bytes id off L.length cap i S.next 1 x.cells (S.new (.row x.cells)) =
          some (.op (S.new (.row x.cells)).next 0 (L.length + 1) (L.length + 1) es, ((S.new (.row x.cells)).kill id).new (.row (L.take i ++ x.cells :: L.drop i).flatten)) := by
        intro cap hc1 hc2
        unfold insRow
        rw [h1]
        have g1 : (not (Nat.beq id S.next) && (Nat.ble (off + cap * es) (lenL c) && (Nat.ble L.length cap && (Nat.ble i L.length && (Nat.ble ((L.length + 1) * bytes) maxBytes && Nat.ble (L.length + 1) maxLenN))))) = true := by
          rw [hbeq, lenL_eq, ble_t hc2, ble_t hc1, ble_t hi, ble_t hb, ble_t hl]; rfl
        have hle : L.length * es ≤ cap * es := Nat.mul_le_mul_right es hc1
        have hie : i * es ≤ L.length * es := Nat.mul_le_mul_right es hi
        have e1 : (c.drop off).take (i * es) = (L.take i).flatten := by
          rw [← take_flat h3, ← h2, List.take_take, Nat.min_eq_left hie]
        have e2 : (c.drop (off + i * es)).take ((L.length - i) * es) = (L.drop i).flatten := by
          rw [← drop_flat h3, ← h2, List.drop_take, List.drop_drop, Nat.sub_mul]
        simp only [g1, appL_eq, takeL_eq, dropL_eq, e1, e2, List.flatten_append, List.flatten_cons]
      have hres : insTo es bytes v i S.next 1 x.cells (S.new (.row x.cells)) = some (.op (S.new (.row x.cells)).next 0 (L.length + 1) (L.length + 1) es, ((S.new (.row x.cells)).kill id).new (.row (L.take i ++ x.cells :: L.drop i).flatten)) := by
        rcases h0 with ⟨cap, q1, q2, rfl⟩ | ⟨cap, q1, q2, rfl⟩
        · exact main cap q1 q2
        · show (match Nat.beq es es with | true => _ | false => _) = _
          rw [Nat.beq_refl]
          exact main cap q1 q2
      refine wp_call (wpC_x (hk _) ht hxf (hin.trans hres) ?_)
      have hnx : ((S.new (.row x.cells)).kill id).next = (S.new (.row x.cells)).next := rfl
      have hL2 : (L.take i ++ x.cells :: L.drop i).length = L.length + 1 := by simp; omega
      have hall : ∀ y ∈ L.take i ++ x.cells :: L.drop i, y.length = es := by
        intro y hy
        rcases List.mem_append.1 hy with hy | hy
        · exact h3 y (List.mem_of_mem_take hy)
        · rcases List.mem_cons.1 hy with rfl | hy
          · exact hx
          · exact h3 y (List.mem_of_mem_drop hy)
      refine h _ _ (K.step hm (x' := .sl (.op (S.new (.row x.cells)).next 0 (L.length + 1) (L.length + 1) es) es (L.take i ++ x.cells :: L.drop i)) ?_ ?_ ?_ ?_)
      · simp [AH.new, AH.kill]
      · intro j hj hnj
        rw [AH.get_new, hnx, if_neg (by omega), AH.get_kill, if_neg ?_]
        simpa [Own.ids, h0.ids] using hnj
      · refine .inr ⟨_, 0, (L.take i ++ x.cells :: L.drop i).flatten, .inr ⟨L.length + 1, by omega, by rw [flatten_length hall, hL2]; omega, by rw [hL2]⟩, ?_, ?_, hall⟩
        · have := get_new_same ((S.new (.row x.cells)).kill id) (.row (L.take i ++ x.cells :: L.drop i).flatten)
          exact this
        · rw [List.drop_zero, List.take_of_length_le (by rw [flatten_length hall]; omega)]
      · intro j hj
        simp only [Own.ids, vids, List.mem_singleton] at hj
        subst hj
        exact ⟨by simp [AH.new, AH.kill], .inr (Nat.le_refl _)⟩
end
end Go.Abs
namespace Go.Abs
set_option linter.unusedVariables false
/-! ### maps: an entry is taken out -/
def mdel : List (Int × AV) → Int → List (Int × AV)
  | [], _ => []
  | (k', v') :: r, k => if k' = k then r else (k', v') :: mdel r k
theorem mget_none {m : List (Int × AV)} {k : Int} (h : k ∉ m.map (·.1)) : mget m k = none := by
  induction m with
  | nil => rfl
  | cons p r ih =>
    obtain ⟨a, b⟩ := p
    simp only [List.map_cons, List.mem_cons, not_or] at h
    unfold mget
    rw [if_neg (fun e => h.1 e.symm)]
    exact ih h.2
theorem mget_mdel {m : List (Int × AV)} (hn : (m.map (·.1)).Nodup) (k k' : Int) : mget (mdel m k) k' = if k = k' then none else mget m k' := by
  induction m with
  | nil => simp [mdel, mget]
  | cons p r ih =>
    obtain ⟨a, b⟩ := p
    simp only [List.map_cons, List.nodup_cons] at hn
    unfold mdel
    by_cases h : a = k
    · rw [if_pos h]
      subst h
      by_cases h2 : a = k'
      · subst h2; rw [if_pos rfl]; exact mget_none hn.1
      · rw [if_neg h2]; simp [mget, h2]
    · rw [if_neg h]
      simp only [mget]
      rw [ih hn.2]
      by_cases h2 : a = k'
      · subst h2
        rw [if_pos rfl, if_neg (fun e => h e.symm), if_pos rfl]
      · rw [if_neg h2, if_neg h2]
theorem mdel_sub (m : List (Int × AV)) (k : Int) : (mdel m k).Sublist m := by
  induction m with
  | nil => exact .slnil
  | cons p r ih =>
    unfold mdel
    split
    · exact List.sublist_cons_self _ _
    · exact ih.cons_cons _
theorem mdel_nodup {m : List (Int × AV)} (hn : (m.map (·.1)).Nodup) (k : Int) : ((mdel m k).map (·.1)).Nodup := hn.sublist ((mdel_sub m k).map _)
theorem mset_keys (m : List (Int × AV)) (k : Int) (v : AV) : (mset m k v).map (·.1) = if k ∈ m.map (·.1) then m.map (·.1) else m.map (·.1) ++ [k] := by
  induction m with
  | nil => simp [mset]
  | cons p r ih =>
    obtain ⟨a, b⟩ := p
    unfold mset
    by_cases h : a = k
    · subst h; simp
    · rw [if_neg h]
      simp only [List.map_cons, ih, List.mem_cons]
      by_cases h2 : k ∈ r.map (·.1)
      · rw [if_pos h2, if_pos (.inr h2)]
      · rw [if_neg h2, if_neg (by rintro (e | e); exact h e.symm; exact h2 e)]; rfl
theorem mset_nodup {m : List (Int × AV)} (hn : (m.map (·.1)).Nodup) (k : Int) (v : AV) : ((mset m k v).map (·.1)).Nodup := by
  rw [mset_keys]
  split
  · exact hn
  · next h => exact List.nodup_append.2 ⟨hn, by simp, fun a ha b hb => by simp at hb; subst hb; exact fun e => h (e ▸ ha)⟩
theorem mfind_del (key : Int) : ∀ (m : List (Int × AV)) (i : Nat), match mfind m key i with
    | some (j, _) => i ≤ j ∧ (ment m).eraseIdx (j - i) = ment (mdel m key)
    | none => mdel m key = m
  | [], i => by simp [mfind, mdel]
  | (a, u) :: r, i => by
    have ih := mfind_del key r (i + 1)
    unfold mfind mdel
    by_cases h : a = key
    · simp [h, ment]
    · simp only [h, if_false]
      cases hf : mfind r key (i + 1) with
      | none => rw [hf] at ih; simp only at ih ⊢; rw [ih]
      | some q =>
        obtain ⟨j, w⟩ := q
        rw [hf] at ih
        simp only at ih ⊢
        obtain ⟨h1, h2⟩ := ih
        have e : j - i = (j - (i + 1)) + 1 := by omega
        rw [e]
        refine ⟨by omega, ?_⟩
        simp only [ment, List.map_cons, List.eraseIdx_cons_succ] at h2 ⊢
        rw [h2]
theorem list_set_self {α : Type} {l : List α} {n : Nat} {x : α} (h : l[n]? = some x) : l.set n x = l := by
  apply List.ext_getElem?
  intro j
  rw [List.getElem?_set]
  split
  · next e =>
    subst e
    obtain ⟨h1, h2⟩ := List.getElem?_eq_some_iff.1 h
    rw [if_pos h1, h]
  · rfl
section
variable {M : Mach} {B0 S : AH} {W : List Nat} {own : List Own} {ro : List Fct} {Q : Post} {k : AV → AC}
theorem wp_mapdel (H : Cx B0 W S own ro) (n : Nat) {kt : TypeId} (hk : M.P.underlying kt = some (.int .i64)) {id : Nat} {m : List (Int × AV)} {key : Int} (hm : own[n]? = some (.obj id (.map (ment m))))
    (h : ∀ S1, Cx B0 W S1 (own.set n (.obj id (.map (ment (mdel m key))))) ro → wp M (k uv) S1 Q) : wp M (.op (.mapdel kt (.map id) (I key)) k) S Q := by
  have hg : S.get id = some (.map (ment m)) := H.oh _ (List.mem_of_getElem? hm)
  have hs := mfind_del key m 0
  have h1 : toV (I key) = some (.int .i64 key) := by simp [toV]
  cases hf : mfind m key 0 with
  | none =>
    rw [hf] at hs
    simp only at hs
    refine wp_op (v := uv) (S1 := S) ?_ (h S ?_)
    · show eMapdel M.P kt (.map id) (I key) S = _
      unfold eMapdel
      rw [h1]
      simp only [hg, keyOk_int hk, if_true, findE_int hk, hf]
    · rw [hs, list_set_self hm]; exact H
  | some q =>
    rw [hf] at hs
    obtain ⟨j, w⟩ := q
    simp only [Nat.sub_zero] at hs
    refine wp_op (v := uv) (S1 := S.set id (.map (ment (mdel m key)))) ?_ (h _ (H.step hm (Nat.le_refl _) ?_ ?_ ?_))
    · show eMapdel M.P kt (.map id) (I key) S = _
      unfold eMapdel
      rw [h1]
      simp only [hg, keyOk_int hk, if_true, findE_int hk, hf, hs.2]
    · intro j hj hne
      rw [AH.get_set, if_neg (by simpa [Own.ids] using hne)]
    · show (S.set id _).get id = _
      rw [AH.get_set, if_pos rfl]
    · intro j hj
      simp only [Own.ids, List.mem_singleton] at hj
      subst hj
      exact ⟨(H.oi _ (List.mem_of_getElem? hm) j (by simp [Own.ids])).1, .inl (by simp [Own.ids])⟩

/-! ### a slice of one's own is cut: what is behind is cleared -/
theorem bnds_lo {i n m : Nat} (h1 : i ≤ n) (h2 : n ≤ m) : bnds (some (I (i : Int))) none none n m = some (i, n, m) := by
  have h3 : below i (Nat.succ n) = some i := by unfold below; rw [ble_t (by omega)]
  show (match (match bndO (some (I (i : Int))) 0 n with | some l => _ | none => none) with | r => r) = _
  have h2 : bndO (some (I (i : Int))) 0 n = some i := h3
  rw [h2]; rfl
theorem wp_cut (H : Cx B0 W S own ro) (n : Nat) {v : AV} {es i : Nat} {z : List AV} {L : List (List AV)} (hm : own[n]? = some (.sl v es L)) (hi : i ≤ L.length) (hz : z.length = es)
    (h : ∀ v1 S1, Cx B0 W S1 (own.set n (.sl v1 es (L.take i))) ro → wp M (k v1) S1 Q) :
    wp M (.op (.sslice es v (some (I (i : Int))) none none) fun t => .op (.clear es z t) fun _ => .op (.sslice es v none (some (I (i : Int))) none) k) S Q := by
  have hw : slW S v es L := H.oh _ (List.mem_of_getElem? hm)
  rcases hw with ⟨rfl, rfl⟩ | ⟨id, off, c, h0, h1, h2, h3⟩
  · have i0 : i = 0 := by simpa using hi
    subst i0
    refine wp_op (v := Ns) rfl (wp_op (v := uv) rfl (wp_op (v := Ns) rfl (h _ _ ?_)))
    rw [List.take_nil, list_set_self hm]; exact H
  · have hcap : ∃ cap, L.length ≤ cap ∧ off + cap * es ≤ c.length := by
      rcases h0 with ⟨m, q1, q2, _⟩ | ⟨m, q1, q2, _⟩ <;> exact ⟨m, q1, q2⟩
    obtain ⟨cap0, hc1, hc2⟩ := hcap
    have hle : L.length * es ≤ cap0 * es := Nat.mul_le_mul_right es hc1
    have hie : i * es ≤ L.length * es := Nat.mul_le_mul_right es hi
    obtain ⟨v', e1, e2⟩ := slForm_sub (M := M) (S := S) h0 hi
    have hsub : (L.length - i) * es = L.length * es - i * es := Nat.sub_mul ..
    -- the cells that are cleared
    have main : ∀ o, (o = off + i * es ∨ (L.length = i ∧ o ≤ c.length)) → ∀ t, (∃ cp, t = .sl id o (L.length - i) cp) ∨ (∃ cp, t = .op id o (L.length - i) cp es) →
        ∃ c', evalOp M.P (.clear es z t) S = some (uv, S.set id (.row c')) ∧ c'.length = c.length ∧ (c'.drop off).take (i * es) = (L.take i).flatten := by
      intro o ho t ht
      have hlen : o + (L.length - i) * es ≤ c.length := by
        rcases ho with rfl | ⟨e, he⟩
        · rw [hsub]; omega
        · rw [e, Nat.sub_self, Nat.zero_mul]; omega
      have hrl : (repZero z (L.length - i)).length = (L.length - i) * es := by rw [repZero_length, hz]
      refine ⟨setRange c o (repZero z (L.length - i)), ?_, setRange_length (by rw [hrl]; exact hlen), ?_⟩
      · have hq : (Nat.ble (o + (L.length - i) * es) (lenL c) && Nat.beq (lenL z) es) = true := by rw [lenL_eq, lenL_eq, ble_t hlen, hz, Nat.beq_refl]; rfl
        rcases ht with ⟨cp, rfl⟩ | ⟨cp, rfl⟩
        · show (match S.get id with | some (.row c) => if Nat.ble (o + (L.length - i) * es) (lenL c) && Nat.beq (lenL z) es then some (uv, S.set id (.row (setRange c o (repZero z (L.length - i))))) else none | some (.ro _) => if Nat.beq (L.length - i) 0 then some (uv, S) else none | _ => none) = _
          rw [h1]; simp only [hq, if_true]
        · show (match S.get id with | some (.row c) => if Nat.ble (o + (L.length - i) * es) (lenL c) && Nat.beq (lenL z) es then some (uv, S.set id (.row (setRange c o (repZero z (L.length - i))))) else none | some (.ro _) => if Nat.beq (L.length - i) 0 then some (uv, S) else none | _ => none) = _
          rw [h1]; simp only [hq, if_true]
      · rw [← take_flat h3, ← h2, List.take_take, Nat.min_eq_left hie]
        apply List.ext_getElem?
        intro j
        rw [List.getElem?_take, List.getElem?_take]
        split
        · next hj =>
          rw [List.getElem?_drop, List.getElem?_drop, setRange_get (by rw [hrl]; exact hlen), hrl]
          rw [if_neg]
          rintro ⟨ha, hb⟩
          rcases ho with rfl | ⟨e, he⟩
          · omega
          · rw [e, Nat.sub_self, Nat.zero_mul] at hb; omega
        · rfl
    have hoff : off ≤ c.length := by omega
    have fin : ∀ c', c'.length = c.length → (c'.drop off).take (i * es) = (L.take i).flatten → evalOp M.P (.sslice es v none (some (I (i : Int))) none) (S.set id (.row c')) = some (v', S.set id (.row c')) → wp M (k v') (S.set id (.row c')) Q := by
      intro c' hl1 hl2 _
      refine h _ _ (H.step hm (Nat.le_refl _) ?_ ?_ ?_)
      · intro j hj hne
        rw [AH.get_set, if_neg (by simpa [Own.ids, h0.ids] using hne)]
      · refine .inr ⟨id, off, c', ?_, by rw [AH.get_set, if_pos rfl], ?_, fun x hx => h3 x (List.mem_of_mem_take hx)⟩
        · rw [List.length_take, Nat.min_eq_left hi]
          rcases e2 with ⟨m, q1, q2, q3⟩ | ⟨m, q1, q2, q3⟩
          · exact .inl ⟨m, q1, by rw [hl1]; exact q2, q3⟩
          · exact .inr ⟨m, q1, by rw [hl1]; exact q2, q3⟩
        · rw [List.length_take, Nat.min_eq_left hi]; exact hl2
      · intro j hj
        have : j ∈ vids v := by
          have : j ∈ vids v' := hj
          rw [e2.ids] at this; rw [h0.ids]; exact this
        exact ⟨(H.oi _ (List.mem_of_getElem? hm) j this).1, .inl this⟩
    have pure' : ∀ c', evalOp M.P (.sslice es v none (some (I (i : Int))) none) (S.set id (.row c')) = some (v', S.set id (.row c')) := by
      intro c'
      obtain ⟨v2, g1, g2⟩ := slForm_sub (M := M) (S := S.set id (.row c')) h0 hi
      have ge : pur (pSslice es v none (some (I (i : Int))) none) S = some (v', S) := e1
      have gf : pur (pSslice es v none (some (I (i : Int))) none) (S.set id (.row c')) = some (v2, S.set id (.row c')) := g1
      have : v2 = v' := by
        unfold pur at ge gf
        split at ge
        · next u hu => rw [hu] at gf; cases ge; cases gf; rfl
        · cases ge
      rw [this] at g1; exact g1
    rcases h0 with ⟨cap, q1, q2, rfl⟩ | ⟨cap, q1, q2, rfl⟩
    · have hev : evalOp M.P (.sslice es (.sl id off L.length cap) (some (I (i : Int))) none none) S = some (.sl id (if Nat.beq cap i then off else Nat.add off (Nat.mul i es)) (L.length - i) (cap - i), S) := by
        show pur (pSslice es (.sl id off L.length cap) (some (I (i : Int))) none none) S = _
        unfold pSslice
        simp only [bnds_lo hi q1]
        rfl
      obtain ⟨c', g1, g2, g3⟩ := main (if Nat.beq cap i then off else Nat.add off (Nat.mul i es)) (by
        by_cases e : Nat.beq cap i = true
        · rw [if_pos e]; have := Nat.eq_of_beq_eq_true e; exact .inr ⟨by omega, hoff⟩
        · rw [if_neg e]; exact .inl rfl) _ (.inl ⟨cap - i, rfl⟩)
      exact wp_op hev (wp_op g1 (wp_op (pure' c') (fin c' g2 g3 (pure' c'))))
    · have hev : evalOp M.P (.sslice es (.op id off L.length cap es) (some (I (i : Int))) none none) S = some (.op id (Nat.add off (Nat.mul i es)) (L.length - i) (cap - i) es, S) := by
        show pur (pSslice es (.op id off L.length cap es) (some (I (i : Int))) none none) S = _
        unfold pSslice
        simp only [bnds_lo hi q1, Nat.beq_refl]
        rfl
      obtain ⟨c', g1, g2, g3⟩ := main (Nat.add off (Nat.mul i es)) (.inl rfl) _ (.inr ⟨cap - i, rfl⟩)
      exact wp_op hev (wp_op g1 (wp_op (pure' c') (fin c' g2 g3 (pure' c'))))
end
end Go.Abs
namespace Go.Abs
set_option linter.unusedVariables false
/-! ### ranges over functions that tell given things, one behind the other; the body may stop them -/
section
variable (M : Mach) (B0 : AH) (W : List Nat) (ro : List Fct)
def Tells (l : Nat) (e : AV) (P P' Stop : List Own → Prop) : Prop := ∀ E own S ro', (∀ φ ∈ ro, φ ∈ ro') → P own → Cx B0 W S (E ++ own) ro' → wpC M (.yd l) [e] S fun v S' => ∃ own', Cx B0 W S' (E ++ own') ro' ∧ ((v = B true ∧ P' own') ∨ (v = B false ∧ Stop own'))
def Drives (f : AV) (es : List AV) (ok : List Own → Prop) : Prop := ∀ l (P : List AV → List Own → Prop) (Stop : List Own → Prop), (∀ d own, P d own → ok own) → (∀ d e r, es = d ++ e :: r → Tells M B0 W ro l e (P d) (P (d ++ [e])) Stop) →
  ∀ E own S ro', (∀ φ ∈ ro, φ ∈ ro') → P [] own → Cx B0 W S (E ++ own) ro' → wpC M f [.yd l] S fun _ S' => ∃ own', Cx B0 W S' (E ++ own') ro' ∧ (P es own' ∨ Stop own')
end
section
variable {M : Mach} {B0 S : AH} {W : List Nat} {own : List Own} {ro : List Fct} {Q : Post} {k : AV → AC}
theorem app_get {E own : List Own} {n : Nat} {x : Own} (h : own[n]? = some x) : (E ++ own)[E.length + n]? = some x := by rw [List.getElem?_append_right (by omega), Nat.add_sub_cancel_left]; exact h
theorem app_set {E own : List Own} {n : Nat} {x : Own} : (E ++ own).set (E.length + n) x = E ++ own.set n x := by rw [List.set_append_right _ _ (by omega), Nat.add_sub_cancel_left]
/-- a round of a range: its row is the first thing behind E -/
theorem tells_round {l : Nat} {e : AV} {body : List AV → AC} {P P' : List Own → Prop} {Stop : Tag → List Own → Prop}
    (hb : ∀ E own S ro', (∀ φ ∈ ro, φ ∈ ro') → P own → Cx B0 W S (E ++ .obj l (.loop .ready none 1 body) :: own) ro' → wp M (body [.yd l, e]) S fun t _ S' => ∃ own', Cx B0 W S' (E ++ .obj l (.loop .busy none 1 body) :: own') ro' ∧ ((t = .normal ∧ P' own') ∨ (t ≠ .normal ∧ Stop t own'))) :
    Tells M B0 W ro l e (fun o => ∃ o1, o = .obj l (.loop .ready none 1 body) :: o1 ∧ P o1) (fun o => ∃ o1, o = .obj l (.loop .ready none 1 body) :: o1 ∧ P' o1) (fun o => ∃ t o1, t ≠ .normal ∧ o = .obj l (.loop .done (some t) 1 body) :: o1 ∧ Stop t o1) := by
  rintro E own S ro' hro ⟨o1, rfl, hP⟩ H
  have hm : (E ++ Own.obj l (.loop .ready none 1 body) :: o1)[E.length]? = some (.obj l (.loop .ready none 1 body)) := by simp
  refine wpC_yd (H.oh _ (List.mem_of_getElem? hm)) rfl (wp_mono (hb E o1 S ro' hro hP H) fun t vs S' q => ?_)
  obtain ⟨own', H', q⟩ := q
  have hm' : (E ++ Own.obj l (.loop .busy none 1 body) :: own')[E.length]? = some (.obj l (.loop .busy none 1 body)) := by simp
  have hset : ∀ o, (E ++ Own.obj l (.loop .busy none 1 body) :: own').set E.length (.obj l o) = E ++ Own.obj l o :: own' := by intro o; simp
  refine ⟨none, 1, body, H'.oh _ (List.mem_of_getElem? hm'), ?_⟩
  rcases q with ⟨rfl, q⟩ | ⟨ht, q⟩
  · have K := H'.setOb hm' (.loop .ready none 1 body)
    rw [hset] at K
    exact ⟨_, K, .inl ⟨rfl, own', rfl, q⟩⟩
  · have K := H'.setOb hm' (.loop .done (some t) 1 body)
    rw [hset] at K
    cases t with
    | normal => exact absurd rfl ht
    | _ => exact ⟨_, K, .inr ⟨rfl, _, own', ht, rfl, q⟩⟩
theorem wp_rngD {f : AV} {es : List AV} {ok : List Own → Prop} (hD : Drives M B0 W ro f es ok) (hok : ∀ x own, ok own → ok (x :: own)) {body : List AV → AC} {kk : AC} {outs : List AV} (hf : ∀ i, f ≠ .yd i) (P : List AV → List Own → Prop) (Stop : Tag → List Own → Prop)
    (hPo : ∀ d own, P d own → ok own)
    (hb : ∀ l d e r, es = d ++ e :: r → ∀ E own S ro', (∀ φ ∈ ro, φ ∈ ro') → P d own → Cx B0 W S (E ++ .obj l (.loop .ready none 1 body) :: own) ro' → wp M (body [.yd l, e]) S fun t _ S' => ∃ own', Cx B0 W S' (E ++ .obj l (.loop .busy none 1 body) :: own') ro' ∧ ((t = .normal ∧ P (d ++ [e]) own') ∨ (t ≠ .normal ∧ Stop t own')))
    {E : List Own} (hP : P [] own) (H : Cx B0 W S (E ++ own) ro)
    (hk : ∀ S own, P es own → Cx B0 W S (E ++ own) ro → wp M kk S Q)
    (hs : ∀ t S own, t ≠ .normal → Stop t own → Cx B0 W S (E ++ own) ro → Q t outs S) : wp M (.rng 1 f body kk outs) S Q := by
  refine wp_rng hf ?_
  have H1 : Cx B0 W (S.new (.loop .ready none 1 body)) (.obj S.next (.loop .ready none 1 body) :: (E ++ own)) ro := H.addOwn (Grows.new S _) (get_new_same _ _) (fun j hj => by
    simp only [Own.ids, List.mem_singleton] at hj
    subst hj
    exact ⟨Nat.le_refl _, by simp⟩)
  replace H1 : Cx B0 W (S.new (.loop .ready none 1 body)) (E ++ .obj S.next (.loop .ready none 1 body) :: own) ro := H1.perm List.perm_middle.symm
  refine wpC_mono (hD S.next (fun d o => ∃ o1, o = .obj S.next (.loop .ready none 1 body) :: o1 ∧ P d o1) (fun o => ∃ t o1, t ≠ .normal ∧ o = .obj S.next (.loop .done (some t) 1 body) :: o1 ∧ Stop t o1) (fun d o ⟨o1, e, hp⟩ => by rw [e]; exact hok _ _ (hPo d o1 hp)) (fun d e r h => tells_round (hb S.next d e r h)) E _ _ ro (fun _ h => h) ⟨own, rfl, hP⟩ H1) fun v S' q => ?_
  obtain ⟨own', H', q⟩ := q
  have drop : ∀ o o1, Cx B0 W S' (E ++ .obj S.next o :: o1) ro → ∀ o', Cx B0 W (S'.set S.next o') (E ++ o1) ro := by
    intro o o1 H o'
    have hm : (E ++ Own.obj S.next o :: o1)[E.length]? = some (.obj S.next o) := by simp
    have K := (H.setOb hm o').dropAt E.length
    have : ((E ++ Own.obj S.next o :: o1).set E.length (.obj S.next o')).eraseIdx E.length = E ++ o1 := by
      rw [List.set_append_right _ _ (Nat.le_refl _), Nat.sub_self, List.set_cons_zero, List.eraseIdx_append_of_length_le (Nat.le_refl _), Nat.sub_self, List.eraseIdx_cons_zero]
    rw [this] at K; exact K
  rcases q with ⟨o1, rfl, q⟩ | ⟨t, o1, ht, rfl, q⟩
  · refine ⟨.ready, none, 1, body, H'.oh _ (List.mem_append_right _ (List.Mem.head _)), by simp, ?_⟩
    exact hk _ _ q (drop _ _ H' _)
  · refine ⟨.done, some t, 1, body, H'.oh _ (List.mem_append_right _ (List.Mem.head _)), by simp, ?_⟩
    exact hs t _ _ ht q (drop _ _ H' _)
/-- the round begins: the thing that is told is laid into a cell, and the row is busy -/
theorem Cx.appRo {F : List Fct} (H : Cx B0 W S own (F ++ ro)) : Cx B0 W S own ro := H.dropRo fun φ h => List.mem_append_right _ h
theorem wp_round2 {l : Nat} {x y : AV} {E own : List Own} {body : List AV → AC} {kk : AV → AC} (H : Cx B0 W S (E ++ .obj l (.loop .ready none 1 body) :: own) ro)
    (h : ∀ id S1, Cx B0 W S1 (E ++ .obj l (.loop .busy none 1 body) :: own) (.pt id 0 [x, y] :: ro) → wp M (kk (.ptr id 0)) S1 Q) :
    wp M (.op (.alloc [I 0, I 0]) fun p => .op (.store 2 p (.agg [x, y])) fun _ => .start (.yd l) (kk p)) S Q := by
  refine wp_alloc H fun id S1 H1 => ?_
  refine wp_store H1 0 (c := [I 0, I 0]) rfl rfl rfl (by simp) fun S2 H2 => ?_
  have e : setRange [I 0, I 0] 0 (AV.agg [x, y]).cells = [x, y] := rfl
  have H2 : Cx B0 W S2 (.obj id (.row [x, y]) :: (E ++ .obj l (.loop .ready none 1 body) :: own)) ro := by
    have H2 : Cx B0 W S2 (.obj id (.row (setRange [I 0, I 0] 0 (AV.agg [x, y]).cells)) :: (E ++ .obj l (.loop .ready none 1 body) :: own)) ro := H2
    rw [e] at H2; exact H2
  have H3 := H2.freeze (i := 0) rfl
  have hm : (E ++ Own.obj l (.loop .ready none 1 body) :: own)[E.length]? = some (.obj l (.loop .ready none 1 body)) := by simp
  refine wp_startO (H3 : Cx B0 W S2 (E ++ .obj l (.loop .ready none 1 body) :: own) _) E.length hm fun S3 H4 => ?_
  refine h id S3 ?_
  have : (E ++ Own.obj l (.loop .ready none 1 body) :: own).set E.length (.obj l (.loop .busy none 1 body)) = E ++ Own.obj l (.loop .busy none 1 body) :: own := by simp
  exact this ▸ (show Cx B0 W S3 ((E ++ Own.obj l (AO.loop LoopState.ready none 1 body) :: own).set E.length (Own.obj l (AO.loop LoopState.busy none 1 body))) _ from H4)
end
end Go.Abs

namespace Go.Abs
/-! ### lists of lists, one behind the other -/
theorem flat_split {α : Type} (g : Nat → List α) : ∀ {n s : Nat}, s < n → ∃ r, (List.range n).flatMap g = (List.range s).flatMap g ++ (g s ++ r)
  | 0, s, h => by omega
  | n + 1, s, h => by
    rw [List.range_succ, List.flatMap_append]
    by_cases e : s = n
    · subst e; exact ⟨[], by simp⟩
    · obtain ⟨r, hr⟩ := flat_split g (n := n) (s := s) (by omega)
      exact ⟨r ++ g n, by rw [hr]; simp⟩
theorem flat_succ {α : Type} (g : Nat → List α) (s : Nat) : (List.range (s + 1)).flatMap g = (List.range s).flatMap g ++ g s := by rw [List.range_succ, List.flatMap_append]; simp
end Go.Abs
namespace Go.Abs
set_option linter.unusedVariables false
/-! ### timers, in order -/
structure Fi where
  id : Nat
  tm : Nat
  deriving DecidableEq
def Fi.cs (f : Fi) : List AV := [I f.id, I f.tm]
def fis (l : List Fi) : List (List AV) := l.map Fi.cs
theorem fis_len (l : List Fi) : (fis l).length = l.length := List.length_map ..
theorem fis_get {l : List Fi} {i : Nat} (h : i < l.length) : (fis l)[i]? = some l[i].cs := by simp [fis, h]
theorem fis_app (a b : List Fi) : fis (a ++ b) = fis a ++ fis b := List.map_append ..
theorem fis_take (l : List Fi) (i : Nat) : fis (l.take i) = (fis l).take i := List.map_take ..
theorem fis_all (l : List Fi) : ∀ x ∈ fis l, x.length = 2 := by intro x hx; obtain ⟨f, _, rfl⟩ := List.mem_map.1 hx; rfl
def Fi.lt (a b : Fi) : Prop := a.tm < b.tm ∨ a.tm = b.tm ∧ a.id < b.id
instance (a b : Fi) : Decidable (Fi.lt a b) := inferInstanceAs (Decidable (_ ∨ _))
theorem Fi.lt_irrefl (a : Fi) : ¬ a.lt a := by unfold Fi.lt; omega
theorem Fi.lt_trans {a b c : Fi} (h : a.lt b) (k : b.lt c) : a.lt c := by unfold Fi.lt at *; omega
theorem Fi.lt_asymm {a b : Fi} (h : a.lt b) : ¬ b.lt a := by unfold Fi.lt at *; omega
theorem Fi.lt_or {a b : Fi} (h : a.id ≠ b.id) : a.lt b ∨ b.lt a := by unfold Fi.lt; omega
abbrev Ord (l : List Fi) : Prop := l.Pairwise Fi.lt
theorem ord_ext : ∀ {a b : List Fi}, Ord a → Ord b → (∀ x, x ∈ a ↔ x ∈ b) → a = b
  | [], [], _, _, _ => rfl
  | [], y :: b, _, _, h => absurd ((h y).2 (by simp)) (by simp)
  | x :: a, [], _, _, h => absurd ((h x).1 (by simp)) (by simp)
  | x :: a, y :: b, ha, hb, h => by
    have ha' := List.pairwise_cons.1 ha
    have hb' := List.pairwise_cons.1 hb
    have e : x = y := by
      rcases List.mem_cons.1 ((h x).1 (by simp)) with e | hx
      · exact e
      · rcases List.mem_cons.1 ((h y).2 (by simp)) with e | hy
        · exact e.symm
        · exact absurd (hb'.1 x hx) (Fi.lt_asymm (ha'.1 y hy))
    subst e
    congr 1
    refine ord_ext ha'.2 hb'.2 fun z => ?_
    constructor
    · intro hz
      rcases List.mem_cons.1 ((h z).1 (by simp [hz])) with e | hz'
      · exact absurd (ha'.1 z hz) (by rw [e]; exact Fi.lt_irrefl _)
      · exact hz'
    · intro hz
      rcases List.mem_cons.1 ((h z).2 (by simp [hz])) with e | hz'
      · exact absurd (hb'.1 z hz) (by rw [e]; exact Fi.lt_irrefl _)
      · exact hz'
/-- one more, in order -/
def ins (f : Fi) : List Fi → List Fi
  | [] => [f]
  | g :: r => if f.lt g then f :: g :: r else g :: ins f r
theorem mem_ins {f x : Fi} {l : List Fi} : x ∈ ins f l ↔ x = f ∨ x ∈ l := by
  induction l with
  | nil => simp [ins]
  | cons g r ih =>
    unfold ins
    split
    · simp
    · simp only [List.mem_cons, ih]
      constructor
      · rintro (h | h | h)
        · exact .inr (.inl h)
        · exact .inl h
        · exact .inr (.inr h)
      · rintro (h | h | h)
        · exact .inr (.inl h)
        · exact .inl h
        · exact .inr (.inr h)
theorem ord_ins {f : Fi} {l : List Fi} (h : Ord l) (hn : ∀ x ∈ l, x.id ≠ f.id) : Ord (ins f l) := by
  induction l with
  | nil => simp [ins]
  | cons g r ih =>
    have h' := List.pairwise_cons.1 h
    unfold ins
    split
    · next hlt =>
      refine List.pairwise_cons.2 ⟨fun x hx => ?_, h⟩
      rcases List.mem_cons.1 hx with rfl | hx
      · exact hlt
      · exact Fi.lt_trans hlt (h'.1 x hx)
    · next hlt =>
      refine List.pairwise_cons.2 ⟨fun x hx => ?_, ih h'.2 fun x hx => hn x (by simp [hx])⟩
      rcases mem_ins.1 hx with rfl | hx
      · exact (Fi.lt_or (hn g (by simp))).resolve_right hlt
      · exact h'.1 x hx
theorem ins_length {f : Fi} {l : List Fi} : (ins f l).length = l.length + 1 := by
  induction l with
  | nil => rfl
  | cons g r ih => unfold ins; split <;> simp [ih]
/-- at the place that a search tells -/
theorem ins_at {f : Fi} : ∀ {l : List Fi} {k : Nat}, k ≤ l.length → (∀ i (h : i < l.length), i < k → ¬ f.lt l[i]) → (∀ (h : k < l.length), f.lt l[k]) → ins f l = l.take k ++ f :: l.drop k
  | [], k, hk, _, _ => by have : k = 0 := by simpa using hk
                          subst this; rfl
  | g :: r, 0, hk, _, h2 => by
    have : f.lt g := h2 (by simp)
    unfold ins
    rw [if_pos this]; rfl
  | g :: r, k + 1, hk, h1, h2 => by
    have h0 : ¬ f.lt g := h1 0 (by simp) (by omega)
    unfold ins
    rw [if_neg h0, ins_at (k := k) (by simpa using hk) (fun i h hi => h1 (i + 1) (by simpa using h) (by omega)) (fun h => h2 (by simpa using h))]
    rfl
/-- the same ones, without those of an ID -/
def rmv (id : Nat) (l : List Fi) : List Fi := l.filter (fun f => f.id != id)
theorem mem_rmv {id : Nat} {x : Fi} {l : List Fi} : x ∈ rmv id l ↔ x ∈ l ∧ x.id ≠ id := by simp [rmv, List.mem_filter]
theorem ord_filter {l : List Fi} (h : Ord l) (p : Fi → Bool) : Ord (l.filter p) := h.filter p

/-- a clock, and timers -/
structure Wl where
  now : Nat
  L : List Fi
structure Wl.Ok (x : Wl) : Prop where
  clk : x.now ≤ 1099511627776
  ord : Ord x.L
  nd : (x.L.map (·.id)).Nodup
  ge : ∀ f ∈ x.L, x.now ≤ f.tm
  le : ∀ f ∈ x.L, f.tm ≤ 1099511627776
  id : ∀ f ∈ x.L, f.id < 256
def Wl.slot (x : Wl) (k : Nat) : List Fi := x.L.filter (fun f => spt x.now f.tm == k)
theorem Wl.Ok.inj {x : Wl} (h : x.Ok) {f g : Fi} (hf : f ∈ x.L) (hg : g ∈ x.L) (e : f.id = g.id) : f = g := by
  have := h.nd
  rw [List.Nodup, List.pairwise_map, List.pairwise_iff_getElem] at this
  obtain ⟨i, hi, rfl⟩ := List.mem_iff_getElem.1 hf
  obtain ⟨j, hj, rfl⟩ := List.mem_iff_getElem.1 hg
  rcases Nat.lt_trichotomy i j with hij | rfl | hij
  · exact absurd e (this i j hi hj hij)
  · rfl
  · exact absurd e.symm (this j i hj hi hij)
theorem nodup_le : ∀ {n : Nat} {l : List Nat}, l.Nodup → (∀ x ∈ l, x < n) → l.length ≤ n
  | 0, [], _, _ => by simp
  | 0, x :: l, _, h => absurd (h x (by simp)) (by omega)
  | n + 1, l, hn, h => by
    have := nodup_le (n := n) (l := l.erase n) (hn.sublist List.erase_sublist) fun x hx => by
      have h1 := h x (List.mem_of_mem_erase hx)
      have h2 : x ≠ n := fun e => by subst e; exact (List.Nodup.not_mem_erase hn) hx
      omega
    have h3 := List.length_erase (a := n) (l := l)
    split at h3 <;> omega
theorem Wl.Ok.len {x : Wl} (h : x.Ok) : x.L.length ≤ 256 := by
  have := nodup_le h.nd fun i hi => by
    obtain ⟨f, hf, rfl⟩ := List.mem_map.1 hi
    exact h.id f hf
  simpa using this
end Go.Abs
namespace Go.Abs
open Go.Proofs
set_option maxRecDepth 100000
set_option linter.unusedVariables false
/-- statements of the model: its examples are known, and slices.Insert -/
noncomputable def EM : Mach := ⟨Try.prog, Try.tbl, ⟨knV [(6, .bool true), (14, .bool true)], xOf [(73, insK 1 8)]⟩⟩


/-! ### numbers -/
def cmpI (a b : Int) : Int := if a < b then -1 else if b < a then 1 else 0
theorem nan_ok {S : AH} {a : Int} : wpC EM (.fn (.func 65) [] []) [I a] S fun r S' => r = B false ∧ Grows S S' := by
  refine wpC_fn (b := Try.a65) rfl rfl ?_
  unfold Try.a65
  refine wp_neq_f rfl ?_
  exact wp_ret ⟨rfl, rfl, Grows.refl _⟩
theorem compare_ok {S : AH} {a b : Int} : wpC EM (.fn (.func 49) [] []) [I a, I b] S fun r S' => r = I (cmpI a b) ∧ Grows S S' := by
  refine wpC_fn (b := Try.a49) rfl rfl ?_
  have H : Cx S [] S [] [] := Cx.enter (by simp)
  unfold Try.a49 cmpI
  refine wp_callV H nan_ok fun S1 H => ?_
  refine wp_callV H nan_ok fun S2 H => ?_
  repeat (first|refine zA ?_|refine zB rfl ?_|refine zC ?_|refine zD ?_|refine zE rfl ?_|refine zF ?_|refine zG ?_|refine zH ?_|refine zI ?_|refine zJ ?_|refine zK ?_|refine zL rfl ?_|refine zN rfl ?_)
  refine wp_lss (fun h => ?_) (fun h => ?_)
  · rw [if_pos h]
    repeat (first|refine zA ?_|refine zB rfl ?_|refine zC ?_|refine zD ?_|refine zE rfl ?_|refine zF ?_|refine zG ?_|refine zH ?_|refine zI ?_|refine zJ ?_|refine zK ?_|refine zL rfl ?_|refine zN rfl ?_)
    exact wp_ret ⟨rfl, rfl, H.grows⟩
  rw [if_neg (by omega)]
  repeat (first|refine zA ?_|refine zB rfl ?_|refine zC ?_|refine zD ?_|refine zE rfl ?_|refine zF ?_|refine zG ?_|refine zH ?_|refine zI ?_|refine zJ ?_|refine zK ?_|refine zL rfl ?_|refine zN rfl ?_)
  refine wp_gtr (fun h2 => ?_) (fun h2 => ?_)
  · rw [if_pos h2]
    repeat (first|refine zA ?_|refine zB rfl ?_|refine zC ?_|refine zD ?_|refine zE rfl ?_|refine zF ?_|refine zG ?_|refine zH ?_|refine zI ?_|refine zJ ?_|refine zK ?_|refine zL rfl ?_|refine zN rfl ?_)
    exact wp_ret ⟨rfl, rfl, H.grows⟩
  · rw [if_neg (by omega)]
    repeat (first|refine zA ?_|refine zB rfl ?_|refine zC ?_|refine zD ?_|refine zE rfl ?_|refine zF ?_|refine zG ?_|refine zH ?_|refine zI ?_|refine zJ ?_|refine zK ?_|refine zL rfl ?_|refine zN rfl ?_)
    exact wp_ret ⟨rfl, rfl, H.grows⟩
def orI : List Int → Int
  | [] => 0
  | a :: l => if a ≠ 0 then a else orI l
theorem orI_drop {l : List Int} {i : Nat} (h : i < l.length) : orI (l.drop i) = if l[i] ≠ 0 then l[i] else orI (l.drop (i + 1)) := by
  rw [List.drop_eq_getElem_cons h]; rfl
theorem or_ok {S : AH} {v : AV} {l : List Int} (hv : RoSl S v 1 (ints l)) (hl : l.length < 1000000) : wpC EM (.fn (.func 47) [] []) [v] S fun r S' => r = I (orI l) ∧ Grows S S' := by
  refine wpC_fn (b := Try.a47) rfl rfl ?_
  have H := Cx.ro1 hv
  unfold Try.a47
  refine wp_len H (by repeat (first | exact List.Mem.head _ | apply List.Mem.tail)) ?_
  rw [ints_len]
  refine wp_bind (wp_loop (wpL_inv (fun m vs S1 => ∃ (i : Nat) (u : AV), vs = [I (i : Int), u] ∧ i ≤ l.length ∧ m = l.length - i ∧ orI l = orI (l.drop i) ∧ Cx S [] S1 [] [.sl v 1 (ints l)]) ?_ l.length ⟨0, _, rfl, by omega, by omega, rfl, H⟩))
  rintro m vs S1 ⟨i, u, rfl, hi, rfl, he, H⟩
  refine wp_lss (fun hlt => ?_) (fun hge => ?_)
  · have hlt : i < l.length := by omega
    repeat (first|refine zA ?_|refine zB rfl ?_|refine zC ?_|refine zD ?_|refine zE rfl ?_|refine zF ?_|refine zG ?_|refine zH ?_|refine zI ?_|refine zJ ?_|refine zK ?_|refine zL rfl ?_|refine zN rfl ?_)
    refine wp_bind ?_
    refine wp_saddr (i := i) (x := [I l[i]]) H (by repeat (first | exact List.Mem.head _ | apply List.Mem.tail)) (by simp [ints, hlt]) fun p off H1 => ?_
    refine wp_load0 H1 (by repeat (first | exact List.Mem.head _ | apply List.Mem.tail)) rfl ?_
    rw [orI_drop hlt] at he
    refine wp_neq (fun hne => ?_) (fun hz => ?_)
    · repeat (first|refine zA ?_|refine zB rfl ?_|refine zC ?_|refine zD ?_|refine zE rfl ?_|refine zF ?_|refine zG ?_|refine zH ?_|refine zI ?_|refine zJ ?_|refine zK ?_|refine zL rfl ?_|refine zN rfl ?_)
      rw [if_pos hne] at he
      exact wp_ret (.inr ⟨by simp, rfl, by rw [he]; rfl, H.grows⟩)
    · repeat (first|refine zA ?_|refine zB rfl ?_|refine zC ?_|refine zD ?_|refine zE rfl ?_|refine zF ?_|refine zG ?_|refine zH ?_|refine zI ?_|refine zJ ?_|refine zK ?_|refine zL rfl ?_|refine zN rfl ?_)
      rw [if_neg (by simpa using hz)] at he
      refine wp_ret ?_
      show wp EM _ _ _
      exact wp_add64 (by omega) (by omega) (wp_ret (.inl ⟨rfl, l.length - (i + 1), by omega, i + 1, _, rfl, by omega, rfl, he, H⟩))
  · repeat (first|refine zA ?_|refine zB rfl ?_|refine zC ?_|refine zD ?_|refine zE rfl ?_|refine zF ?_|refine zG ?_|refine zH ?_|refine zI ?_|refine zJ ?_|refine zK ?_|refine zL rfl ?_|refine zN rfl ?_)
    refine wp_ret (.inr ⟨by simp, wp_ret ⟨rfl, ?_, H.grows⟩⟩)
    rw [List.drop_of_length_le (by omega)] at he
    rw [he]; rfl
section
variable {M : Mach} {B0 S : AH} {W : List Nat} {own : List Own} {ro : List Fct} {Q : Post} {k : AV → AC} {κ κ' : IntKind}
theorem e_shr {a b : Int} (hb : 0 ≤ b) : evalOp M.P (.bin .shr (Z κ a) (Z κ' b)) S = some (Z κ (a.fdiv (2 ^ (min b.toNat κ.bits))), S) := by
  show pur (bShr (Z κ a) (Z κ' b)) S = _
  have : ltF b 0 = false := by rw [ltF_eq]; simpa using hb
  unfold bShr
  simp only [this]
  rfl
theorem shr_nat {n s : Nat} : ((n : Int).fdiv (2 ^ s)) = ((n / 2 ^ s : Nat) : Int) := by
  have : ((2 : Int) ^ s) = ((2 ^ s : Nat) : Int) := by simp
  rw [this, Int.ofNat_fdiv]
theorem wp_shrU {n s : Nat} (hn : n ≤ 18446744073709551615) (hs : s ≤ 64) (h : wp M (k (U ((n / 2 ^ s : Nat) : Int))) S Q) : wp M (.op (.bin .shr (U (n : Int)) (Z κ' (s : Int))) k) S Q := by
  refine wp_op (e_shr (by omega)) ?_
  have e : min (s : Int).toNat IntKind.u64.bits = s := by show min (s : Int).toNat 64 = s; omega
  rw [e, shr_nat]; exact h
theorem wp_shrI {n s : Nat} (hn : n ≤ 9223372036854775807) (hs : s ≤ 64) (h : wp M (k (I ((n / 2 ^ s : Nat) : Int))) S Q) : wp M (.op (.bin .shr (I (n : Int)) (Z κ' (s : Int))) k) S Q := by
  refine wp_op (e_shr (by omega)) ?_
  have e : min (s : Int).toNat IntKind.i64.bits = s := by show min (s : Int).toNat 64 = s; omega
  rw [e, shr_nat]; exact h
theorem wp_conv {a c : Int} (hw : wrapF κ a = c) (h : wp M (k (Z κ c)) S Q) : wp M (.op (.conv κ (Z κ' a)) k) S Q := wp_op (v := Z κ c) (by show pur (pConv κ (Z κ' a)) S = _; rw [← hw]; rfl) h
/-- a new list of two numbers -/
theorem wp_two (H : Cx B0 W S own ro) {x y : AV} (hx : odd x = false) (hy : odd y = false) (lx : x.cells = [x]) (ly : y.cells = [y]) (h : ∀ v S1, Cx B0 W S1 own (.sl v 1 [[x], [y]] :: ro) → wp M (k v) S1 Q) :
    wp M (.op (.bslice 1 2 [I 0] [(0, 1, x), (1, 1, y)]) k) S Q := by
  refine wp_op (v := .sl S.next 0 2 2) (S1 := S.new (.row [x, y])) ?_ (h _ _ (H.addNewRo (Grows.new S _) (φ := .sl (.sl S.next 0 2 2) 1 [[x], [y]]) ?_ ?_))
  · show nBslice 1 2 [I 0] [(0, 1, x), (1, 1, y)] S = _
    unfold nBslice
    have e1 : fillP (repZero [I 0] 2) [(0, 1, x), (1, 1, y)] = some [x, y] := by
      simp only [fillP, hx, hy, lx, ly]
      rfl
    rw [e1]
    rfl
  · exact .inr ⟨S.next, 0, [x, y], .inl ⟨2, by simp, by simp, rfl⟩, row_cells (get_new_same _ _), by simp, by simp⟩
  · intro id hid
    simp only [Fct.ids, vids, List.mem_singleton] at hid
    subst hid
    exact ⟨Nat.le_refl _, by simp [AH.new]⟩
end
end Go.Abs
namespace Go.Abs
open Go.Proofs
set_option maxRecDepth 100000
set_option linter.unusedVariables false
/-! ### live jobs, their order, and what a stable sort makes of them -/
structure Lv where
  job : Int
  st : Int
  core : Int
  key : Int
def Lv.cs (x : Lv) : List AV := [I x.job, I x.st, I x.core, U x.key]
def lvs (l : List Lv) : List (List AV) := l.map Lv.cs
theorem lvs_len (l : List Lv) : (lvs l).length = l.length := List.length_map ..
theorem lvs_get {l : List Lv} {i : Nat} (h : i < l.length) : (lvs l)[i]? = some l[i].cs := by simp [lvs, h]
theorem lvs_all (l : List Lv) : ∀ x ∈ lvs l, x.length = 4 := by intro x hx; obtain ⟨f, _, rfl⟩ := List.mem_map.1 hx; rfl
theorem lvs_app (a b : List Lv) : lvs (a ++ b) = lvs a ++ lvs b := List.map_append ..
theorem lvs_set (l : List Lv) (i : Nat) (x : Lv) : (lvs l).set i x.cs = lvs (l.set i x) := by unfold lvs; rw [List.map_set]
def Lv.lt (a b : Lv) : Prop := a.key < b.key ∨ a.key = b.key ∧ a.job < b.job
instance (a b : Lv) : Decidable (Lv.lt a b) := inferInstanceAs (Decidable (_ ∨ _))
theorem Lv.lt_irrefl (a : Lv) : ¬ a.lt a := by unfold Lv.lt; omega
theorem Lv.lt_trans {a b c : Lv} (h : a.lt b) (k : b.lt c) : a.lt c := by unfold Lv.lt at *; omega
theorem Lv.lt_le {a b c : Lv} (h : a.lt b) (k : ¬ c.lt b) : a.lt c := by unfold Lv.lt at *; omega
theorem Lv.le_lt {a b c : Lv} (h : ¬ b.lt a) (k : b.lt c) : a.lt c := by unfold Lv.lt at *; omega
theorem Lv.le_le {a b c : Lv} (h : ¬ b.lt a) (k : ¬ c.lt b) : ¬ c.lt a := by unfold Lv.lt at *; omega
theorem Lv.lt_asymm {a b : Lv} (h : a.lt b) : ¬ b.lt a := by unfold Lv.lt at *; omega
/-- in order: nobody is ahead of those that stand ahead of it -/
abbrev Srt (l : List Lv) : Prop := l.Pairwise fun a b => ¬ b.lt a
/-- those that stand alike -/
def cls (k j : Int) (l : List Lv) : List Lv := l.filter fun x => x.key == k && x.job == j
theorem cls_app (k j : Int) (a b : List Lv) : cls k j (a ++ b) = cls k j a ++ cls k j b := List.filter_append ..
theorem mem_cls {k j : Int} {x : Lv} {l : List Lv} : x ∈ cls k j l ↔ x ∈ l ∧ x.key = k ∧ x.job = j := by simp [cls, List.mem_filter]
/-- the same ones, in order, alike ones as they stood -/
def StS (l m : List Lv) : Prop := Srt m ∧ ∀ k j, cls k j m = cls k j l
theorem cls_cons (k j : Int) (x : Lv) (l : List Lv) : cls k j (x :: l) = if x.key = k ∧ x.job = j then x :: cls k j l else cls k j l := by
  unfold cls
  by_cases h : x.key = k ∧ x.job = j
  · rw [if_pos h, List.filter_cons_of_pos (by simp [h])]
  · rw [if_neg h, List.filter_cons_of_neg (by simpa using h)]
theorem srt_ext : ∀ {a b : List Lv}, Srt a → Srt b → (∀ k j, cls k j a = cls k j b) → a = b
  | [], [], _, _, _ => rfl
  | [], y :: b, _, _, h => by have := h y.key y.job; rw [cls_cons, if_pos ⟨rfl, rfl⟩] at this; cases this
  | x :: a, [], _, _, h => by have := h x.key x.job; rw [cls_cons, if_pos ⟨rfl, rfl⟩] at this; cases this
  | x :: a, y :: b, ha, hb, h => by
    have ha' := List.pairwise_cons.1 ha
    have hb' := List.pairwise_cons.1 hb
    have hx := h x.key x.job
    have hy := h y.key y.job
    have hxy : ¬ y.lt x := by
      have : y ∈ cls y.key y.job (x :: a) := by rw [hy, cls_cons, if_pos ⟨rfl, rfl⟩]; simp
      rcases List.mem_cons.1 (mem_cls.1 this).1 with rfl | hm
      · exact Lv.lt_irrefl _
      · exact ha'.1 y hm
    have hyx : ¬ x.lt y := by
      have : x ∈ cls x.key x.job (y :: b) := by rw [← hx, cls_cons, if_pos ⟨rfl, rfl⟩]; simp
      rcases List.mem_cons.1 (mem_cls.1 this).1 with rfl | hm
      · exact Lv.lt_irrefl _
      · exact hb'.1 x hm
    have hk : y.key = x.key ∧ y.job = x.job := by unfold Lv.lt at hxy hyx; omega
    rw [cls_cons, if_pos ⟨rfl, rfl⟩, cls_cons, if_pos hk] at hx
    obtain ⟨rfl, _⟩ := List.cons.inj hx
    congr 1
    refine srt_ext ha'.2 hb'.2 fun k j => ?_
    have := h k j
    rw [cls_cons, cls_cons] at this
    split at this
    · exact (List.cons.inj this).2
    · exact this
theorem StS.uniq {l a b : List Lv} (ha : StS l a) (hb : StS l b) : a = b := srt_ext ha.1 hb.1 fun k j => (ha.2 k j).trans (hb.2 k j).symm
theorem StS.mem {l m : List Lv} (h : StS l m) {x : Lv} : x ∈ m ↔ x ∈ l := by
  have := h.2 x.key x.job
  constructor
  · intro hx
    have : x ∈ cls x.key x.job l := by rw [← this]; exact mem_cls.2 ⟨hx, rfl, rfl⟩
    exact (mem_cls.1 this).1
  · intro hx
    have : x ∈ cls x.key x.job m := by rw [this]; exact mem_cls.2 ⟨hx, rfl, rfl⟩
    exact (mem_cls.1 this).1
theorem StS.app {l1 l2 m1 m2 : List Lv} (h1 : StS l1 m1) (h2 : StS l2 m2) (h : ∀ x ∈ l1, ∀ y ∈ l2, ¬ y.lt x) : StS (l1 ++ l2) (m1 ++ m2) := by
  refine ⟨List.pairwise_append.2 ⟨h1.1, h2.1, fun x hx y hy => h x (h1.mem.1 hx) y (h2.mem.1 hy)⟩, fun k j => ?_⟩
  rw [cls_app, cls_app, h1.2, h2.2]
theorem StS.perm {l l' m : List Lv} (h : StS l m) (he : ∀ k j, cls k j l' = cls k j l) : StS l' m := ⟨h.1, fun k j => (h.2 k j).trans (he k j).symm⟩
theorem StS.self {l : List Lv} (h : Srt l) : StS l l := ⟨h, fun _ _ => rfl⟩
theorem StS.trans {l m n : List Lv} (h : StS l m) (k : StS m n) : StS l n := ⟨k.1, fun a b => (k.2 a b).trans (h.2 a b)⟩
/-- where one is strictly ahead of all of the others, nothing is alike -/
theorem cls_swap {a b : List Lv} (h : ∀ x ∈ a, ∀ y ∈ b, y.lt x) (k j : Int) : cls k j (b ++ a) = cls k j (a ++ b) := by
  rw [cls_app, cls_app]
  cases ha : cls k j a with
  | nil => simp
  | cons x r =>
    have hx : x ∈ cls k j a := by rw [ha]; simp
    have hb : cls k j b = [] := by
      refine List.filter_eq_nil_iff.2 fun y hy => ?_
      have h1 := h x (mem_cls.1 hx).1 y hy
      have h2 := (mem_cls.1 hx).2
      simp only [Bool.and_eq_true, beq_iff_eq, not_and]
      intro h3 h4
      unfold Lv.lt at h1
      omega
    rw [hb]; simp
theorem Srt.take {l : List Lv} (h : Srt l) (n : Nat) : Srt (l.take n) := h.sublist (List.take_sublist _ _)
theorem Srt.drop {l : List Lv} (h : Srt l) (n : Nat) : Srt (l.drop n) := h.sublist (List.drop_sublist _ _)
/-- one more is laid into those that are in order, behind those that are alike -/
theorem StS.insert {l a b : List Lv} {x : Lv} (h : StS l (a ++ b)) (h1 : ∀ y ∈ a, ¬ x.lt y) (h2 : ∀ y ∈ b, x.lt y) : StS (l ++ [x]) (a ++ x :: b) := by
  have hs := List.pairwise_append.1 h.1
  refine ⟨List.pairwise_append.2 ⟨hs.1, List.pairwise_cons.2 ⟨fun y hy => Lv.lt_asymm (h2 y hy), hs.2.1⟩, fun y hy z hz => ?_⟩, fun k j => ?_⟩
  · rcases List.mem_cons.1 hz with rfl | hz
    · exact h1 y hy
    · exact hs.2.2 y hy z hz
  · have e : cls k j (x :: b) = cls k j (b ++ [x]) := cls_swap (a := b) (b := [x]) (fun y hy z hz => by rw [List.mem_singleton.1 hz]; exact h2 y hy) k j
    rw [cls_app, e, ← cls_app, ← List.append_assoc, cls_app, h.2, cls_app]
/-- of two that are in order, with a cut: what is merged on both sides -/
theorem StS.cut {x1 x2 y1 y2 m1 m2 : List Lv} (hx : Srt (x1 ++ x2)) (hy : Srt (y1 ++ y2)) (h1 : StS (x1 ++ y1) m1) (h2 : StS (x2 ++ y2) m2) (ha : ∀ a ∈ x1, ∀ b ∈ y2, ¬ b.lt a) (hb : ∀ a ∈ x2, ∀ b ∈ y1, b.lt a) : StS ((x1 ++ x2) ++ (y1 ++ y2)) (m1 ++ m2) := by
  have px := List.pairwise_append.1 hx
  have py := List.pairwise_append.1 hy
  refine (StS.app h1 h2 ?_).perm fun k j => ?_
  · intro a ha1 b hb1
    rcases List.mem_append.1 ha1 with q1 | q1 <;> rcases List.mem_append.1 hb1 with q2 | q2
    · exact px.2.2 a q1 b q2
    · exact ha a q1 b q2
    · exact Lv.lt_asymm (hb b q2 a q1)
    · exact py.2.2 a q1 b q2
  · have e := cls_swap (a := x2) (b := y1) hb k j
    rw [cls_app, cls_app] at e
    simp only [cls_app]
    rw [List.append_assoc, List.append_assoc, ← List.append_assoc (cls k j x2), ← e, List.append_assoc]
end Go.Abs
namespace Go.Abs
open Go.Proofs
set_option maxRecDepth 100000
set_option linter.unusedVariables false
theorem get_mid {α : Type} (U V : List α) (y : α) : (U ++ y :: V)[U.length]? = some y := by simp
theorem set_mid {α : Type} (U V : List α) (x y : α) : (U ++ y :: V).set U.length x = U ++ x :: V := by simp
section
variable {B0 S : AH} {W : List Nat} {own : List Own} {ro : List Fct} {Q : Post} {k : AV → AC} {v : AV} {L : List Lv}
theorem lvs_get? {i : Nat} {x : Lv} (h : L[i]? = some x) : (lvs L)[i]? = some x.cs := by unfold lvs; rw [List.getElem?_map, h]; rfl
/-- an element of one's own, read and written -/
theorem wp_ownL (H : Cx B0 W S (.sl v 4 (lvs L) :: own) ro) {i : Nat} {x : Lv} (hi : L[i]? = some x) (h : wp EM (k (.agg x.cs)) S Q) : wp EM (.op (.saddr 4 v (I (i : Int))) fun p => .op (.load 4 true p) k) S Q := by
  refine wp_saddro H 0 rfl (lvs_get? hi) fun id off hp => ?_
  have := wp_loadFn (M := EM) (k := k) (S := S) (Q := Q) (j := 0) (n := 4) hp (by show 0 + 4 ≤ 4; omega) h
  exact this
theorem wp_ownS (H : Cx B0 W S (.sl v 4 (lvs L) :: own) ro) {i : Nat} {x : Lv} (hi : i < L.length) (h : ∀ S1, Cx B0 W S1 (.sl v 4 (lvs (L.set i x)) :: own) ro → wp EM (k uv) S1 Q) : wp EM (.op (.saddr 4 v (I (i : Int))) fun p => .op (.store 4 p (.agg x.cs)) k) S Q := by
  refine wp_storeE (i := i) (y := .agg x.cs) H 0 rfl (by rw [lvs_len]; exact hi) rfl rfl fun S1 H1 => h S1 ?_
  have H1 : Cx B0 W S1 (.sl v 4 ((lvs L).set i x.cs) :: own) ro := H1
  rw [lvs_set] at H1
  exact H1
/-- a place, told by its number -/
theorem wp_ownLZ (H : Cx B0 W S (.sl v 4 (lvs L) :: own) ro) {z : Int} {i : Nat} {x : Lv} (hz : z = (i : Int)) (hi : L[i]? = some x) (h : wp EM (k (.agg x.cs)) S Q) : wp EM (.op (.saddr 4 v (I z)) fun p => .op (.load 4 true p) k) S Q := by
  subst hz; exact wp_ownL H hi h
theorem wp_ownSZ (H : Cx B0 W S (.sl v 4 (lvs L) :: own) ro) {z : Int} {i : Nat} {x : Lv} (hz : z = (i : Int)) (hi : i < L.length) (h : ∀ S1, Cx B0 W S1 (.sl v 4 (lvs (L.set i x)) :: own) ro → wp EM (k uv) S1 Q) : wp EM (.op (.saddr 4 v (I z)) fun p => .op (.store 4 p (.agg x.cs)) k) S Q := by
  subst hz; exact wp_ownS H hi h
theorem wp_ownN (H : Cx B0 W S own ro) (n : Nat) (hm : own[n]? = some (.sl v 4 (lvs L))) {i : Nat} {x : Lv} (hi : L[i]? = some x) (h : wp EM (k (.agg x.cs)) S Q) : wp EM (.op (.saddr 4 v (I (i : Int))) fun p => .op (.load 4 true p) k) S Q := by
  refine wp_saddro H n hm (lvs_get? hi) fun id off hp => ?_
  have := wp_loadFn (M := EM) (k := k) (S := S) (Q := Q) (j := 0) (n := 4) hp (by show 0 + 4 ≤ 4; omega) h
  exact this
/-- the same, within what is asked of both -/
theorem wp_ownG (H : Cx B0 W S (.sl v 4 (lvs L) :: own) ro) {z : Int} {i : Nat} {x : Lv} (hz : z = (i : Int)) (hi : L[i]? = some x) (h : wp EM (k (.agg x.cs)) S Q) : wp EM (.op (.saddr 4 v (I z)) fun p => .gop (B true) true (.load 4 true p) k) S Q := by
  subst hz
  refine wp_saddro H 0 rfl (lvs_get? hi) fun id off hp => ?_
  refine wp_gop_t ?_
  have := wp_loadFn (M := EM) (k := k) (S := S) (Q := Q) (j := 0) (n := 4) hp (by show 0 + 4 ≤ 4; omega) h
  exact this
theorem nanU_ok {S : AH} {a : Int} : wpC EM (.fn (.func 64) [] []) [U a] S fun r S' => r = B false ∧ Grows S S' := by
  refine wpC_fn (b := Try.a64) rfl rfl ?_
  unfold Try.a64
  refine wp_neq_f rfl ?_
  exact wp_ret ⟨rfl, rfl, Grows.refl _⟩
theorem compareU_ok {S : AH} {a b : Int} : wpC EM (.fn (.func 48) [] []) [U a, U b] S fun r S' => r = I (cmpI a b) ∧ Grows S S' := by
  refine wpC_fn (b := Try.a48) rfl rfl ?_
  have H : Cx S [] S [] [] := Cx.enter (by simp)
  unfold Try.a48 Try.a48x0
  unfold cmpI
  refine wp_callV H nanU_ok fun S1 H => ?_
  refine wp_callV H nanU_ok fun S2 H => ?_
  repeat (first|refine zA ?_|refine zB rfl ?_|refine zC ?_|refine zD ?_|refine zE rfl ?_|refine zF ?_|refine zG ?_|refine zH ?_|refine zI ?_|refine zJ ?_|refine zK ?_|refine zL rfl ?_|refine zN rfl ?_)
  refine wp_lss (fun h => ?_) (fun h => ?_)
  · rw [if_pos h]
    repeat (first|refine zA ?_|refine zB rfl ?_|refine zC ?_|refine zD ?_|refine zE rfl ?_|refine zF ?_|refine zG ?_|refine zH ?_|refine zI ?_|refine zJ ?_|refine zK ?_|refine zL rfl ?_|refine zN rfl ?_)
    exact wp_ret ⟨rfl, rfl, H.grows⟩
  rw [if_neg (by omega)]
  repeat (first|refine zA ?_|refine zB rfl ?_|refine zC ?_|refine zD ?_|refine zE rfl ?_|refine zF ?_|refine zG ?_|refine zH ?_|refine zI ?_|refine zJ ?_|refine zK ?_|refine zL rfl ?_|refine zN rfl ?_)
  refine wp_gtr (fun h2 => ?_) (fun h2 => ?_)
  · rw [if_pos h2]
    repeat (first|refine zA ?_|refine zB rfl ?_|refine zC ?_|refine zD ?_|refine zE rfl ?_|refine zF ?_|refine zG ?_|refine zH ?_|refine zI ?_|refine zJ ?_|refine zK ?_|refine zL rfl ?_|refine zN rfl ?_)
    exact wp_ret ⟨rfl, rfl, H.grows⟩
  · rw [if_neg (by omega)]
    repeat (first|refine zA ?_|refine zB rfl ?_|refine zC ?_|refine zD ?_|refine zE rfl ?_|refine zF ?_|refine zG ?_|refine zH ?_|refine zI ?_|refine zJ ?_|refine zK ?_|refine zL rfl ?_|refine zN rfl ?_)
    exact wp_ret ⟨rfl, rfl, H.grows⟩
def lvo (a b : Lv) : Int := orI [cmpI a.key b.key, cmpI a.job b.job]
theorem lvo_lt {a b : Lv} : lvo a b < 0 ↔ a.lt b := by
  unfold lvo orI orI orI cmpI Lv.lt
  repeat' split
  all_goals omega
theorem orderL_ok {S : AH} {a b : Lv} : wpC EM (.fn (.func 31) [] []) [.agg a.cs, .agg b.cs] S fun r S' => r = I (lvo a b) ∧ Grows S S' := by
  refine wpC_fn (b := Try.a31) rfl rfl ?_
  have H : Cx S [] S [] [] := Cx.enter (by simp)
  unfold Try.a31 Try.a31x1 Try.a31x0
  refine wp_box H rfl fun p S1 H => ?_
  refine wp_box H rfl fun q S2 H => ?_
  repeat (first|refine zA ?_|refine zB rfl ?_|refine zC ?_|refine zD ?_|refine zE rfl ?_|refine zF ?_|refine zG ?_|refine zH ?_|refine zI ?_|refine zJ ?_|refine zK ?_|refine zL rfl ?_|refine zN rfl ?_)
  refine wp_load1 (id := p) (j := 3) H (cs := a.cs) (by repeat (first | exact List.Mem.head _ | apply List.Mem.tail)) rfl ?_
  repeat (first|refine zA ?_|refine zB rfl ?_|refine zC ?_|refine zD ?_|refine zE rfl ?_|refine zF ?_|refine zG ?_|refine zH ?_|refine zI ?_|refine zJ ?_|refine zK ?_|refine zL rfl ?_|refine zN rfl ?_)
  refine wp_load1 (id := q) (j := 3) H (cs := b.cs) (by repeat (first | exact List.Mem.head _ | apply List.Mem.tail)) rfl ?_
  repeat (first|refine zA ?_|refine zB rfl ?_|refine zC ?_|refine zD ?_|refine zE rfl ?_|refine zF ?_|refine zG ?_|refine zH ?_|refine zI ?_|refine zJ ?_|refine zK ?_|refine zL rfl ?_|refine zN rfl ?_)
  refine wp_load1 (id := p) (j := 0) H (cs := a.cs) (by repeat (first | exact List.Mem.head _ | apply List.Mem.tail)) rfl ?_
  repeat (first|refine zA ?_|refine zB rfl ?_|refine zC ?_|refine zD ?_|refine zE rfl ?_|refine zF ?_|refine zG ?_|refine zH ?_|refine zI ?_|refine zJ ?_|refine zK ?_|refine zL rfl ?_|refine zN rfl ?_)
  refine wp_load1 (id := q) (j := 0) H (cs := b.cs) (by repeat (first | exact List.Mem.head _ | apply List.Mem.tail)) rfl ?_
  refine wp_callV H compareU_ok fun S3 H => ?_
  refine wp_chk1 (id := p) (off := 0) (j := 0) (cs := a.cs) H (by repeat (first | exact List.Mem.head _ | apply List.Mem.tail)) rfl beq_num ?_
  refine wp_chk1 (id := q) (off := 0) (j := 0) (cs := b.cs) H (by repeat (first | exact List.Mem.head _ | apply List.Mem.tail)) rfl beq_num ?_
  refine wp_callV H compare_ok fun S4 H => ?_
  refine wp_two H rfl rfl rfl rfl fun v S5 H => ?_
  refine wp_callV H (or_ok (l := [cmpI a.key b.key, cmpI a.job b.job]) (H.roSl (by repeat (first | exact List.Mem.head _ | apply List.Mem.tail))) (by simp)) fun S6 H => ?_
  exact wp_ret ⟨rfl, rfl, H.grows⟩
/-- two ranges that lie apart are exchanged -/
theorem swapRange_ok {P X M Y R : List Lv} {f : AV} (hn : X.length = Y.length) (hl : (P ++ (X ++ (M ++ (Y ++ R)))).length < 1000000) (H : Cx B0 W S (.sl v 4 (lvs (P ++ (X ++ (M ++ (Y ++ R))))) :: own) ro) :
    wpC EM (.fn (.func 93) [] []) [v, I (P.length : Int), I ((P.length + X.length + M.length : Nat) : Int), I (X.length : Int), f] S fun _ S' => Cx B0 W S' (.sl v 4 (lvs (P ++ (Y ++ (M ++ (X ++ R))))) :: own) ro := by
  refine wpC_fn (b := Try.a93) rfl rfl ?_
  unfold Try.a93 Try.a93x3 Try.a93x2 Try.a93x1 Try.a93x0
  refine wp_bind (wp_loop (wpL_inv (fun m vs S1 => ∃ (i : Nat), vs = [I (i : Int)] ∧ i ≤ X.length ∧ m = X.length - i ∧ Cx B0 W S1 (.sl v 4 (lvs (P ++ ((Y.take i ++ X.drop i) ++ (M ++ ((X.take i ++ Y.drop i) ++ R))))) :: own) ro) ?_ X.length ⟨0, rfl, by omega, by omega, by simpa using H⟩))
  clear H
  rintro m vs S1 ⟨i, rfl, hi, rfl, H⟩
  simp only [List.length_append] at hl
  refine wp_lss (fun hlt => ?_) (fun hge => ?_)
  · have hlt : i < X.length := by omega
    have hltY : i < Y.length := by omega
    have e1 : X.drop i = X[i] :: X.drop (i + 1) := List.drop_eq_getElem_cons hlt
    have e2 : Y.drop i = Y[i] :: Y.drop (i + 1) := List.drop_eq_getElem_cons hltY
    have t1 : X.take (i + 1) = X.take i ++ [X[i]] := List.take_succ_eq_append_getElem hlt
    have t2 : Y.take (i + 1) = Y.take i ++ [Y[i]] := List.take_succ_eq_append_getElem hltY
    have l1 : (X.take i).length = i := by rw [List.length_take]; omega
    have l2 : (Y.take i).length = i := by rw [List.length_take]; omega
    -- two ways to see the list: by its first place, by its second
    have shape : ∀ a b : Lv, P ++ ((Y.take i ++ a :: X.drop (i + 1)) ++ (M ++ ((X.take i ++ b :: Y.drop (i + 1)) ++ R))) = (P ++ Y.take i) ++ a :: (X.drop (i + 1) ++ (M ++ ((X.take i ++ b :: Y.drop (i + 1)) ++ R))) := by intro a b; simp
    have shape2 : ∀ a b : Lv, P ++ ((Y.take i ++ a :: X.drop (i + 1)) ++ (M ++ ((X.take i ++ b :: Y.drop (i + 1)) ++ R))) = (P ++ ((Y.take i ++ a :: X.drop (i + 1)) ++ (M ++ X.take i))) ++ b :: (Y.drop (i + 1) ++ R) := by intro a b; simp
    have n1 : (P ++ Y.take i).length = P.length + i := by rw [List.length_append, l2]
    have n2 : ∀ a : Lv, (P ++ ((Y.take i ++ a :: X.drop (i + 1)) ++ (M ++ X.take i))).length = P.length + X.length + M.length + i := by
      intro a; simp only [List.length_append, List.length_cons, List.length_drop, l1, l2]; omega
    rw [e1, e2] at H
    repeat (first|refine zA ?_|refine zB rfl ?_|refine zC ?_|refine zD ?_|refine zE rfl ?_|refine zF ?_|refine zG ?_|refine zH ?_|refine zI ?_|refine zJ ?_|refine zK ?_|refine zL rfl ?_|refine zN rfl ?_)
    refine wp_bind ?_
    refine wp_add64 (by omega) (by omega) ?_
    refine wp_add64 (by omega) (by omega) ?_
    refine wp_add64 (by omega) (by omega) ?_
    refine wp_ownLZ (i := P.length + X.length + M.length + i) (x := Y[i]) H (by omega) (by rw [shape2, ← n2 X[i]]; exact get_mid _ _ _) ?_
    refine wp_add64 (by omega) (by omega) ?_
    refine wp_ownLZ (i := P.length + i) (x := X[i]) H (by omega) (by rw [shape, ← n1]; exact get_mid _ _ _) ?_
    refine wp_ownSZ (i := P.length + i) (x := Y[i]) H (by omega) (by rw [shape]; simp only [List.length_append, List.length_cons, l2]; omega) fun S2 H => ?_
    have s1 : (P ++ ((Y.take i ++ X[i] :: X.drop (i + 1)) ++ (M ++ ((X.take i ++ Y[i] :: Y.drop (i + 1)) ++ R)))).set (P.length + i) Y[i] = P ++ ((Y.take i ++ Y[i] :: X.drop (i + 1)) ++ (M ++ ((X.take i ++ Y[i] :: Y.drop (i + 1)) ++ R))) := by
      rw [shape, ← n1, set_mid, ← shape]
    rw [s1] at H
    refine wp_ownSZ (i := P.length + X.length + M.length + i) (x := X[i]) H (by omega) (by rw [shape2, ← n2 Y[i]]; simp) fun S3 H => ?_
    have s2 : (P ++ ((Y.take i ++ Y[i] :: X.drop (i + 1)) ++ (M ++ ((X.take i ++ Y[i] :: Y.drop (i + 1)) ++ R)))).set (P.length + X.length + M.length + i) X[i] = P ++ ((Y.take i ++ Y[i] :: X.drop (i + 1)) ++ (M ++ ((X.take i ++ X[i] :: Y.drop (i + 1)) ++ R))) := by
      rw [shape2, ← n2 Y[i], set_mid, ← shape2]
    rw [s2] at H
    refine wp_ret ?_
    show wp EM _ _ _
    refine wp_add64 (by omega) (by omega) (wp_ret (.inl ⟨rfl, X.length - (i + 1), by omega, i + 1, rfl, by omega, rfl, ?_⟩))
    rw [t1, t2]
    simpa only [List.append_assoc, List.cons_append, List.nil_append] using H
  · have : i = X.length := by omega
    subst this
    repeat (first|refine zA ?_|refine zB rfl ?_|refine zC ?_|refine zD ?_|refine zE rfl ?_|refine zF ?_|refine zG ?_|refine zH ?_|refine zI ?_|refine zJ ?_|refine zK ?_|refine zL rfl ?_|refine zN rfl ?_)
    refine wp_ret (.inr ⟨by simp, ?_⟩)
    show wp EM _ _ _
    refine wp_ret ⟨rfl, ?_⟩
    rw [List.take_of_length_le (by omega), List.drop_of_length_le (Nat.le_refl _), List.take_length, List.drop_of_length_le (by omega)] at H
    simpa using H
/-- two neighbours are exchanged, by exchanges of ranges -/
theorem rotate_ok {P A C R : List Lv} {f : AV} (hA : A ≠ []) (hC : C ≠ []) (hl : (P ++ (A ++ (C ++ R))).length < 1000000) (H : Cx B0 W S (.sl v 4 (lvs (P ++ (A ++ (C ++ R)))) :: own) ro) :
    wpC EM (.fn (.func 76) [] []) [v, I (P.length : Int), I ((P.length + A.length : Nat) : Int), I ((P.length + A.length + C.length : Nat) : Int), f] S fun _ S' => Cx B0 W S' (.sl v 4 (lvs (P ++ (C ++ (A ++ R)))) :: own) ro := by
  refine wpC_fn (b := Try.a76) rfl rfl ?_
  unfold Try.a76 Try.a76x4 Try.a76x3 Try.a76x2 Try.a76x1 Try.a76x0
  have hA0 : 0 < A.length := List.length_pos_iff.2 hA
  have hC0 : 0 < C.length := List.length_pos_iff.2 hC
  simp only [List.length_append] at hl
  refine wp_sub64 (by omega) (by omega) ?_
  refine wp_sub64 (by omega) (by omega) ?_
  refine wp_bind (wp_loop (wpL_inv (fun m vs S1 => ∃ (P' A' C' R' : List Lv), vs = [I (C'.length : Int), I (A'.length : Int)] ∧ 0 < A'.length ∧ 0 < C'.length ∧ m = A'.length + C'.length ∧ P'.length + A'.length = P.length + A.length ∧ P'.length + A'.length + C'.length + R'.length = P.length + A.length + C.length + R.length ∧ P' ++ (C' ++ (A' ++ R')) = P ++ (C ++ (A ++ R)) ∧ Cx B0 W S1 (.sl v 4 (lvs (P' ++ (A' ++ (C' ++ R')))) :: own) ro) ?_ (A.length + C.length) ⟨P, A, C, R, ?_, hA0, hC0, rfl, rfl, rfl, rfl, H⟩))
  rotate_left
  · have q1 : ((P.length + A.length : Nat) : Int) - (P.length : Int) = (A.length : Int) := by omega
    have q2 : ((P.length + A.length + C.length : Nat) : Int) - ((P.length + A.length : Nat) : Int) = (C.length : Int) := by omega
    rw [q1, q2]
  clear H
  rintro m vs S1 ⟨P', A', C', R', rfl, ha, hc, rfl, hpa, hall, hgoal, H⟩
  refine wp_neq (fun hne => ?_) (fun he => ?_)
  · repeat (first|refine zA ?_|refine zB rfl ?_|refine zC ?_|refine zD ?_|refine zE rfl ?_|refine zF ?_|refine zG ?_|refine zH ?_|refine zI ?_|refine zJ ?_|refine zK ?_|refine zL rfl ?_|refine zN rfl ?_)
    refine wp_bind ?_
    refine wp_gtr (fun hgt => ?_) (fun hle => ?_)
    · -- the left one is the longer one
      have hlt : C'.length < A'.length := by omega
      refine wp_bind (wp_ite_t ?_)
      refine wp_sub64 (by omega) (by omega) ?_
      have hs : A' = A'.take C'.length ++ A'.drop C'.length := (List.take_append_drop _ _).symm
      have l1 : (A'.take C'.length).length = C'.length := by rw [List.length_take]; omega
      have l2 : (A'.drop C'.length).length = A'.length - C'.length := List.length_drop ..
      generalize A'.take C'.length = A1 at hs l1
      generalize A'.drop C'.length = A2 at hs l2
      subst hs
      simp only [List.length_append] at *
      have H2 : Cx B0 W S1 (.sl v 4 (lvs (P' ++ (A1 ++ (A2 ++ (C' ++ R'))))) :: own) ro := by simpa using H
      have e1 : ((P.length + A.length : Nat) : Int) - ((A1.length + A2.length : Nat) : Int) = (P'.length : Int) := by omega
      rw [e1]
      have e2 : (P.length + A.length : Nat) = P'.length + A1.length + A2.length := by omega
      have e3 : (C'.length : Int) = (A1.length : Int) := by omega
      rw [e2, e3]
      refine wp_call (wpC_mono (swapRange_ok (P := P') (X := A1) (M := A2) (Y := C') (R := R') (by omega) (by simp only [List.length_append]; omega) H2) fun r S2 H3 => ?_)
      refine wp_sub64 (by omega) (by omega) (wp_ret ?_)
      show wp EM _ _ _
      refine wp_ret ?_
      show wp EM _ _ _
      refine wp_ret (.inl ⟨rfl, A2.length + A1.length, by omega, P' ++ C', A2, A1, R', ?_, by omega, by omega, rfl, by simp only [List.length_append]; omega, by simp only [List.length_append]; omega, ?_, by have H4 : Cx B0 W S2 (.sl v 4 _ :: own) ro := H3; simpa using H4⟩)
      · have q : ((A1.length + A2.length : Nat) : Int) - (A1.length : Int) = (A2.length : Int) := by omega
        rw [q]; rfl
      · rw [← hgoal]; simp
    · -- the right one is
      have hlt : A'.length < C'.length := by omega
      refine wp_bind (wp_ite_f ?_)
      refine wp_sub64 (by omega) (by omega) ?_
      refine wp_add64 (by omega) (by omega) ?_
      refine wp_sub64 (by omega) (by omega) ?_
      have hs : C' = C'.take (C'.length - A'.length) ++ C'.drop (C'.length - A'.length) := (List.take_append_drop _ _).symm
      have l1 : (C'.take (C'.length - A'.length)).length = C'.length - A'.length := by rw [List.length_take]; omega
      have l2 : (C'.drop (C'.length - A'.length)).length = A'.length := by rw [List.length_drop]; omega
      generalize C'.take (C'.length - A'.length) = C1 at hs l1
      generalize C'.drop (C'.length - A'.length) = C2 at hs l2
      subst hs
      simp only [List.length_append] at *
      have H2 : Cx B0 W S1 (.sl v 4 (lvs (P' ++ (A' ++ (C1 ++ (C2 ++ R'))))) :: own) ro := by simpa using H
      have e1 : ((P.length + A.length : Nat) : Int) - (A'.length : Int) = (P'.length : Int) := by omega
      have e2 : ((P.length + A.length : Nat) : Int) + ((C1.length + C2.length : Nat) : Int) - (A'.length : Int) = ((P'.length + A'.length + C1.length : Nat) : Int) := by omega
      rw [e1, e2]
      refine wp_call (wpC_mono (swapRange_ok (P := P') (X := A') (M := C1) (Y := C2) (R := R') (by omega) (by simp only [List.length_append]; omega) H2) fun r S2 H3 => ?_)
      refine wp_sub64 (by omega) (by omega) (wp_ret ?_)
      show wp EM _ _ _
      refine wp_ret ?_
      show wp EM _ _ _
      refine wp_ret (.inl ⟨rfl, C2.length + C1.length, by omega, P', C2, C1, A' ++ R', ?_, by omega, by omega, rfl, by omega, by simp only [List.length_append]; omega, ?_, by have H4 : Cx B0 W S2 (.sl v 4 _ :: own) ro := H3; simpa using H4⟩)
      · have q : ((C1.length + C2.length : Nat) : Int) - (A'.length : Int) = (C1.length : Int) := by omega
        have q2 : (A'.length : Int) = (C2.length : Int) := by omega
        rw [q, q2]; rfl
      · rw [← hgoal]; simp
  · repeat (first|refine zA ?_|refine zB rfl ?_|refine zC ?_|refine zD ?_|refine zE rfl ?_|refine zF ?_|refine zG ?_|refine zH ?_|refine zI ?_|refine zJ ?_|refine zK ?_|refine zL rfl ?_|refine zN rfl ?_)
    refine wp_ret (.inr ⟨by simp, ?_⟩)
    show wp EM _ _ _
    have e0 : A'.length = C'.length := by omega
    refine wp_sub64 (by omega) (by omega) ?_
    have e1 : ((P.length + A.length : Nat) : Int) - (A'.length : Int) = (P'.length : Int) := by omega
    have e2 : (P.length + A.length : Nat) = P'.length + A'.length + ([] : List Lv).length := by simp; omega
    show wp EM (.call _ [v, I (((P.length + A.length : Nat) : Int) - (A'.length : Int)), I ((P.length + A.length : Nat) : Int), I (A'.length : Int), f] _) _ _
    rw [e1, e2]
    refine wp_call (wpC_mono (swapRange_ok (P := P') (X := A') (M := []) (Y := C') (R := R') e0 (by simp only [List.length_append, List.length_nil]; omega) (by simpa using H)) fun r S2 H3 => ?_)
    refine wp_ret ⟨rfl, ?_⟩
    rw [← hgoal]
    simpa using H3
end
end Go.Abs
namespace Go.Abs
open Go.Proofs
set_option maxRecDepth 100000
set_option linter.unusedVariables false
section
variable {B0 S : AH} {W : List Nat} {own : List Own} {ro : List Fct} {Q : Post} {k : AV → AC} {v : AV} {L : List Lv}
/-- the function by which is sorted -/
abbrev ordF : AV := .fn (.func 31) [] []
/-- one by one, each is laid among those ahead of it -/
theorem insertion_ok {P X R : List Lv} (hl : (P ++ (X ++ R)).length < 1000000) (H : Cx B0 W S (.sl v 4 (lvs (P ++ (X ++ R))) :: own) ro) :
    wpC EM (.fn (.func 62) [] []) [v, I (P.length : Int), I ((P.length + X.length : Nat) : Int), ordF] S fun _ S' => ∃ m, StS X m ∧ m.length = X.length ∧ Cx B0 W S' (.sl v 4 (lvs (P ++ (m ++ R))) :: own) ro := by
  refine wpC_fn (b := Try.a62) rfl rfl ?_
  unfold Try.a62 Try.a62x8 Try.a62x7 Try.a62x6 Try.a62x5 Try.a62x4 Try.a62x3 Try.a62x2 Try.a62x1 Try.a62x0
  simp only [List.length_append] at hl
  refine wp_add64 (by omega) (by omega) ?_
  refine wp_bind (wp_loop (wpL_inv (fun n vs S1 => ∃ (t : Nat) (u : AV) (m : List Lv), vs = [I ((P.length + t : Nat) : Int), u] ∧ 1 ≤ t ∧ t ≤ max 1 X.length ∧ n = max 1 X.length - t ∧ StS (X.take t) m ∧ m.length = min t X.length ∧ Cx B0 W S1 (.sl v 4 (lvs (P ++ (m ++ (X.drop t ++ R)))) :: own) ro) ?_ (max 1 X.length - 1) ⟨1, .no, X.take 1, ?_, by omega, by omega, rfl, ?_, by rw [List.length_take], ?_⟩))
  rotate_left
  · rfl
  · refine StS.self ?_
    cases X with
    | nil => simp
    | cons a r => simp
  · have : X.take 1 ++ (X.drop 1 ++ R) = X ++ R := by rw [← List.append_assoc, List.take_append_drop]
    rw [this]; exact H
  clear H
  rintro n vs S1 ⟨t, u, m, rfl, ht1, ht, rfl, hm, hml, H⟩
  refine wp_lss (fun hlt => ?_) (fun hge => ?_)
  · have hlt : t < X.length := by omega
    have hml : m.length = t := by omega
    have hdr : X.drop t = X[t] :: X.drop (t + 1) := List.drop_eq_getElem_cons hlt
    rw [hdr] at H
    repeat (first|refine zA ?_|refine zB rfl ?_|refine zC ?_|refine zD ?_|refine zE rfl ?_|refine zF ?_|refine zG ?_|refine zH ?_|refine zI ?_|refine zJ ?_|refine zK ?_|refine zL rfl ?_|refine zN rfl ?_)
    refine wp_bind ?_
    refine wp_bind (wp_loop (wpL_inv (fun n vs S1 => ∃ (a b : List Lv), vs = [I ((P.length + a.length : Nat) : Int)] ∧ n = a.length ∧ a ++ b = m ∧ (∀ y ∈ b, X[t].lt y) ∧ Cx B0 W S1 (.sl v 4 (lvs ((P ++ a) ++ X[t] :: (b ++ (X.drop (t + 1) ++ R)))) :: own) ro) ?_ t ⟨m, [], by rw [hml]; rfl, hml.symm, by simp, by simp, by simpa only [List.append_assoc, List.cons_append, List.nil_append] using H⟩))
    clear H
    rintro n vs S2 ⟨a, b, rfl, rfl, hab, hb, H⟩
    have hal : a.length + b.length = t := by rw [← hml, ← hab, List.length_append]
    have lenA : (P ++ a).length = P.length + a.length := List.length_append ..
    -- it stands where it is to be
    have fin : ∀ S2, Cx B0 W S2 (.sl v 4 (lvs ((P ++ a) ++ X[t] :: (b ++ (X.drop (t + 1) ++ R)))) :: own) ro → (∀ y ∈ a, ¬ X[t].lt y) → StS (X.take (t + 1)) (a ++ X[t] :: b) ∧ (a ++ X[t] :: b).length = min (t + 1) X.length ∧ Cx B0 W S2 (.sl v 4 (lvs (P ++ ((a ++ X[t] :: b) ++ (X.drop (t + 1) ++ R)))) :: own) ro := by
      intro S2 H ha
      refine ⟨?_, by simp only [List.length_append, List.length_cons]; omega, by simpa only [List.append_assoc, List.cons_append, List.nil_append] using H⟩
      rw [List.take_succ_eq_append_getElem hlt]
      exact StS.insert (by rw [hab]; exact hm) ha hb
    refine wp_gtr (fun hgt => ?_) (fun hle => ?_)
    · have ha0 : a ≠ [] := by intro h; rw [h] at hgt; simp at hgt
      obtain ⟨a', y, rfl⟩ : ∃ a' y, a = a' ++ [y] := ⟨a.dropLast, a.getLast ha0, (List.dropLast_concat_getLast ha0).symm⟩
      simp only [List.length_append, List.length_singleton] at hal lenA hgt ⊢
      have sh : ∀ p q : Lv, (P ++ (a' ++ [p])) ++ q :: (b ++ (X.drop (t + 1) ++ R)) = (P ++ a') ++ p :: q :: (b ++ (X.drop (t + 1) ++ R)) := by intro p q; simp only [List.append_assoc, List.cons_append, List.nil_append]
      have sh2 : ∀ p q : Lv, (P ++ a') ++ p :: q :: (b ++ (X.drop (t + 1) ++ R)) = ((P ++ a') ++ [p]) ++ q :: (b ++ (X.drop (t + 1) ++ R)) := by intro p q; simp only [List.append_assoc, List.cons_append, List.nil_append]
      have n1 : (P ++ a').length = P.length + a'.length := List.length_append ..
      have n2 : ∀ p : Lv, ((P ++ a') ++ [p]).length = P.length + a'.length + 1 := by intro p; rw [List.length_append, n1]; rfl
      rw [sh] at H
      have g1 : ∀ p q : Lv, ((P ++ a') ++ p :: q :: (b ++ (X.drop (t + 1) ++ R)))[P.length + a'.length]? = some p := by intro p q; rw [← n1]; exact get_mid _ _ _
      have g2 : ∀ p q : Lv, ((P ++ a') ++ p :: q :: (b ++ (X.drop (t + 1) ++ R)))[P.length + a'.length + 1]? = some q := by intro p q; rw [sh2, ← n2 p]; exact get_mid _ _ _
      repeat (first|refine zA ?_|refine zB rfl ?_|refine zC ?_|refine zD ?_|refine zE rfl ?_|refine zF ?_|refine zG ?_|refine zH ?_|refine zI ?_|refine zJ ?_|refine zK ?_|refine zL rfl ?_|refine zN rfl ?_)
      refine wp_ownG (i := P.length + a'.length + 1) (x := X[t]) H (by omega) (g2 _ _) ?_
      repeat (first|refine zA ?_|refine zB rfl ?_|refine zC ?_|refine zD ?_|refine zE rfl ?_|refine zF ?_|refine zG ?_|refine zH ?_|refine zI ?_|refine zJ ?_|refine zK ?_|refine zL rfl ?_|refine zN rfl ?_)
      refine wp_sub64 (by omega) (by omega) ?_
      repeat (first|refine zA ?_|refine zB rfl ?_|refine zC ?_|refine zD ?_|refine zE rfl ?_|refine zF ?_|refine zG ?_|refine zH ?_|refine zI ?_|refine zJ ?_|refine zK ?_|refine zL rfl ?_|refine zN rfl ?_)
      refine wp_ownG (i := P.length + a'.length) (x := y) H (by omega) (g1 _ _) ?_
      repeat (first|refine zA ?_|refine zB rfl ?_|refine zC ?_|refine zD ?_|refine zE rfl ?_|refine zF ?_|refine zG ?_|refine zH ?_|refine zI ?_|refine zJ ?_|refine zK ?_|refine zL rfl ?_|refine zN rfl ?_)
      refine wp_callV H (orderL_ok (a := X[t]) (b := y)) fun S3 H => ?_
      repeat (first|refine zA ?_|refine zB rfl ?_|refine zC ?_|refine zD ?_|refine zE rfl ?_|refine zF ?_|refine zG ?_|refine zH ?_|refine zI ?_|refine zJ ?_|refine zK ?_|refine zL rfl ?_|refine zN rfl ?_)
      refine wp_lss (fun hneg => ?_) (fun hpos => ?_)
      · have hly := lvo_lt.1 hneg
        repeat (first|refine zA ?_|refine zB rfl ?_|refine zC ?_|refine zD ?_|refine zE rfl ?_|refine zF ?_|refine zG ?_|refine zH ?_|refine zI ?_|refine zJ ?_|refine zK ?_|refine zL rfl ?_|refine zN rfl ?_)
        refine wp_bind ?_
        refine wp_sub64 (by omega) (by omega) ?_
        refine wp_sub64 (by omega) (by omega) ?_
        refine wp_ownLZ (i := P.length + a'.length) (x := y) H (by omega) (g1 _ _) ?_
        refine wp_ownLZ (i := P.length + a'.length + 1) (x := X[t]) H (by omega) (g2 _ _) ?_
        refine wp_ownSZ (i := P.length + a'.length + 1) (x := y) H (by omega) (by rw [sh2, ← n2 y]; simp) fun S4 H => ?_
        have s1 : ((P ++ a') ++ y :: X[t] :: (b ++ (X.drop (t + 1) ++ R))).set (P.length + a'.length + 1) y = (P ++ a') ++ y :: y :: (b ++ (X.drop (t + 1) ++ R)) := by rw [sh2, ← n2 y, set_mid, ← sh2]
        rw [s1] at H
        refine wp_ownSZ (i := P.length + a'.length) (x := X[t]) H (by omega) (by rw [← n1]; simp) fun S5 H => ?_
        have s2 : ((P ++ a') ++ y :: y :: (b ++ (X.drop (t + 1) ++ R))).set (P.length + a'.length) X[t] = (P ++ a') ++ X[t] :: y :: (b ++ (X.drop (t + 1) ++ R)) := by rw [← n1, set_mid]
        rw [s2] at H
        refine wp_ret ?_
        show wp EM _ _ _
        refine wp_sub64 (by omega) (by omega) (wp_ret (.inl ⟨rfl, a'.length, by omega, a', y :: b, ?_, rfl, by rw [← hab]; simp, ?_, by simpa only [List.append_assoc, List.cons_append, List.nil_append] using H⟩))
        · have q : ((P.length + (a'.length + 1) : Nat) : Int) - 1 = ((P.length + a'.length : Nat) : Int) := by omega
          show [I _] = [I _]
          rw [q]
        · intro z hz
          rcases List.mem_cons.1 hz with rfl | hz
          · exact hly
          · exact hb z hz
      · have hny : ¬ X[t].lt y := fun h => by have := lvo_lt.2 h; omega
        repeat (first|refine zA ?_|refine zB rfl ?_|refine zC ?_|refine zD ?_|refine zE rfl ?_|refine zF ?_|refine zG ?_|refine zH ?_|refine zI ?_|refine zJ ?_|refine zK ?_|refine zL rfl ?_|refine zN rfl ?_)
        rw [← sh] at H
        have hsrt : Srt (a' ++ [y]) := by
          have := hm.1
          rw [← hab] at this
          exact (List.pairwise_append.1 this).1
        obtain ⟨f1, f2, f3⟩ := fin S3 H fun z hz => by
          rcases List.mem_append.1 hz with hz | hz
          · exact fun h => (List.pairwise_append.1 hsrt).2.2 z hz y (by simp) |> fun hyz => hny (Lv.lt_le h hyz)
          · rw [List.mem_singleton.1 hz]; exact hny
        refine wp_ret (.inr ⟨by simp, ?_⟩)
        show wp EM _ _ _
        refine wp_ret ?_
        show wp EM _ _ _
        refine wp_add64 (by omega) (by omega) (wp_ret (.inl ⟨rfl, max 1 X.length - (t + 1), by omega, t + 1, _, _, rfl, by omega, by omega, rfl, f1, f2, f3⟩))
    · have ha0 : a = [] := by cases a with
        | nil => rfl
        | cons z r => simp at hle; omega
      subst ha0
      repeat (first|refine zA ?_|refine zB rfl ?_|refine zC ?_|refine zD ?_|refine zE rfl ?_|refine zF ?_|refine zG ?_|refine zH ?_|refine zI ?_|refine zJ ?_|refine zK ?_|refine zL rfl ?_|refine zN rfl ?_)
      obtain ⟨f1, f2, f3⟩ := fin S2 H (by simp)
      refine wp_ret (.inr ⟨by simp, ?_⟩)
      show wp EM _ _ _
      refine wp_ret ?_
      show wp EM _ _ _
      refine wp_add64 (by omega) (by omega) (wp_ret (.inl ⟨rfl, max 1 X.length - (t + 1), by omega, t + 1, _, _, rfl, by omega, by omega, rfl, f1, f2, f3⟩))
  · repeat (first|refine zA ?_|refine zB rfl ?_|refine zC ?_|refine zD ?_|refine zE rfl ?_|refine zF ?_|refine zG ?_|refine zH ?_|refine zI ?_|refine zJ ?_|refine zK ?_|refine zL rfl ?_|refine zN rfl ?_)
    refine wp_ret (.inr ⟨by simp, ?_⟩)
    show wp EM _ _ _
    have hX : X.length ≤ t := by omega
    rw [List.take_of_length_le hX] at hm
    rw [List.drop_of_length_le hX] at H
    exact wp_ret ⟨rfl, m, hm, by omega, by simpa using H⟩
end
end Go.Abs
namespace Go.Abs
open Go.Proofs
set_option maxRecDepth 100000
set_option linter.unusedVariables false
section
variable {B0 S : AH} {W : List Nat} {own : List Own} {ro : List Fct} {Q : Post} {k : AV → AC} {v : AV} {L : List Lv}
/-- the middle -/
theorem wp_half {m n : Nat} {x y : Int} (hx : x = (m : Int)) (hy : y = (n : Int)) (hb : m + n < 4000000) (h : wp EM (k (I (((m + n) / 2 : Nat) : Int))) S Q) :
    wp EM (.op (.bin .add (I x) (I y)) fun v5 => .op (.conv .u64 v5) fun v6 => .op (.bin .shr v6 (U 1)) fun v7 => .op (.conv .i64 v7) k) S Q := by
  subst hx; subst hy
  refine wp_add64 (by omega) (by omega) ?_
  refine wp_conv (c := ((m + n : Nat) : Int)) (by rw [wrapF_eq, IntKind.wrap_u64]; omega) ?_
  refine wp_shrU (s := 1) (by omega) (by omega) ?_
  refine wp_conv (c := (((m + n) / 2 : Nat) : Int)) (by rw [wrap64 (by omega) (by omega)]) ?_
  exact h
theorem len_3 (P X R : List Lv) : (P ++ (X ++ R)).length = P.length + X.length + R.length := by simp; omega
theorem get_at {P X R : List Lv} {i : Nat} (h : i < X.length) : (P ++ (X ++ R))[P.length + i]? = some X[i] := by
  rw [List.getElem?_append_right (by omega), Nat.add_sub_cancel_left, List.getElem?_append_left h, List.getElem?_eq_getElem h]
theorem get_at2 {P X Y R : List Lv} {i : Nat} (h : i < Y.length) : (P ++ (X ++ (Y ++ R)))[P.length + X.length + i]? = some Y[i] := by
  rw [List.getElem?_append_right (by omega), List.getElem?_append_right (by omega), show P.length + X.length + i - P.length - X.length = i by omega, List.getElem?_append_left h, List.getElem?_eq_getElem h]
theorem srt_le {l : List Lv} (h : Srt l) {i j : Nat} (hij : i ≤ j) (hj : j < l.length) : ¬ (l[j]).lt (l[i]'(by omega)) := by
  by_cases e : i = j
  · subst e; exact Lv.lt_irrefl _
  · exact (List.pairwise_iff_getElem.1 h) i j (by omega) hj (by omega)
/-- the first one is laid among the others -/
theorem symOneL_ok {P Y R : List Lv} {x : Lv} (hY : Srt Y) (hl : (P ++ (x :: (Y ++ R))).length < 1000000) (H : Cx B0 W S (.sl v 4 (lvs (P ++ (x :: (Y ++ R)))) :: own) ro) {w : AV} :
    wp EM (.bind (Try.a63x4 [v, I (P.length : Int), I ((P.length + 1 : Nat) : Int), I ((P.length + 1 + Y.length : Nat) : Int), ordF]) (some 0) (fun v3 => Try.a63x9 [v, I (P.length : Int), I ((P.length + 1 : Nat) : Int), I ((P.length + 1 + Y.length : Nat) : Int), ordF] v3) (fun v3 => [])) S
      fun t _ S' => t = .ret ∧ ∃ m, StS (x :: Y) m ∧ m.length = Y.length + 1 ∧ Cx B0 W S' (.sl v 4 (lvs (P ++ (m ++ R))) :: own) ro := by
  have hl' := hl
  simp only [List.length_append, List.length_cons] at hl
  have e0 : P ++ (x :: (Y ++ R)) = P ++ ([x] ++ (Y ++ R)) := rfl
  unfold Try.a63x4 Try.a63x3 Try.a63x2 Try.a63x1 Try.a63x0 Try.a63x9 Try.a63x8 Try.a63x7 Try.a63x6 Try.a63x5
  refine wp_bind (wp_loop (wpL_inv (fun n vs S1 => ∃ (i j : Nat), vs = [I ((P.length + 1 + j : Nat) : Int), I ((P.length + 1 + i : Nat) : Int)] ∧ i ≤ j ∧ j ≤ Y.length ∧ n = j - i ∧ (∀ q (hq : q < Y.length), q < i → (Y[q]).lt x) ∧ (∀ q (hq : q < Y.length), j ≤ q → ¬ (Y[q]).lt x) ∧ Cx B0 W S1 (.sl v 4 (lvs (P ++ ([x] ++ (Y ++ R)))) :: own) ro) ?_ Y.length ⟨0, Y.length, rfl, by omega, by omega, by omega, by intro q _ h; omega, by intro q _ h; omega, H⟩))
  clear H
  rintro n vs S1 ⟨i, j, rfl, hij, hj, rfl, h1, h2, H⟩
  refine wp_lss (fun hlt => ?_) (fun hge => ?_)
  · have hlt : i < j := by omega
    repeat (first|refine zA ?_|refine zB rfl ?_|refine zC ?_|refine zD ?_|refine zE rfl ?_|refine zF ?_|refine zG ?_|refine zH ?_|refine zI ?_|refine zJ ?_|refine zK ?_|refine zL rfl ?_|refine zN rfl ?_)
    refine wp_bind ?_
    refine wp_half rfl rfl (by omega) ?_
    have eh : (P.length + 1 + i + (P.length + 1 + j)) / 2 = P.length + 1 + (i + j) / 2 := by omega
    rw [eh]
    have hh : (i + j) / 2 < Y.length := by omega
    refine wp_ownLZ (i := P.length + [x].length + (i + j) / 2) (x := Y[(i + j) / 2]) H (by simp) (get_at2 hh) ?_
    refine wp_ownLZ (i := P.length + 0) (x := x) H (by simp) (get_at (X := [x]) (by simp)) ?_
    refine wp_callV H (orderL_ok (a := Y[(i + j) / 2]) (b := x)) fun S2 H => ?_
    refine wp_lss (fun hneg => ?_) (fun hpos => ?_)
    · refine wp_bind (wp_ite_t ?_)
      refine wp_add64 (by omega) (by omega) (wp_ret ?_)
      show wp EM _ _ _
      refine wp_ret ?_
      show wp EM _ _ _
      refine wp_ret (.inl ⟨rfl, j - ((i + j) / 2 + 1), by omega, (i + j) / 2 + 1, j, ?_, by omega, by omega, rfl, ?_, h2, H⟩)
      · have q : ((P.length + 1 + (i + j) / 2 : Nat) : Int) + 1 = ((P.length + 1 + ((i + j) / 2 + 1) : Nat) : Int) := by omega
        show [I _, I _] = [I _, I _]
        rw [q]
      · intro q hq hqi
        have := srt_le hY (i := q) (j := (i + j) / 2) (by omega) hh
        exact Lv.le_lt this (lvo_lt.1 hneg)
    · refine wp_bind (wp_ite_f (wp_ret ?_))
      show wp EM _ _ _
      refine wp_ret ?_
      show wp EM _ _ _
      refine wp_ret (.inl ⟨rfl, (i + j) / 2 - i, by omega, i, (i + j) / 2, rfl, by omega, by omega, rfl, h1, ?_, H⟩)
      intro q hq hqi hlt2
      have := srt_le hY (i := (i + j) / 2) (j := q) hqi hq
      have hn : ¬ (Y[(i + j) / 2]).lt x := fun h => by have := lvo_lt.2 h; omega
      exact hn (Lv.le_lt this hlt2)
  · have : j = i := by omega
    subst this
    repeat (first|refine zA ?_|refine zB rfl ?_|refine zC ?_|refine zD ?_|refine zE rfl ?_|refine zF ?_|refine zG ?_|refine zH ?_|refine zI ?_|refine zJ ?_|refine zK ?_|refine zL rfl ?_|refine zN rfl ?_)
    refine wp_ret (.inr ⟨by simp, ?_⟩)
    show wp EM _ _ _
    have hY1 : (Y.take j).length = j := by rw [List.length_take]; omega
    have hst : StS (x :: Y) (Y.take j ++ x :: Y.drop j) := by
      have ha : ∀ y ∈ Y.take j, y.lt x := by
        intro y hy
        obtain ⟨q, hq, rfl⟩ := List.mem_iff_getElem.1 hy
        rw [hY1] at hq
        rw [List.getElem_take]
        exact h1 q (by omega) hq
      have hb : ∀ y ∈ Y.drop j, ¬ y.lt x := by
        intro y hy
        obtain ⟨q, hq, rfl⟩ := List.mem_iff_getElem.1 hy
        rw [List.length_drop] at hq
        rw [List.getElem_drop]
        exact h2 _ (by omega) (by omega)
      refine ⟨List.pairwise_append.2 ⟨hY.take j, List.pairwise_cons.2 ⟨hb, hY.drop j⟩, fun y hy z hz => ?_⟩, fun k' j' => ?_⟩
      · rcases List.mem_cons.1 hz with rfl | hz
        · exact Lv.lt_asymm (ha y hy)
        · exact fun h => hb z hz (Lv.lt_trans h (ha y hy))
      · have e := cls_swap (a := [x]) (b := Y.take j) (fun y hy z hz => by rw [List.mem_singleton.1 hy]; exact ha z hz) k' j'
        have e1 : Y.take j ++ x :: Y.drop j = (Y.take j ++ [x]) ++ Y.drop j := by simp
        have e2 : x :: Y = ([x] ++ Y.take j) ++ Y.drop j := by simp
        rw [e1, e2, cls_app, e, ← cls_app]
    -- it is carried there
    refine wp_bind (wp_loop (wpL_inv (fun n vs S1 => ∃ (t : Nat), vs = [I ((P.length + t : Nat) : Int)] ∧ t ≤ j ∧ n = j - t ∧ Cx B0 W S1 (.sl v 4 (lvs ((P ++ Y.take t) ++ x :: (Y.drop t ++ R))) :: own) ro) ?_ j ⟨0, rfl, by omega, by omega, by simpa using H⟩))
    clear H
    rintro n vs S3 ⟨t, rfl, ht, rfl, H⟩
    refine wp_sub64 (by omega) (by omega) ?_
    refine wp_lss (fun hlt2 => ?_) (fun hge2 => ?_)
    · have htY : t < Y.length := by omega
      have hdr : Y.drop t = Y[t] :: Y.drop (t + 1) := List.drop_eq_getElem_cons htY
      rw [hdr] at H
      have n1 : (P ++ Y.take t).length = P.length + t := by rw [List.length_append, List.length_take]; omega
      have n2 : ∀ p : Lv, ((P ++ Y.take t) ++ [p]).length = P.length + t + 1 := by intro p; rw [List.length_append, n1]; rfl
      have sh2 : ∀ p q : Lv, (P ++ Y.take t) ++ p :: q :: (Y.drop (t + 1) ++ R) = ((P ++ Y.take t) ++ [p]) ++ q :: (Y.drop (t + 1) ++ R) := by intro p q; simp
      have H : Cx B0 W S3 (.sl v 4 (lvs ((P ++ Y.take t) ++ x :: Y[t] :: (Y.drop (t + 1) ++ R))) :: own) ro := H
      repeat (first|refine zA ?_|refine zB rfl ?_|refine zC ?_|refine zD ?_|refine zE rfl ?_|refine zF ?_|refine zG ?_|refine zH ?_|refine zI ?_|refine zJ ?_|refine zK ?_|refine zL rfl ?_|refine zN rfl ?_)
      refine wp_bind ?_
      refine wp_add64 (by omega) (by omega) ?_
      refine wp_add64 (by omega) (by omega) ?_
      refine wp_ownLZ (i := P.length + t + 1) (x := Y[t]) H (by omega) (by rw [sh2, ← n2 x]; exact get_mid _ _ _) ?_
      refine wp_ownLZ (i := P.length + t) (x := x) H (by omega) (by rw [← n1]; exact get_mid _ _ _) ?_
      refine wp_ownSZ (i := P.length + t) (x := Y[t]) H (by omega) (by rw [← n1]; simp) fun S4 H => ?_
      have s1 : ((P ++ Y.take t) ++ x :: Y[t] :: (Y.drop (t + 1) ++ R)).set (P.length + t) Y[t] = (P ++ Y.take t) ++ Y[t] :: Y[t] :: (Y.drop (t + 1) ++ R) := by rw [← n1, set_mid]
      rw [s1] at H
      refine wp_ownSZ (i := P.length + t + 1) (x := x) H (by omega) (by rw [sh2, ← n2 Y[t]]; simp) fun S5 H => ?_
      have s2 : ((P ++ Y.take t) ++ Y[t] :: Y[t] :: (Y.drop (t + 1) ++ R)).set (P.length + t + 1) x = (P ++ Y.take t) ++ Y[t] :: x :: (Y.drop (t + 1) ++ R) := by rw [sh2, ← n2 Y[t], set_mid, ← sh2]
      rw [s2] at H
      refine wp_ret ?_
      show wp EM _ _ _
      refine wp_add64 (by omega) (by omega) (wp_ret (.inl ⟨rfl, j - (t + 1), by omega, t + 1, rfl, by omega, rfl, ?_⟩))
      rw [List.take_succ_eq_append_getElem htY]
      simpa only [List.append_assoc, List.cons_append, List.nil_append] using H
    · have : t = j := by omega
      subst this
      repeat (first|refine zA ?_|refine zB rfl ?_|refine zC ?_|refine zD ?_|refine zE rfl ?_|refine zF ?_|refine zG ?_|refine zH ?_|refine zI ?_|refine zJ ?_|refine zK ?_|refine zL rfl ?_|refine zN rfl ?_)
      refine wp_ret (.inr ⟨by simp, ?_⟩)
      show wp EM _ _ _
      exact wp_ret ⟨rfl, _, hst, by simp only [List.length_append, List.length_cons, hY1, List.length_drop]; omega, by simpa using H⟩
/-- the last one is laid among the others -/
theorem symOneR_ok {P Y R : List Lv} {x : Lv} (hY : Srt Y) (hl : (P ++ (Y ++ (x :: R))).length < 1000000) (H : Cx B0 W S (.sl v 4 (lvs (P ++ (Y ++ (x :: R)))) :: own) ro) {e : AV} :
    wp EM (Try.a63x31 [v, I (P.length : Int), I ((P.length + Y.length : Nat) : Int), e, ordF] (B true)) S
      fun t _ S' => t = .ret ∧ ∃ m, StS (Y ++ [x]) m ∧ m.length = Y.length + 1 ∧ Cx B0 W S' (.sl v 4 (lvs (P ++ (m ++ R))) :: own) ro := by
  have hl' := hl
  simp only [List.length_append, List.length_cons] at hl
  unfold Try.a63x31 Try.a63x13 Try.a63x12 Try.a63x11 Try.a63x10 Try.a63x17 Try.a63x16 Try.a63x15 Try.a63x14
  refine wp_ite_t ?_
  refine wp_bind (wp_loop (wpL_inv (fun n vs S1 => ∃ (i j : Nat), vs = [I ((P.length + j : Nat) : Int), I ((P.length + i : Nat) : Int)] ∧ i ≤ j ∧ j ≤ Y.length ∧ n = j - i ∧ (∀ q (hq : q < Y.length), q < i → ¬ x.lt Y[q]) ∧ (∀ q (hq : q < Y.length), j ≤ q → x.lt Y[q]) ∧ Cx B0 W S1 (.sl v 4 (lvs (P ++ (Y ++ ([x] ++ R)))) :: own) ro) ?_ Y.length ⟨0, Y.length, rfl, by omega, by omega, by omega, by intro q _ h; omega, by intro q _ h; omega, H⟩))
  clear H
  rintro n vs S1 ⟨i, j, rfl, hij, hj, rfl, h1, h2, H⟩
  refine wp_lss (fun hlt => ?_) (fun hge => ?_)
  · have hlt : i < j := by omega
    repeat (first|refine zA ?_|refine zB rfl ?_|refine zC ?_|refine zD ?_|refine zE rfl ?_|refine zF ?_|refine zG ?_|refine zH ?_|refine zI ?_|refine zJ ?_|refine zK ?_|refine zL rfl ?_|refine zN rfl ?_)
    refine wp_bind ?_
    refine wp_half rfl rfl (by omega) ?_
    have eh : (P.length + i + (P.length + j)) / 2 = P.length + (i + j) / 2 := by omega
    rw [eh]
    have hh : (i + j) / 2 < Y.length := by omega
    refine wp_ownLZ (i := P.length + Y.length + 0) (x := x) H (by simp) (get_at2 (Y := [x]) (by simp)) ?_
    refine wp_ownLZ (i := P.length + (i + j) / 2) (x := Y[(i + j) / 2]) H rfl (get_at hh) ?_
    refine wp_callV H (orderL_ok (a := x) (b := Y[(i + j) / 2])) fun S2 H => ?_
    refine wp_lss (fun hneg => ?_) (fun hpos => ?_)
    · refine wp_op (v := B false) rfl ?_
      refine wp_bind (wp_ite_f (wp_ret ?_))
      show wp EM _ _ _
      refine wp_ret ?_
      show wp EM _ _ _
      refine wp_ret (.inl ⟨rfl, (i + j) / 2 - i, by omega, i, (i + j) / 2, rfl, by omega, by omega, rfl, h1, ?_, H⟩)
      intro q hq hqi
      have := srt_le hY (i := (i + j) / 2) (j := q) hqi hq
      exact Lv.lt_le (lvo_lt.1 hneg) this
    · refine wp_op (v := B true) rfl ?_
      refine wp_bind (wp_ite_t ?_)
      refine wp_add64 (by omega) (by omega) (wp_ret ?_)
      show wp EM _ _ _
      refine wp_ret ?_
      show wp EM _ _ _
      refine wp_ret (.inl ⟨rfl, j - ((i + j) / 2 + 1), by omega, (i + j) / 2 + 1, j, ?_, by omega, by omega, rfl, ?_, h2, H⟩)
      · have q : ((P.length + (i + j) / 2 : Nat) : Int) + 1 = ((P.length + ((i + j) / 2 + 1) : Nat) : Int) := by omega
        show [I _, I _] = [I _, I _]
        rw [q]
      · intro q hq hqi hlt2
        have := srt_le hY (i := q) (j := (i + j) / 2) (by omega) hh
        have hn : ¬ x.lt (Y[(i + j) / 2]) := fun h => by have := lvo_lt.2 h; omega
        exact hn (Lv.lt_le hlt2 this)
  · have : j = i := by omega
    subst this
    repeat (first|refine zA ?_|refine zB rfl ?_|refine zC ?_|refine zD ?_|refine zE rfl ?_|refine zF ?_|refine zG ?_|refine zH ?_|refine zI ?_|refine zJ ?_|refine zK ?_|refine zL rfl ?_|refine zN rfl ?_)
    refine wp_ret (.inr ⟨by simp, ?_⟩)
    show wp EM _ _ _
    have hY1 : (Y.take j).length = j := by rw [List.length_take]; omega
    have hst : StS (Y ++ [x]) (Y.take j ++ x :: Y.drop j) := by
      refine StS.insert (by rw [List.take_append_drop]; exact StS.self hY) ?_ ?_
      · intro y hy
        obtain ⟨q, hq, rfl⟩ := List.mem_iff_getElem.1 hy
        rw [hY1] at hq
        rw [List.getElem_take]
        exact h1 q (by omega) hq
      · intro y hy
        obtain ⟨q, hq, rfl⟩ := List.mem_iff_getElem.1 hy
        rw [List.length_drop] at hq
        rw [List.getElem_drop]
        exact h2 _ (by omega) (by omega)
    refine wp_bind (wp_loop (wpL_inv (fun n vs S1 => ∃ (t : Nat), vs = [I ((P.length + t : Nat) : Int)] ∧ j ≤ t ∧ t ≤ Y.length ∧ n = t - j ∧ Cx B0 W S1 (.sl v 4 (lvs ((P ++ Y.take t) ++ x :: (Y.drop t ++ R))) :: own) ro) ?_ (Y.length - j) ⟨Y.length, rfl, by omega, by omega, by omega, by simpa using H⟩))
    clear H
    rintro n vs S3 ⟨t, rfl, ht1, ht, rfl, H⟩
    refine wp_gtr (fun hgt2 => ?_) (fun hle2 => ?_)
    · obtain ⟨u, rfl⟩ : ∃ u, t = u + 1 := ⟨t - 1, by omega⟩
      have huY : u < Y.length := by omega
      rw [List.take_succ_eq_append_getElem huY] at H
      have n1 : (P ++ Y.take u).length = P.length + u := by rw [List.length_append, List.length_take]; omega
      have n2 : ∀ p : Lv, ((P ++ Y.take u) ++ [p]).length = P.length + u + 1 := by intro p; rw [List.length_append, n1]; rfl
      have sh2 : ∀ p q : Lv, (P ++ Y.take u) ++ p :: q :: (Y.drop (u + 1) ++ R) = ((P ++ Y.take u) ++ [p]) ++ q :: (Y.drop (u + 1) ++ R) := by intro p q; simp
      have H : Cx B0 W S3 (.sl v 4 (lvs ((P ++ Y.take u) ++ Y[u] :: x :: (Y.drop (u + 1) ++ R))) :: own) ro := by simpa only [List.append_assoc, List.cons_append, List.nil_append] using H
      repeat (first|refine zA ?_|refine zB rfl ?_|refine zC ?_|refine zD ?_|refine zE rfl ?_|refine zF ?_|refine zG ?_|refine zH ?_|refine zI ?_|refine zJ ?_|refine zK ?_|refine zL rfl ?_|refine zN rfl ?_)
      refine wp_bind ?_
      refine wp_sub64 (by omega) (by omega) ?_
      refine wp_sub64 (by omega) (by omega) ?_
      refine wp_ownLZ (i := P.length + u) (x := Y[u]) H (by omega) (by rw [← n1]; exact get_mid _ _ _) ?_
      refine wp_ownLZ (i := P.length + u + 1) (x := x) H (by omega) (by rw [sh2, ← n2 Y[u]]; exact get_mid _ _ _) ?_
      refine wp_ownSZ (i := P.length + u + 1) (x := Y[u]) H (by omega) (by rw [sh2, ← n2 Y[u]]; simp) fun S4 H => ?_
      have s1 : ((P ++ Y.take u) ++ Y[u] :: x :: (Y.drop (u + 1) ++ R)).set (P.length + u + 1) Y[u] = (P ++ Y.take u) ++ Y[u] :: Y[u] :: (Y.drop (u + 1) ++ R) := by rw [sh2, ← n2 Y[u], set_mid, ← sh2]
      rw [s1] at H
      refine wp_ownSZ (i := P.length + u) (x := x) H (by omega) (by rw [← n1]; simp) fun S5 H => ?_
      have s2 : ((P ++ Y.take u) ++ Y[u] :: Y[u] :: (Y.drop (u + 1) ++ R)).set (P.length + u) x = (P ++ Y.take u) ++ x :: Y[u] :: (Y.drop (u + 1) ++ R) := by rw [← n1, set_mid]
      rw [s2] at H
      refine wp_ret ?_
      show wp EM _ _ _
      refine wp_sub64 (by omega) (by omega) (wp_ret (.inl ⟨rfl, u - j, by omega, u, ?_, by omega, by omega, rfl, ?_⟩))
      · have q : ((P.length + (u + 1) : Nat) : Int) - 1 = ((P.length + u : Nat) : Int) := by omega
        show [I _] = [I _]
        rw [q]
      · have hdr : Y.drop u = Y[u] :: Y.drop (u + 1) := List.drop_eq_getElem_cons huY
        rw [hdr]; exact H
    · have : t = j := by omega
      subst this
      repeat (first|refine zA ?_|refine zB rfl ?_|refine zC ?_|refine zD ?_|refine zE rfl ?_|refine zF ?_|refine zG ?_|refine zH ?_|refine zI ?_|refine zJ ?_|refine zK ?_|refine zL rfl ?_|refine zN rfl ?_)
      refine wp_ret (.inr ⟨by simp, ?_⟩)
      show wp EM _ _ _
      exact wp_ret ⟨rfl, _, hst, by simp only [List.length_append, List.length_cons, hY1, List.length_drop]; omega, by simpa using H⟩
end
end Go.Abs
namespace Go.Abs
open Go.Proofs
set_option maxRecDepth 100000
set_option linter.unusedVariables false
section
variable {B0 S : AH} {W : List Nat} {own : List Own} {ro : List Fct} {Q : Post} {k : AV → AC} {v : AV} {L : List Lv}
theorem cond1 {K : AV → AC} {S2 : AH} {Q' : Post} (a b c d : Int) (hK : ∀ z : Bool, (z = true ↔ a < b ∧ c < d) → wp EM (K (B z)) S2 Q') : wp EM (.gop (B (decide (a < b))) true (.mv (I c)) fun v16 => .gop (B (decide (a < b))) true (.mv (I d)) fun v17 => .gop (B (decide (a < b))) true (.bin .lss v16 v17) fun v18 => .op (.pick (B (decide (a < b))) v18 (B false)) K) S2 Q' := by
  by_cases q : a < b
  · rw [decide_eq_true q]
    refine wp_gop_t (wp_op rfl (wp_gop_t (wp_op rfl (wp_gop_t (wp_lss (fun q2 => ?_) (fun q2 => ?_))))))
    · exact wp_op (v := B true) rfl (hK true ⟨fun _ => ⟨q, q2⟩, fun _ => rfl⟩)
    · exact wp_op (v := B false) rfl (hK false ⟨fun h => (by cases h), fun h => absurd h.2 (by omega)⟩)
  · rw [decide_eq_false q]
    refine wp_gop_f rfl (wp_gop_f rfl (wp_gop_f rfl ?_))
    exact wp_op (v := B false) rfl (hK false ⟨fun h => (by cases h), fun h => absurd h.1 q⟩)
/-- two neighbours that are in order are merged -/
theorem symMerge_ok : ∀ (n : Nat) {B0 S : AH} {W : List Nat} {own : List Own} {ro : List Fct} {v : AV} {P X Y R : List Lv}, X.length + Y.length = n → X ≠ [] → Y ≠ [] → Srt X → Srt Y → (P ++ (X ++ (Y ++ R))).length < 1000000 → Cx B0 W S (.sl v 4 (lvs (P ++ (X ++ (Y ++ R)))) :: own) ro →
    wpC EM (.fn (.func 63) [] []) [v, I (P.length : Int), I ((P.length + X.length : Nat) : Int), I ((P.length + X.length + Y.length : Nat) : Int), ordF] S fun _ S' => ∃ m, StS (X ++ Y) m ∧ m.length = X.length + Y.length ∧ Cx B0 W S' (.sl v 4 (lvs (P ++ (m ++ R))) :: own) ro := by
  intro n
  induction n using Nat.strongRecOn with
  | _ n ih =>
  intro B0 S W own ro v P X Y R hn hX hY sX sY hl H
  have hX0 : 0 < X.length := List.length_pos_iff.2 hX
  have hY0 : 0 < Y.length := List.length_pos_iff.2 hY
  have hl' := hl
  simp only [List.length_append] at hl
  refine wpC_fn (b := Try.a63) rfl rfl ?_
  unfold Try.a63
  refine wp_sub64 (by omega) (by omega) ?_
  refine wp_eql (fun h1 => ?_) (fun h1 => ?_)
  · -- one on the left
    obtain ⟨x, rfl⟩ : ∃ x, X = [x] := List.length_eq_one_iff.1 (by omega)
    refine wp_ite_t ?_
    refine wp_mono (symOneL_ok (P := P) (Y := Y) (R := R) (x := x) (w := .no) sY (by simpa using hl') H) fun t vs S' q => ?_
    obtain ⟨rfl, m, q1, q2, q3⟩ := q
    exact ⟨rfl, m, q1, by simpa [Nat.add_comm] using q2, q3⟩
  refine wp_ite_f ?_
  refine wp_sub64 (by omega) (by omega) ?_
  refine wp_eql (fun h2 => ?_) (fun h2 => ?_)
  · -- one on the right
    obtain ⟨y, rfl⟩ : ∃ y, Y = [y] := List.length_eq_one_iff.1 (by omega)
    refine wp_mono (symOneR_ok (P := P) (Y := X) (R := R) (x := y) sX hl' H) fun t vs S' q => ?_
    obtain ⟨rfl, m, q1, q2, q3⟩ := q
    exact ⟨rfl, m, q1, by simpa using q2, q3⟩
  have hX2 : 2 ≤ X.length := by omega
  have hY2 : 2 ≤ Y.length := by omega
  unfold Try.a63x31
  refine wp_ite_f ?_
  refine wp_half rfl rfl (by omega) ?_
  obtain ⟨h, hh⟩ : ∃ h, h = (X.length + Y.length) / 2 := ⟨_, rfl⟩
  have eh : (P.length + (P.length + X.length + Y.length)) / 2 = P.length + h := by omega
  rw [eh]
  unfold Try.a63x30
  refine wp_add64 (by omega) (by omega) ?_
  -- from where to where is searched
  suffices part : ∀ lo hi : Nat, lo ≤ hi → hi ≤ h → hi ≤ X.length → h ≤ lo + Y.length → (lo = 0 ∨ lo + Y.length = h) → (hi = h ∨ hi = X.length) → wp EM (.op (.bin .sub (I (((P.length + h : Nat) : Int) + ((P.length + X.length : Nat) : Int))) (I 1)) fun v12 => Try.a63x29 [v, I (P.length : Int), I ((P.length + X.length : Nat) : Int), I ((P.length + X.length + Y.length : Nat) : Int), ordF] (I ((P.length + h : Nat) : Int)) (I (((P.length + h : Nat) : Int) + ((P.length + X.length : Nat) : Int))) [I ((P.length + hi : Nat) : Int), I ((P.length + lo : Nat) : Int)] v12) S (fun t _ S' => t = .ret ∧ ∃ m, StS (X ++ Y) m ∧ m.length = X.length + Y.length ∧ Cx B0 W S' (.sl v 4 (lvs (P ++ (m ++ R))) :: own) ro) by
    refine wp_gtr (fun hg => ?_) (fun hg => ?_)
    · refine wp_bind (wp_ite_t ?_)
      unfold Try.a63x18
      refine wp_sub64 (by omega) (by omega) (wp_ret ?_)
      have q : ((P.length + h : Nat) : Int) + ((P.length + X.length : Nat) : Int) - ((P.length + X.length + Y.length : Nat) : Int) = ((P.length + (h - Y.length) : Nat) : Int) := by omega
      have K := part (h - Y.length) h (by omega) (by omega) (by omega) (by omega) (by omega) (by omega)
      rw [← q] at K
      exact K
    · refine wp_bind (wp_ite_f (wp_ret ?_))
      exact part 0 X.length (by omega) (by omega) (by omega) (by omega) (by omega) (by omega)
  intro lo hi hlh hih hiX hlY hlo hhi
  refine wp_sub64 (by omega) (by omega) ?_
  unfold Try.a63x29
  refine wp_bind (wp_loop (wpL_inv (fun n vs S1 => ∃ (s r : Nat), vs = [I ((P.length + r : Nat) : Int), I ((P.length + s : Nat) : Int)] ∧ lo ≤ s ∧ s ≤ r ∧ r ≤ hi ∧ n = r - s ∧ (∀ (q1 : s - 1 < X.length) (q2 : h - s < Y.length), lo < s → ¬ (Y[h - s]).lt X[s - 1]) ∧ (∀ (q1 : r < X.length) (q2 : h - 1 - r < Y.length), r < hi → (Y[h - 1 - r]).lt X[r]) ∧ Cx B0 W S1 (.sl v 4 (lvs (P ++ (X ++ (Y ++ R)))) :: own) ro) ?_ (hi - lo) ⟨lo, hi, rfl, by omega, by omega, by omega, rfl, by intro _ _ h; omega, by intro _ _ h; omega, H⟩))
  clear H
  rintro n' vs S2 ⟨s, r, rfl, hls, hsr, hrh, rfl, hs1, hr1, H⟩
  unfold Try.a63x22
  refine wp_lss (fun hlt => ?_) (fun hge => ?_)
  · have hlt : s < r := by omega
    repeat (first|refine zA ?_|refine zB rfl ?_|refine zC ?_|refine zD ?_|refine zE rfl ?_|refine zF ?_|refine zG ?_|refine zH ?_|refine zI ?_|refine zJ ?_|refine zK ?_|refine zL rfl ?_|refine zN rfl ?_)
    unfold Try.a63x21
    refine wp_bind ?_
    refine wp_half rfl rfl (by omega) ?_
    obtain ⟨c, hc⟩ : ∃ c, c = (s + r) / 2 := ⟨_, rfl⟩
    have ec : (P.length + s + (P.length + r)) / 2 = P.length + c := by omega
    rw [ec]
    refine wp_sub64 (by omega) (by omega) ?_
    unfold Try.a63x20
    have cX : c < X.length := by omega
    have cY : h - 1 - c < Y.length := by omega
    refine wp_ownLZ (i := P.length + X.length + (h - 1 - c)) (x := Y[h - 1 - c]) H (by omega) (get_at2 cY) ?_
    refine wp_ownLZ (i := P.length + c) (x := X[c]) H rfl (get_at cX) ?_
    refine wp_callV H (orderL_ok (a := Y[h - 1 - c]) (b := X[c])) fun S3 H => ?_
    unfold Try.a63x19
    refine wp_lss (fun hneg => ?_) (fun hpos => ?_)
    · refine wp_op (v := B false) rfl ?_
      refine wp_bind (wp_ite_f (wp_ret ?_))
      show wp EM _ _ _
      refine wp_ret ?_
      show wp EM _ _ _
      exact wp_ret (.inl ⟨rfl, c - s, by omega, s, c, rfl, by omega, by omega, by omega, rfl, hs1, fun _ _ _ => lvo_lt.1 hneg, H⟩)
    · refine wp_op (v := B true) rfl ?_
      refine wp_bind (wp_ite_t ?_)
      refine wp_add64 (by omega) (by omega) (wp_ret ?_)
      show wp EM _ _ _
      refine wp_ret ?_
      show wp EM _ _ _
      refine wp_ret (.inl ⟨rfl, r - (c + 1), by omega, c + 1, r, ?_, by omega, by omega, by omega, rfl, fun q1 q2 _ => ?_, hr1, H⟩)
      · have q : ((P.length + c : Nat) : Int) + 1 = ((P.length + (c + 1) : Nat) : Int) := by omega
        show [I _, I _] = [I _, I _]
        rw [q]
      · have hn2 : ¬ (Y[h - 1 - c]).lt X[c] := fun h => by have := lvo_lt.2 h; omega
        have e1 : h - (c + 1) = h - 1 - c := by omega
        simp only [e1, Nat.add_sub_cancel]
        exact hn2
  · have : r = s := by omega
    subst this
    repeat (first|refine zA ?_|refine zB rfl ?_|refine zC ?_|refine zD ?_|refine zE rfl ?_|refine zF ?_|refine zG ?_|refine zH ?_|refine zI ?_|refine zJ ?_|refine zK ?_|refine zL rfl ?_|refine zN rfl ?_)
    refine wp_ret (.inr ⟨by simp, ?_⟩)
    show wp EM _ _ _
    refine wp_sub64 (by omega) (by omega) ?_
    -- the four parts
    have lx1 : (X.take r).length = r := by rw [List.length_take]; omega
    have lx2 : (X.drop r).length = X.length - r := List.length_drop ..
    have ly1 : (Y.take (h - r)).length = h - r := by rw [List.length_take]; omega
    have ly2 : (Y.drop (h - r)).length = Y.length - (h - r) := List.length_drop ..
    have ha : ∀ a ∈ X.take r, ∀ b ∈ Y.drop (h - r), ¬ b.lt a := by
      intro a ha b hb
      obtain ⟨i, hi1, rfl⟩ := List.mem_iff_getElem.1 ha
      obtain ⟨j, hj1, rfl⟩ := List.mem_iff_getElem.1 hb
      rw [lx1] at hi1
      rw [ly2] at hj1
      rw [List.getElem_take, List.getElem_drop]
      have hlor : lo < r := by
        rcases hlo with hlo | hlo <;> omega
      have q1 := hs1 (by omega) (by omega) hlor
      have q2 := srt_le sX (i := i) (j := r - 1) (by omega) (by omega)
      have q3 := srt_le sY (i := h - r) (j := h - r + j) (by omega) (by omega)
      exact Lv.le_le (Lv.le_le q2 q1) q3
    have hb : ∀ a ∈ X.drop r, ∀ b ∈ Y.take (h - r), b.lt a := by
      intro a ha b hb
      obtain ⟨i, hi1, rfl⟩ := List.mem_iff_getElem.1 ha
      obtain ⟨j, hj1, rfl⟩ := List.mem_iff_getElem.1 hb
      rw [lx2] at hi1
      rw [ly1] at hj1
      rw [List.getElem_take, List.getElem_drop]
      have hrhi : r < hi := by
        rcases hhi with hhi | hhi <;> omega
      have q1 := hr1 (by omega) (by omega) hrhi
      have q2 := srt_le sX (i := r) (j := r + i) (by omega) (by omega)
      have q3 := srt_le sY (i := j) (j := h - 1 - r) (by omega) (by omega)
      exact Lv.lt_le (Lv.le_lt q3 q1) q2
    have eX : X.take r ++ X.drop r = X := List.take_append_drop ..
    have eY : Y.take (h - r) ++ Y.drop (h - r) = Y := List.take_append_drop ..
    have s1 : Srt (X.take r) := sX.take r
    have s2 : Srt (X.drop r) := sX.drop r
    have s3 : Srt (Y.take (h - r)) := sY.take _
    have s4 : Srt (Y.drop (h - r)) := sY.drop _
    have hcut : ∀ {m1 m2 : List Lv}, StS (X.take r ++ Y.take (h - r)) m1 → StS (X.drop r ++ Y.drop (h - r)) m2 → StS (X ++ Y) (m1 ++ m2) := by
      intro m1 m2 k1 k2
      have := StS.cut (by rw [eX]; exact sX) (by rw [eY]; exact sY) k1 k2 ha hb
      rwa [eX, eY] at this
    have hX1e : (X.drop r = []) ↔ r = X.length := by
      constructor
      · intro e; rw [e] at lx2; simp at lx2; omega
      · intro e; exact List.drop_of_length_le (by omega)
    have hY1e : (Y.take (h - r) = []) ↔ r = h := by
      constructor
      · intro e; rw [e] at ly1; simp at ly1; omega
      · intro e; rw [e]; simp
    generalize hx1 : X.take r = X1 at *
    generalize hx2 : X.drop r = X2 at *
    generalize hy1 : Y.take (h - r) = Y1 at *
    generalize hy2 : Y.drop (h - r) = Y2 at *
    subst eX eY
    simp only [List.length_append] at *
    have e14 : ((P.length + h : Nat) : Int) + ((P.length + (X1.length + X2.length) : Nat) : Int) - ((P.length + r : Nat) : Int) = ((P.length + (X1.length + X2.length) + Y1.length : Nat) : Int) := by omega
    -- they are turned round
    have rot : ∀ {Q' : Post}, (∀ S3, Cx B0 W S3 (.sl v 4 (lvs (P ++ (X1 ++ (Y1 ++ (X2 ++ (Y2 ++ R)))))) :: own) ro → Q' .normal [] S3) → ∀ b : Bool, (b = true ↔ X2 ≠ [] ∧ Y1 ≠ []) → wp EM (Try.a63x23 [v, I (P.length : Int), I ((P.length + (X1.length + X2.length) : Nat) : Int), I ((P.length + (X1.length + X2.length) + (Y1.length + Y2.length) : Nat) : Int), ordF] [I ((P.length + r : Nat) : Int), I ((P.length + r : Nat) : Int)] (I ((P.length + (X1.length + X2.length) + Y1.length : Nat) : Int)) (B b)) S2 Q' := by
      intro Q' hQ b hb2
      unfold Try.a63x23
      cases b with
      | true =>
        obtain ⟨n1, n2⟩ := hb2.1 rfl
        refine wp_ite_t ?_
        have H2 : Cx B0 W S2 (.sl v 4 (lvs ((P ++ X1) ++ (X2 ++ (Y1 ++ (Y2 ++ R))))) :: own) ro := by simpa using H
        have f1 : P.length + r = (P ++ X1).length := by rw [List.length_append]; omega
        have f2 : P.length + (X1.length + X2.length) = (P ++ X1).length + X2.length := by rw [List.length_append]; omega
        have f3 : P.length + (X1.length + X2.length) + Y1.length = (P ++ X1).length + X2.length + Y1.length := by rw [List.length_append]; omega
        show wp EM (.call _ [v, I ((P.length + r : Nat) : Int), I ((P.length + (X1.length + X2.length) : Nat) : Int), I ((P.length + (X1.length + X2.length) + Y1.length : Nat) : Int), ordF] _) S2 Q'
        rw [f3, f2, f1]
        refine wp_call (wpC_mono (rotate_ok (P := P ++ X1) (A := X2) (C := Y1) (R := Y2 ++ R) n1 n2 (by simp only [List.length_append]; omega) H2) fun u S3 H3 => ?_)
        exact wp_ret (hQ _ (by simpa using H3))
      | false =>
        refine wp_ite_f (wp_ret (hQ _ ?_))
        have : X2 = [] ∨ Y1 = [] := by
          rcases X2 with _ | ⟨a, r2⟩
          · exact .inl rfl
          · rcases Y1 with _ | ⟨b, r3⟩
            · exact .inr rfl
            · exact absurd (hb2.2 ⟨by simp, by simp⟩) (by simp)
        rcases this with rfl | rfl <;> simpa using H
    -- then both sides are merged
    have left : ∀ {Q' : Post} {S3 : AH}, Cx B0 W S3 (.sl v 4 (lvs (P ++ (X1 ++ (Y1 ++ (X2 ++ (Y2 ++ R)))))) :: own) ro → (∀ S4 m1, StS (X1 ++ Y1) m1 → m1.length = X1.length + Y1.length → Cx B0 W S4 (.sl v 4 (lvs (P ++ (m1 ++ (X2 ++ (Y2 ++ R))))) :: own) ro → Q' .normal [] S4) → ∀ b : Bool, (b = true ↔ X1 ≠ [] ∧ Y1 ≠ []) → wp EM (Try.a63x24 [v, I (P.length : Int), I ((P.length + (X1.length + X2.length) : Nat) : Int), I ((P.length + (X1.length + X2.length) + (Y1.length + Y2.length) : Nat) : Int), ordF] (I ((P.length + h : Nat) : Int)) [I ((P.length + r : Nat) : Int), I ((P.length + r : Nat) : Int)] (B b)) S3 Q' := by
      intro Q' S3 H3 hQ b hb2
      unfold Try.a63x24
      cases b with
      | true =>
        obtain ⟨n1, n2⟩ := hb2.1 rfl
        refine wp_ite_t ?_
        have f1 : P.length + r = P.length + X1.length := by omega
        have f2 : P.length + h = P.length + X1.length + Y1.length := by omega
        show wp EM (.call _ [v, I (P.length : Int), I ((P.length + r : Nat) : Int), I ((P.length + h : Nat) : Int), ordF] _) S3 Q'
        rw [f2, f1]
        refine wp_call (wpC_mono (ih (X1.length + Y1.length) (by omega) (P := P) (X := X1) (Y := Y1) (R := X2 ++ (Y2 ++ R)) rfl n1 n2 s1 s3 (by simp only [List.length_append]; omega) H3) fun u S4 q => ?_)
        obtain ⟨m1, q1, q2, H4⟩ := q
        exact wp_ret (hQ _ m1 q1 q2 H4)
      | false =>
        refine wp_ite_f (wp_ret (hQ _ (X1 ++ Y1) ?_ (by simp) (by simpa using H3)))
        have : X1 = [] ∨ Y1 = [] := by
          rcases X1 with _ | ⟨a, r2⟩
          · exact .inl rfl
          · rcases Y1 with _ | ⟨b, r3⟩
            · exact .inr rfl
            · exact absurd (hb2.2 ⟨by simp, by simp⟩) (by simp)
        rcases this with rfl | rfl
        · exact StS.self (by simpa using s3)
        · exact StS.self (by simpa using s1)
    have right : ∀ {Q' : Post} {S3 : AH} {m1 : List Lv}, m1.length = X1.length + Y1.length → Cx B0 W S3 (.sl v 4 (lvs (P ++ (m1 ++ (X2 ++ (Y2 ++ R))))) :: own) ro → (∀ S4 m2, StS (X2 ++ Y2) m2 → m2.length = X2.length + Y2.length → Cx B0 W S4 (.sl v 4 (lvs (P ++ (m1 ++ (m2 ++ R)))) :: own) ro → Q' .normal [] S4) → ∀ b : Bool, (b = true ↔ X2 ≠ [] ∧ Y2 ≠ []) → wp EM (Try.a63x25 [v, I (P.length : Int), I ((P.length + (X1.length + X2.length) : Nat) : Int), I ((P.length + (X1.length + X2.length) + (Y1.length + Y2.length) : Nat) : Int), ordF] (I ((P.length + h : Nat) : Int)) (I ((P.length + (X1.length + X2.length) + Y1.length : Nat) : Int)) (B b)) S3 Q' := by
      intro Q' S3 m1 hm1 H3 hQ b hb2
      unfold Try.a63x25
      cases b with
      | true =>
        obtain ⟨n1, n2⟩ := hb2.1 rfl
        refine wp_ite_t ?_
        have f1 : P.length + h = (P ++ m1).length := by rw [List.length_append]; omega
        have f2 : P.length + (X1.length + X2.length) + Y1.length = (P ++ m1).length + X2.length := by rw [List.length_append]; omega
        have f3 : P.length + (X1.length + X2.length) + (Y1.length + Y2.length) = (P ++ m1).length + X2.length + Y2.length := by rw [List.length_append]; omega
        show wp EM (.call _ [v, I ((P.length + h : Nat) : Int), I ((P.length + (X1.length + X2.length) + Y1.length : Nat) : Int), I ((P.length + (X1.length + X2.length) + (Y1.length + Y2.length) : Nat) : Int), ordF] _) S3 Q'
        rw [f3, f2, f1]
        refine wp_call (wpC_mono (ih (X2.length + Y2.length) (by omega) (P := P ++ m1) (X := X2) (Y := Y2) (R := R) rfl n1 n2 s2 s4 (by simp only [List.length_append]; omega) (by simpa using H3)) fun u S4 q => ?_)
        obtain ⟨m2, q1, q2, H4⟩ := q
        exact wp_ret (hQ _ m2 q1 q2 (by simpa using H4))
      | false =>
        refine wp_ite_f (wp_ret (hQ _ (X2 ++ Y2) ?_ (by simp) (by simpa using H3)))
        have : X2 = [] ∨ Y2 = [] := by
          rcases X2 with _ | ⟨a, r2⟩
          · exact .inl rfl
          · rcases Y2 with _ | ⟨b, r3⟩
            · exact .inr rfl
            · exact absurd (hb2.2 ⟨by simp, by simp⟩) (by simp)
        rcases this with rfl | rfl
        · exact StS.self (by simpa using s4)
        · exact StS.self (by simpa using s2)
    have nX1 : X1 ≠ [] ↔ 0 < r := by rw [← List.length_pos_iff]; omega
    have nX2 : X2 ≠ [] ↔ r < X1.length + X2.length := by rw [← List.length_pos_iff]; omega
    have nY1 : Y1 ≠ [] ↔ r < h := by rw [← List.length_pos_iff]; omega
    have nY2 : Y2 ≠ [] ↔ h < r + (Y1.length + Y2.length) := by rw [← List.length_pos_iff]; omega
    have e14' : I (((P.length + h : Nat) : Int) + ((P.length + (X1.length + X2.length) : Nat) : Int) - ((P.length + r : Nat) : Int)) = I ((P.length + (X1.length + X2.length) + Y1.length : Nat) : Int) := by rw [e14]
    refine wp_op (v := B (decide (((P.length + r : Nat) : Int) < ((P.length + (X1.length + X2.length) : Nat) : Int)))) e_lss ?_
    show wp EM (.gop (B _) true (.mv _) fun v16 => Try.a63x28 _ _ _ (I _) _ v16) S2 _
    rw [e14]
    -- is it turned round?
    unfold Try.a63x28
    refine cond1 _ _ _ _ fun z hz => ?_
    refine wp_bind (rot ?_ z (by rw [hz, nX2, nY1]; omega))
    intro S3 H3
    show wp EM _ _ _
    unfold Try.a63x27
    refine wp_op e_lss ?_
    refine cond1 _ _ _ _ fun z hz => ?_
    refine wp_bind (left H3 ?_ z (by rw [hz, nX1, nY1]; omega))
    intro S4 m1 k1 k2 H4
    show wp EM _ _ _
    unfold Try.a63x26
    refine wp_op e_lss ?_
    refine cond1 _ _ _ _ fun z hz => ?_
    refine wp_bind (right k2 H4 ?_ z (by rw [hz, nX2, nY2]; omega))
    intro S5 m2 k3 k4 H5
    show wp EM _ _ _
    refine wp_ret ⟨rfl, m1 ++ m2, hcut k1 k3, by rw [List.length_append]; omega, by simpa using H5⟩
end
end Go.Abs
