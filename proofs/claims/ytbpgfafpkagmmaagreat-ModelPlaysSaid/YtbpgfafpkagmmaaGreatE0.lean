/- functions of this cut: what they compute, in the abstract machine. Conditions: stated in each theorem -/
import Derived.Test.YtbpgfafpkagmmaaGreatAc
import Derived.Test.YtbpgfafpkagmmaaGreatAd
import Derived.Test.YtbpgfafpkagmmaaGreatT
set_option linter.unusedVariables false
set_option linter.unusedSimpArgs false
namespace Go.Abs
section
variable {M : Mach} {S : AH} {Q : Post} {k : AV → AC}
theorem zA {g : Bool} {o : AOp} (h : wp M (.op o k) S Q) : wp M (.gop (B g) g o k) S Q := wp_gop_t h
theorem zB {g g' : Bool} {o : AOp} (hg : g' = !g) (h : wp M (k uv) S Q) : wp M (.gop (B g) g' o k) S Q := wp_gop_f hg h
theorem zC {g' : Bool} {o : AOp} (h : wp M (k uv) S Q) : wp M (.gop uv g' o k) S Q := wp_gop_u h
theorem zD {g : Bool} {f : AV} {args : List AV} (h : wp M (.call f args k) S Q) : wp M (.gcall (B g) g f args k) S Q := wp_gcall_t h
theorem zE {g g' : Bool} {f : AV} {args : List AV} (hg : g' = !g) (h : wp M (k uv) S Q) : wp M (.gcall (B g) g' f args k) S Q := wp_gcall_f hg h
theorem zF {g' : Bool} {f : AV} {args : List AV} (h : wp M (k uv) S Q) : wp M (.gcall uv g' f args k) S Q := wp_gcall_u h
theorem zG {x y : AC} (h : wp M x S Q) : wp M (.ite (B true) x y) S Q := wp_ite_t h
theorem zH {x y : AC} (h : wp M y S Q) : wp M (.ite (B false) x y) S Q := wp_ite_f h
theorem zI {id off f : Nat} (h : wp M (k (.ptr id (Nat.add off f))) S Q) : wp M (.op (.faddr f (.ptr id off)) k) S Q := wp_faddr h
theorem zJ {id off : Nat} (h : wp M (k (.ptr id off)) S Q) : wp M (.op (.nilchk (.ptr id off)) k) S Q := wp_nilchk h
theorem zK {x : AV} (h : wp M (k x) S Q) : wp M (.op (.mv x) k) S Q := wp_op rfl h
theorem zL {c a b v : AV} (he : pPick c a b = some v) (h : wp M (k v) S Q) : wp M (.op (.pick c a b) k) S Q := wp_op (by show pur (pPick c a b) S = _; rw [he]; rfl) h
theorem zN {i : Nat} {x v : AV} (he : pExtract i x = some v) (h : wp M (k v) S Q) : wp M (.op (.extract i x) k) S Q := wp_op (by show pur (pExtract i x) S = _; rw [he]; rfl) h
end
end Go.Abs
namespace Go.Abs
inductive Zz (M : Mach) : AC → AH → Post → Prop
  | a {g : Bool} {o : AOp} {k : AV → AC} {S : AH} {Q : Post} (h : Zz M (.op o k) S Q) : Zz M (.gop (B g) g o k) S Q
  | b {g : Bool} {o : AOp} {k : AV → AC} {S : AH} {Q : Post} (h : Zz M (k uv) S Q) : Zz M (.gop (B g) (!g) o k) S Q
  | c {g : Bool} {o : AOp} {k : AV → AC} {S : AH} {Q : Post} (h : Zz M (k uv) S Q) : Zz M (.gop uv g o k) S Q
  | d {g : Bool} {f : AV} {l : List AV} {k : AV → AC} {S : AH} {Q : Post} (h : Zz M (.call f l k) S Q) : Zz M (.gcall (B g) g f l k) S Q
  | e {g : Bool} {f : AV} {l : List AV} {k : AV → AC} {S : AH} {Q : Post} (h : Zz M (k uv) S Q) : Zz M (.gcall (B g) (!g) f l k) S Q
  | f {g : Bool} {f : AV} {l : List AV} {k : AV → AC} {S : AH} {Q : Post} (h : Zz M (k uv) S Q) : Zz M (.gcall uv g f l k) S Q
  | g {x y : AC} {S : AH} {Q : Post} (h : Zz M x S Q) : Zz M (.ite (B true) x y) S Q
  | h {x y : AC} {S : AH} {Q : Post} (h : Zz M y S Q) : Zz M (.ite (B false) x y) S Q
  | i {n o f : Nat} {k : AV → AC} {S : AH} {Q : Post} (h : Zz M (k (.ptr n (Nat.add o f))) S Q) : Zz M (.op (.faddr f (.ptr n o)) k) S Q
  | j {n o : Nat} {k : AV → AC} {S : AH} {Q : Post} (h : Zz M (k (.ptr n o)) S Q) : Zz M (.op (.nilchk (.ptr n o)) k) S Q
  | k {x : AV} {k : AV → AC} {S : AH} {Q : Post} (h : Zz M (k x) S Q) : Zz M (.op (.mv x) k) S Q
  | l {x y : AV} {k : AV → AC} {S : AH} {Q : Post} (h : Zz M (k x) S Q) : Zz M (.op (.pick (B true) x y) k) S Q
  | m {x y : AV} {k : AV → AC} {S : AH} {Q : Post} (h : Zz M (k y) S Q) : Zz M (.op (.pick (B false) x y) k) S Q
  | n {x : AV} {l : List AV} {k : AV → AC} {S : AH} {Q : Post} (h : Zz M (k x) S Q) : Zz M (.op (.extract 0 (.tup (x :: l))) k) S Q
  | o {x y : AV} {l : List AV} {k : AV → AC} {S : AH} {Q : Post} (h : Zz M (k y) S Q) : Zz M (.op (.extract 1 (.tup (x :: y :: l))) k) S Q
  | p {x y z : AV} {l : List AV} {k : AV → AC} {S : AH} {Q : Post} (h : Zz M (k z) S Q) : Zz M (.op (.extract 2 (.tup (x :: y :: z :: l))) k) S Q
  | z {x : AC} {S : AH} {Q : Post} (h : True → wp M x S Q) : Zz M x S Q
theorem zz {M : Mach} {x : AC} {S : AH} {Q : Post} (h : Zz M x S Q) : wp M x S Q := by
  induction h with
  | a h ih => exact wp_gop_t ih
  | b h ih => exact wp_gop_f rfl ih
  | c h ih => exact wp_gop_u ih
  | d h ih => exact wp_gcall_t ih
  | e h ih => exact wp_gcall_f rfl ih
  | f h ih => exact wp_gcall_u ih
  | g h ih => exact wp_ite_t ih
  | h h ih => exact wp_ite_f ih
  | i h ih => exact wp_faddr ih
  | j h ih => exact wp_nilchk ih
  | k h ih => exact wp_op rfl ih
  | l h ih => exact wp_op rfl ih
  | m h ih => exact wp_op rfl ih
  | n h ih => exact wp_op rfl ih
  | o h ih => exact wp_op rfl ih
  | p h ih => exact wp_op rfl ih
  | z h => exact h trivial
end Go.Abs
namespace Go.Abs
set_option linter.unusedVariables false
/-! ### where a timer stands in a wheel: plain numbers -/
def lev (now a : Nat) : Nat := if a ^^^ now = 0 then 0 else Nat.log2 (a ^^^ now) / 4
def slo (now a : Nat) : Nat := a / 16 ^ lev now a % 16
def spt (now a : Nat) : Nat := lev now a * 16 + slo now a
/-! ### digits -/
end Go.Abs
namespace Go.Abs
set_option linter.unusedVariables false
section
variable {M : Mach} {B0 S : AH} {W : List Nat} {own : List Own} {ro : List Fct} {Q : Post} {k : AV → AC}

/-! ### one's own things in another order -/
theorem Cx.perm (H : Cx B0 W S own ro) {own' : List Own} (h : own.Perm own') : Cx B0 W S own' ro where
  next := H.next
  old := H.old
  oh := fun x hx => H.oh x (h.mem_iff.2 hx)
  oi := fun x hx => H.oi x (h.mem_iff.2 hx)
  od := (h.pairwise_iff (fun {x y} hxy id hy hx => hxy id hx hy)).1 H.od
  rh := H.rh
  ri := fun φ hφ id hid => ⟨(H.ri φ hφ id hid).1, fun x hx => (H.ri φ hφ id hid).2 x (h.mem_iff.2 hx)⟩

/-! ### functions that are known without a body -/
theorem wpC_x {f : FuncId} {args : List AV} {g : List AV → AH → Option (AV × AH)} {v : AV} {S' : AH} {Q : AV → AH → Prop} (hk : M.kn.v f args = none) (ht : M.tbl f = none) (hx : M.kn.x f = some g) (h : g args S = some (v, S')) (hq : Q v S') :
    wpC M (.fn (.func f) [] []) args S Q := by
  refine ⟨v, S', ⟨1, fun n hn => ?_⟩, hq⟩
  obtain ⟨n, rfl⟩ : ∃ j, n = j + 1 := ⟨n - 1, by omega⟩
  have e : args ++ [] = args := List.append_nil _
  simp only [callT, appL_eq, List.nil_append, e, hk, ht, hx, h]

theorem take_flat : ∀ {L : List (List AV)} {es : Nat}, (∀ x ∈ L, x.length = es) → ∀ i, L.flatten.take (i * es) = (L.take i).flatten
  | [], es, _, i => by simp
  | y :: L, es, h, 0 => by simp
  | y :: L, es, h, i + 1 => by
    have hy := h y (by simp)
    have ih := take_flat (L := L) (fun z hz => h z (by simp [hz])) i
    simp only [List.flatten_cons, List.take_succ_cons]
    rw [List.take_append, ← ih, List.take_of_length_le (by rw [hy, Nat.succ_mul]; omega)]
    congr 2
    rw [hy, Nat.succ_mul]; omega
theorem drop_flat : ∀ {L : List (List AV)} {es : Nat}, (∀ x ∈ L, x.length = es) → ∀ i, L.flatten.drop (i * es) = (L.drop i).flatten
  | [], es, _, i => by simp
  | y :: L, es, h, 0 => by simp
  | y :: L, es, h, i + 1 => by
    have hy := h y (by simp)
    have ih := drop_flat (L := L) (fun z hz => h z (by simp [hz])) i
    simp only [List.flatten_cons, List.drop_succ_cons]
    rw [List.drop_append, ← ih, List.drop_eq_nil_of_le (by rw [hy, Nat.succ_mul]; omega), List.nil_append]
    congr 1
    rw [hy, Nat.succ_mul]; omega

theorem wp_insert (H : Cx B0 W S own ro) (n : Nat) {f : FuncId} {v x : AV} {es bytes i : Nat} {z : List AV} {L : List (List AV)} (hm : own[n]? = some (.sl v es L)) (hi : i ≤ L.length) (ho : odd x = false) (hx : x.cells.length = es) (hz : z.length = es)
    (hb : (L.length + 1) * bytes ≤ maxBytes) (hl : L.length + 1 ≤ maxLenN)
    (hk : ∀ a, M.kn.v f a = none) (ht : M.tbl f = none) (hxf : M.kn.x f = some (insK es bytes))
    (h : ∀ v1 S1, Cx B0 W S1 (own.set n (.sl v1 es (L.take i ++ x.cells :: L.drop i))) ro → wp M (k v1) S1 Q) :
    wp M (.op (.bslice es 1 z [(0, es, x)]) fun t => .call (.fn (.func f) [] []) [v, I (i : Int), t] k) S Q := by
  refine wp_op (v := .sl S.next 0 1 1) (S1 := S.new (.row x.cells)) ?_ ?_
  · show nBslice es 1 z [(0, es, x)] S = _
    unfold nBslice
    have e0 : repZero z 1 = z := by simp [repZero, appL_eq]
    have e1 : (not (odd x) && Nat.beq (lenL x.cells) es && Nat.ble (Nat.add 0 es) (lenL z)) = true := by
      rw [lenL_eq, lenL_eq, hx, hz, Nat.beq_refl, ho]
      have : Nat.ble (Nat.add 0 es) es = true := ble_t (by show 0 + es ≤ es; omega)
      rw [this]; rfl
    have e2 : setRange z 0 x.cells = x.cells := by rw [setRange_eq]; simp; omega
    have e3 : (Nat.beq (lenL x.cells) (Nat.mul 1 es) && Nat.beq (lenL z) es) = true := by
      rw [lenL_eq, lenL_eq, hx, hz, Nat.beq_refl]
      have : Nat.mul 1 es = es := Nat.one_mul es
      rw [this, Nat.beq_refl]; rfl
    rw [e0]
    simp only [fillP, e1, e2, e3]
    rfl
  · have K := H.grow (Grows.new S (.row x.cells))
    have hg0 : (S.new (.row x.cells)).get S.next = some (.row x.cells) := get_new_same _ _
    have hlt := fun id hid => (H.oi _ (List.mem_of_getElem? hm) id hid).1
    have q1 : (Nat.ble 1 1 && Nat.ble (0 + 1 * es) (lenL x.cells)) = true := by
      rw [lenL_eq, hx, ble_t (by omega : 0 + 1 * es ≤ es)]; rfl
    have q2 : takeL (1 * es) (dropL 0 x.cells) = x.cells := by rw [takeL_eq, dropL_eq, List.drop_zero, Nat.one_mul, List.take_of_length_le (by omega)]
    have hin : insK es bytes [v, I (i : Int), .sl S.next 0 1 1] (S.new (.row x.cells)) = insTo es bytes v i S.next 1 x.cells (S.new (.row x.cells)) := by
      show (match (S.new (.row x.cells)).get S.next with | some (.row vc) => (match Nat.ble 1 1 && Nat.ble (0 + 1 * es) (lenL vc) with | true => insTo es bytes v i S.next 1 (takeL (1 * es) (dropL 0 vc)) (S.new (.row x.cells)) | false => none) | _ => none) = _
      rw [hg0]
      simp only [q1, q2]
    have hw : slW (S.new (.row x.cells)) v es L := K.oh _ (List.mem_of_getElem? hm)
    rcases hw with ⟨rfl, rfl⟩ | ⟨id, off, c, h0, h1, h2, h3⟩
    · have i0 : i = 0 := by simpa using hi
      subst i0
      refine wp_call (wpC_x (hk _) ht hxf (v := .op ((S.new (.row x.cells)).next) 0 1 1 es) (S' := (S.new (.row x.cells)).new (.row x.cells)) ?_ ?_)
      · rw [hin]
        have g1 : (Nat.beq 0 0 && (Nat.ble (1 * bytes) maxBytes && Nat.ble 1 maxLenN)) = true := by
          rw [ble_t (by simpa using hb), ble_t (by simpa using hl)]; rfl
        show (match Nat.beq 0 0 && (Nat.ble (1 * bytes) maxBytes && Nat.ble 1 maxLenN) with | true => _ | false => _) = _
        rw [g1]
      · refine h _ _ (K.step hm (S1 := (S.new (.row x.cells)).new (.row x.cells)) (x' := .sl (.op (S.new (.row x.cells)).next 0 1 1 es) es ([].take 0 ++ x.cells :: [].drop 0)) (by simp [AH.new]) (fun id hid _ => by rw [AH.get_new, if_neg (by omega)]) ?_ ?_)
        · refine .inr ⟨_, 0, x.cells, .inr ⟨1, by simp, by omega, by simp⟩, get_new_same _ _, by simp [← hx], by simp [hx]⟩
        · intro id hid
          simp only [Own.ids, vids, List.mem_singleton] at hid
          subst hid
          exact ⟨by simp [AH.new], .inr (Nat.le_refl _)⟩
    · have hidv : id ∈ vids v := by rw [h0.ids]; simp
      have hne : id ≠ S.next := by have := hlt id hidv; omega
      have hfl := flatten_length h3
      have hbeq : Nat.beq id S.next = false := by
        cases hq : Nat.beq id S.next with
        | true => exact absurd (Nat.eq_of_beq_eq_true hq) hne
        | false => rfl
      have main : ∀ cap, L.length ≤ cap → off + cap * es ≤ c.length → insRow es bytes id off L.length cap i S.next 1 x.cells (S.new (.row x.cells)) =
          some (.op (S.new (.row x.cells)).next 0 (L.length + 1) (L.length + 1) es, ((S.new (.row x.cells)).kill id).new (.row (L.take i ++ x.cells :: L.drop i).flatten)) := by
        intro cap hc1 hc2
        unfold insRow
        rw [h1]
        have g1 : (not (Nat.beq id S.next) && (Nat.ble (off + cap * es) (lenL c) && (Nat.ble L.length cap && (Nat.ble i L.length && (Nat.ble ((L.length + 1) * bytes) maxBytes && Nat.ble (L.length + 1) maxLenN))))) = true := by
          rw [hbeq, lenL_eq, ble_t hc2, ble_t hc1, ble_t hi, ble_t hb, ble_t hl]; rfl
        have hle : L.length * es ≤ cap * es := Nat.mul_le_mul_right es hc1
        have hie : i * es ≤ L.length * es := Nat.mul_le_mul_right es hi
        have e1 : (c.drop off).take (i * es) = (L.take i).flatten := by
          rw [← take_flat h3, ← h2, List.take_take, Nat.min_eq_left hie]
        have e2 : (c.drop (off + i * es)).take ((L.length - i) * es) = (L.drop i).flatten := by
          rw [← drop_flat h3, ← h2, List.drop_take, List.drop_drop, Nat.sub_mul]
        simp only [g1, appL_eq, takeL_eq, dropL_eq, e1, e2, List.flatten_append, List.flatten_cons]
      have hres : insTo es bytes v i S.next 1 x.cells (S.new (.row x.cells)) = some (.op (S.new (.row x.cells)).next 0 (L.length + 1) (L.length + 1) es, ((S.new (.row x.cells)).kill id).new (.row (L.take i ++ x.cells :: L.drop i).flatten)) := by
        rcases h0 with ⟨cap, q1, q2, rfl⟩ | ⟨cap, q1, q2, rfl⟩
        · exact main cap q1 q2
        · show (match Nat.beq es es with | true => _ | false => _) = _
          rw [Nat.beq_refl]
          exact main cap q1 q2
      refine wp_call (wpC_x (hk _) ht hxf (hin.trans hres) ?_)
      have hnx : ((S.new (.row x.cells)).kill id).next = (S.new (.row x.cells)).next := rfl
      have hL2 : (L.take i ++ x.cells :: L.drop i).length = L.length + 1 := by simp; omega
      have hall : ∀ y ∈ L.take i ++ x.cells :: L.drop i, y.length = es := by
        intro y hy
        rcases List.mem_append.1 hy with hy | hy
        · exact h3 y (List.mem_of_mem_take hy)
        · rcases List.mem_cons.1 hy with rfl | hy
          · exact hx
          · exact h3 y (List.mem_of_mem_drop hy)
      refine h _ _ (K.step hm (x' := .sl (.op (S.new (.row x.cells)).next 0 (L.length + 1) (L.length + 1) es) es (L.take i ++ x.cells :: L.drop i)) ?_ ?_ ?_ ?_)
      · simp [AH.new, AH.kill]
      · intro j hj hnj
        rw [AH.get_new, hnx, if_neg (by omega), AH.get_kill, if_neg ?_]
        simpa [Own.ids, h0.ids] using hnj
      · refine .inr ⟨_, 0, (L.take i ++ x.cells :: L.drop i).flatten, .inr ⟨L.length + 1, by omega, by rw [flatten_length hall, hL2]; omega, by rw [hL2]⟩, ?_, ?_, hall⟩
        · have := get_new_same ((S.new (.row x.cells)).kill id) (.row (L.take i ++ x.cells :: L.drop i).flatten)
          exact this
        · rw [List.drop_zero, List.take_of_length_le (by rw [flatten_length hall]; omega)]
      · intro j hj
        simp only [Own.ids, vids, List.mem_singleton] at hj
        subst hj
        exact ⟨by simp [AH.new, AH.kill], .inr (Nat.le_refl _)⟩
end
end Go.Abs
namespace Go.Abs
set_option linter.unusedVariables false
/-! ### maps: an entry is taken out -/
theorem list_set_self {α : Type} {l : List α} {n : Nat} {x : α} (h : l[n]? = some x) : l.set n x = l := by
  apply List.ext_getElem?
  intro j
  rw [List.getElem?_set]
  split
  · next e =>
    subst e
    obtain ⟨h1, h2⟩ := List.getElem?_eq_some_iff.1 h
    rw [if_pos h1, h]
  · rfl
section
variable {M : Mach} {B0 S : AH} {W : List Nat} {own : List Own} {ro : List Fct} {Q : Post} {k : AV → AC}
/-! ### a slice of one's own is cut: what is behind is cleared -/
end
end Go.Abs
namespace Go.Abs
set_option linter.unusedVariables false
/-! ### ranges over functions that tell given things, one behind the other; the body may stop them -/
section
variable (M : Mach) (B0 : AH) (W : List Nat) (ro : List Fct)
end
section
variable {M : Mach} {B0 S : AH} {W : List Nat} {own : List Own} {ro : List Fct} {Q : Post} {k : AV → AC}
end
end Go.Abs

namespace Go.Abs
/-! ### lists of lists, one behind the other -/
end Go.Abs
namespace Go.Abs
set_option linter.unusedVariables false
/-! ### timers, in order -/
structure Fi where
  id : Nat
  tm : Nat
  deriving DecidableEq
def Fi.cs (f : Fi) : List AV := [I f.id, I f.tm]
def Fi.lt (a b : Fi) : Prop := a.tm < b.tm ∨ a.tm = b.tm ∧ a.id < b.id
instance (a b : Fi) : Decidable (Fi.lt a b) := inferInstanceAs (Decidable (_ ∨ _))
theorem Fi.lt_irrefl (a : Fi) : ¬ a.lt a := by unfold Fi.lt; omega
theorem Fi.lt_asymm {a b : Fi} (h : a.lt b) : ¬ b.lt a := by unfold Fi.lt at *; omega
abbrev Ord (l : List Fi) : Prop := l.Pairwise Fi.lt
structure Wl where
  now : Nat
  L : List Fi
structure Wl.Ok (x : Wl) : Prop where
  clk : x.now ≤ 1099511627776
  ord : Ord x.L
  nd : (x.L.map (·.id)).Nodup
  ge : ∀ f ∈ x.L, x.now ≤ f.tm
  le : ∀ f ∈ x.L, f.tm ≤ 1099511627776
  id : ∀ f ∈ x.L, f.id < 256
def Wl.slot (x : Wl) (k : Nat) : List Fi := x.L.filter (fun f => spt x.now f.tm == k)
theorem Wl.Ok.inj {x : Wl} (h : x.Ok) {f g : Fi} (hf : f ∈ x.L) (hg : g ∈ x.L) (e : f.id = g.id) : f = g := by
  have := h.nd
  rw [List.Nodup, List.pairwise_map, List.pairwise_iff_getElem] at this
  obtain ⟨i, hi, rfl⟩ := List.mem_iff_getElem.1 hf
  obtain ⟨j, hj, rfl⟩ := List.mem_iff_getElem.1 hg
  rcases Nat.lt_trichotomy i j with hij | rfl | hij
  · exact absurd e (this i j hi hj hij)
  · rfl
  · exact absurd e.symm (this j i hj hi hij)
theorem nodup_le : ∀ {n : Nat} {l : List Nat}, l.Nodup → (∀ x ∈ l, x < n) → l.length ≤ n
  | 0, [], _, _ => by simp
  | 0, x :: l, _, h => absurd (h x (by simp)) (by omega)
  | n + 1, l, hn, h => by
    have := nodup_le (n := n) (l := l.erase n) (hn.sublist List.erase_sublist) fun x hx => by
      have h1 := h x (List.mem_of_mem_erase hx)
      have h2 : x ≠ n := fun e => by subst e; exact (List.Nodup.not_mem_erase hn) hx
      omega
    have h3 := List.length_erase (a := n) (l := l)
    split at h3 <;> omega
theorem Wl.Ok.len {x : Wl} (h : x.Ok) : x.L.length ≤ 256 := by
  have := nodup_le h.nd fun i hi => by
    obtain ⟨f, hf, rfl⟩ := List.mem_map.1 hi
    exact h.id f hf
  simpa using this
end Go.Abs
namespace Go.Abs
open Go.Proofs
set_option maxRecDepth 100000
set_option linter.unusedVariables false
noncomputable def EM : Mach := ⟨Tryz.prog, Tryz.tbl, ⟨knV [(4, .bool true)], xOf [(79, insK 1 8)]⟩⟩


/-! ### numbers -/
def cmpI (a b : Int) : Int := if a < b then -1 else if b < a then 1 else 0
theorem nan_ok {S : AH} {a : Int} : wpC EM (.fn (.func 99) [] []) [I a] S fun r S' => r = B false ∧ Grows S S' := by
  refine wpC_fn (b := Tryz.a99) rfl rfl ?_
  unfold Tryz.a99
  refine wp_neq_f rfl ?_
  exact wp_ret ⟨rfl, rfl, Grows.refl _⟩
theorem compare_ok {S : AH} {a b : Int} : wpC EM (.fn (.func 86) [] []) [I a, I b] S fun r S' => r = I (cmpI a b) ∧ Grows S S' := by
  refine wpC_fn (b := Tryz.a86) rfl rfl ?_
  have H : Cx S [] S [] [] := Cx.enter (by simp)
  unfold Tryz.a86 cmpI
  refine wp_callV H nan_ok fun S1 H => ?_
  refine wp_callV H nan_ok fun S2 H => ?_
  try(refine zz ?_;(repeat constructor);intro _)
  refine wp_lss (fun h => ?_) (fun h => ?_)
  · rw [if_pos h]
    try(refine zz ?_;(repeat constructor);intro _)
    exact wp_ret ⟨rfl, rfl, H.grows⟩
  rw [if_neg (by omega)]
  try(refine zz ?_;(repeat constructor);intro _)
  refine wp_gtr (fun h2 => ?_) (fun h2 => ?_)
  · rw [if_pos h2]
    try(refine zz ?_;(repeat constructor);intro _)
    exact wp_ret ⟨rfl, rfl, H.grows⟩
  · rw [if_neg (by omega)]
    try(refine zz ?_;(repeat constructor);intro _)
    exact wp_ret ⟨rfl, rfl, H.grows⟩
def orI : List Int → Int
  | [] => 0
  | a :: l => if a ≠ 0 then a else orI l
theorem orI_drop {l : List Int} {i : Nat} (h : i < l.length) : orI (l.drop i) = if l[i] ≠ 0 then l[i] else orI (l.drop (i + 1)) := by
  rw [List.drop_eq_getElem_cons h]; rfl
theorem or_ok {S : AH} {v : AV} {l : List Int} (hv : RoSl S v 1 (ints l)) (hl : l.length < 1000000) : wpC EM (.fn (.func 84) [] []) [v] S fun r S' => r = I (orI l) ∧ Grows S S' := by
  refine wpC_fn (b := Tryz.a84) rfl rfl ?_
  have H := Cx.ro1 hv
  unfold Tryz.a84
  refine wp_len H (by repeat (first | exact List.Mem.head _ | apply List.Mem.tail)) ?_
  rw [ints_len]
  refine wp_bind (wp_loop (wpL_inv (fun m vs S1 => ∃ (i : Nat) (u : AV), vs = [I (i : Int), u] ∧ i ≤ l.length ∧ m = l.length - i ∧ orI l = orI (l.drop i) ∧ Cx S [] S1 [] [.sl v 1 (ints l)]) ?_ l.length ⟨0, _, rfl, by omega, by omega, rfl, H⟩))
  rintro m vs S1 ⟨i, u, rfl, hi, rfl, he, H⟩
  refine wp_lss (fun hlt => ?_) (fun hge => ?_)
  · have hlt : i < l.length := by omega
    try(refine zz ?_;(repeat constructor);intro _)
    refine wp_bind ?_
    refine wp_saddr (i := i) (x := [I l[i]]) H (by repeat (first | exact List.Mem.head _ | apply List.Mem.tail)) (by simp [ints, hlt]) fun p off H1 => ?_
    refine wp_load0 H1 (by repeat (first | exact List.Mem.head _ | apply List.Mem.tail)) rfl ?_
    rw [orI_drop hlt] at he
    refine wp_neq (fun hne => ?_) (fun hz => ?_)
    · try(refine zz ?_;(repeat constructor);intro _)
      rw [if_pos hne] at he
      exact wp_ret (.inr ⟨by simp, rfl, by rw [he]; rfl, H.grows⟩)
    · try(refine zz ?_;(repeat constructor);intro _)
      rw [if_neg (by simpa using hz)] at he
      refine wp_ret ?_
      show wp EM _ _ _
      exact wp_add64 (by omega) (by omega) (wp_ret (.inl ⟨rfl, l.length - (i + 1), by omega, i + 1, _, rfl, by omega, rfl, he, H⟩))
  · try(refine zz ?_;(repeat constructor);intro _)
    refine wp_ret (.inr ⟨by simp, wp_ret ⟨rfl, ?_, H.grows⟩⟩)
    rw [List.drop_of_length_le (by omega)] at he
    rw [he]; rfl
section
variable {M : Mach} {B0 S : AH} {W : List Nat} {own : List Own} {ro : List Fct} {Q : Post} {k : AV → AC} {κ κ' : IntKind}
theorem e_shr {a b : Int} (hb : 0 ≤ b) : evalOp M.P (.bin .shr (Z κ a) (Z κ' b)) S = some (Z κ (a.fdiv (2 ^ (min b.toNat κ.bits))), S) := by
  show pur (bShr (Z κ a) (Z κ' b)) S = _
  have : ltF b 0 = false := by rw [ltF_eq]; simpa using hb
  unfold bShr
  simp only [this]
  rfl
theorem shr_nat {n s : Nat} : ((n : Int).fdiv (2 ^ s)) = ((n / 2 ^ s : Nat) : Int) := by
  have : ((2 : Int) ^ s) = ((2 ^ s : Nat) : Int) := by simp
  rw [this, Int.ofNat_fdiv]
theorem wp_shrU {n s : Nat} (hn : n ≤ 18446744073709551615) (hs : s ≤ 64) (h : wp M (k (U ((n / 2 ^ s : Nat) : Int))) S Q) : wp M (.op (.bin .shr (U (n : Int)) (Z κ' (s : Int))) k) S Q := by
  refine wp_op (e_shr (by omega)) ?_
  have e : min (s : Int).toNat IntKind.u64.bits = s := by show min (s : Int).toNat 64 = s; omega
  rw [e, shr_nat]; exact h
theorem wp_conv {a c : Int} (hw : wrapF κ a = c) (h : wp M (k (Z κ c)) S Q) : wp M (.op (.conv κ (Z κ' a)) k) S Q := wp_op (v := Z κ c) (by show pur (pConv κ (Z κ' a)) S = _; rw [← hw]; rfl) h
theorem wp_two (H : Cx B0 W S own ro) {x y : AV} (hx : odd x = false) (hy : odd y = false) (lx : x.cells = [x]) (ly : y.cells = [y]) (h : ∀ v S1, Cx B0 W S1 own (.sl v 1 [[x], [y]] :: ro) → wp M (k v) S1 Q) :
    wp M (.op (.bslice 1 2 [I 0] [(0, 1, x), (1, 1, y)]) k) S Q := by
  refine wp_op (v := .sl S.next 0 2 2) (S1 := S.new (.row [x, y])) ?_ (h _ _ (H.addNewRo (Grows.new S _) (φ := .sl (.sl S.next 0 2 2) 1 [[x], [y]]) ?_ ?_))
  · show nBslice 1 2 [I 0] [(0, 1, x), (1, 1, y)] S = _
    unfold nBslice
    have e1 : fillP (repZero [I 0] 2) [(0, 1, x), (1, 1, y)] = some [x, y] := by
      simp only [fillP, hx, hy, lx, ly]
      rfl
    rw [e1]
    rfl
  · exact .inr ⟨S.next, 0, [x, y], .inl ⟨2, by simp, by simp, rfl⟩, row_cells (get_new_same _ _), by simp, by simp⟩
  · intro id hid
    simp only [Fct.ids, vids, List.mem_singleton] at hid
    subst hid
    exact ⟨Nat.le_refl _, by simp [AH.new]⟩
end
end Go.Abs
namespace Go.Abs
open Go.Proofs
set_option maxRecDepth 100000
set_option linter.unusedVariables false
/-! ### live jobs, their order, and what a stable sort makes of them -/
structure Lv where
  job : Int
  st : Int
  core : Int
  key : Int
def Lv.cs (x : Lv) : List AV := [I x.job, I x.st, I x.core, U x.key]
def lvs (l : List Lv) : List (List AV) := l.map Lv.cs
theorem lvs_len (l : List Lv) : (lvs l).length = l.length := List.length_map ..
theorem lvs_all (l : List Lv) : ∀ x ∈ lvs l, x.length = 4 := by intro x hx; obtain ⟨f, _, rfl⟩ := List.mem_map.1 hx; rfl
theorem lvs_app (a b : List Lv) : lvs (a ++ b) = lvs a ++ lvs b := List.map_append ..
theorem lvs_set (l : List Lv) (i : Nat) (x : Lv) : (lvs l).set i x.cs = lvs (l.set i x) := by unfold lvs; rw [List.map_set]
def Lv.lt (a b : Lv) : Prop := a.key < b.key ∨ a.key = b.key ∧ a.job < b.job
instance (a b : Lv) : Decidable (Lv.lt a b) := inferInstanceAs (Decidable (_ ∨ _))
theorem Lv.lt_irrefl (a : Lv) : ¬ a.lt a := by unfold Lv.lt; omega
theorem Lv.lt_le {a b c : Lv} (h : a.lt b) (k : ¬ c.lt b) : a.lt c := by unfold Lv.lt at *; omega
theorem Lv.le_lt {a b c : Lv} (h : ¬ b.lt a) (k : b.lt c) : a.lt c := by unfold Lv.lt at *; omega
theorem Lv.le_le {a b c : Lv} (h : ¬ b.lt a) (k : ¬ c.lt b) : ¬ c.lt a := by unfold Lv.lt at *; omega
theorem Lv.lt_asymm {a b : Lv} (h : a.lt b) : ¬ b.lt a := by unfold Lv.lt at *; omega
abbrev Srt (l : List Lv) : Prop := l.Pairwise fun a b => ¬ b.lt a
def cls (k j : Int) (l : List Lv) : List Lv := l.filter fun x => x.key == k && x.job == j
theorem cls_app (k j : Int) (a b : List Lv) : cls k j (a ++ b) = cls k j a ++ cls k j b := List.filter_append ..
theorem mem_cls {k j : Int} {x : Lv} {l : List Lv} : x ∈ cls k j l ↔ x ∈ l ∧ x.key = k ∧ x.job = j := by simp [cls, List.mem_filter]
def StS (l m : List Lv) : Prop := Srt m ∧ ∀ k j, cls k j m = cls k j l
theorem cls_cons (k j : Int) (x : Lv) (l : List Lv) : cls k j (x :: l) = if x.key = k ∧ x.job = j then x :: cls k j l else cls k j l := by
  unfold cls
  by_cases h : x.key = k ∧ x.job = j
  · rw [if_pos h, List.filter_cons_of_pos (by simp [h])]
  · rw [if_neg h, List.filter_cons_of_neg (by simpa using h)]
theorem srt_ext : ∀ {a b : List Lv}, Srt a → Srt b → (∀ k j, cls k j a = cls k j b) → a = b
  | [], [], _, _, _ => rfl
  | [], y :: b, _, _, h => by have := h y.key y.job; rw [cls_cons, if_pos ⟨rfl, rfl⟩] at this; cases this
  | x :: a, [], _, _, h => by have := h x.key x.job; rw [cls_cons, if_pos ⟨rfl, rfl⟩] at this; cases this
  | x :: a, y :: b, ha, hb, h => by
    have ha' := List.pairwise_cons.1 ha
    have hb' := List.pairwise_cons.1 hb
    have hx := h x.key x.job
    have hy := h y.key y.job
    have hxy : ¬ y.lt x := by
      have : y ∈ cls y.key y.job (x :: a) := by rw [hy, cls_cons, if_pos ⟨rfl, rfl⟩]; simp
      rcases List.mem_cons.1 (mem_cls.1 this).1 with rfl | hm
      · exact Lv.lt_irrefl _
      · exact ha'.1 y hm
    have hyx : ¬ x.lt y := by
      have : x ∈ cls x.key x.job (y :: b) := by rw [← hx, cls_cons, if_pos ⟨rfl, rfl⟩]; simp
      rcases List.mem_cons.1 (mem_cls.1 this).1 with rfl | hm
      · exact Lv.lt_irrefl _
      · exact hb'.1 x hm
    have hk : y.key = x.key ∧ y.job = x.job := by unfold Lv.lt at hxy hyx; omega
    rw [cls_cons, if_pos ⟨rfl, rfl⟩, cls_cons, if_pos hk] at hx
    obtain ⟨rfl, _⟩ := List.cons.inj hx
    congr 1
    refine srt_ext ha'.2 hb'.2 fun k j => ?_
    have := h k j
    rw [cls_cons, cls_cons] at this
    split at this
    · exact (List.cons.inj this).2
    · exact this
theorem StS.uniq {l a b : List Lv} (ha : StS l a) (hb : StS l b) : a = b := srt_ext ha.1 hb.1 fun k j => (ha.2 k j).trans (hb.2 k j).symm
theorem StS.mem {l m : List Lv} (h : StS l m) {x : Lv} : x ∈ m ↔ x ∈ l := by
  have := h.2 x.key x.job
  constructor
  · intro hx
    have : x ∈ cls x.key x.job l := by rw [← this]; exact mem_cls.2 ⟨hx, rfl, rfl⟩
    exact (mem_cls.1 this).1
  · intro hx
    have : x ∈ cls x.key x.job m := by rw [this]; exact mem_cls.2 ⟨hx, rfl, rfl⟩
    exact (mem_cls.1 this).1
theorem StS.app {l1 l2 m1 m2 : List Lv} (h1 : StS l1 m1) (h2 : StS l2 m2) (h : ∀ x ∈ l1, ∀ y ∈ l2, ¬ y.lt x) : StS (l1 ++ l2) (m1 ++ m2) := by
  refine ⟨List.pairwise_append.2 ⟨h1.1, h2.1, fun x hx y hy => h x (h1.mem.1 hx) y (h2.mem.1 hy)⟩, fun k j => ?_⟩
  rw [cls_app, cls_app, h1.2, h2.2]
theorem StS.perm {l l' m : List Lv} (h : StS l m) (he : ∀ k j, cls k j l' = cls k j l) : StS l' m := ⟨h.1, fun k j => (h.2 k j).trans (he k j).symm⟩
theorem StS.self {l : List Lv} (h : Srt l) : StS l l := ⟨h, fun _ _ => rfl⟩
theorem StS.trans {l m n : List Lv} (h : StS l m) (k : StS m n) : StS l n := ⟨k.1, fun a b => (k.2 a b).trans (h.2 a b)⟩
theorem cls_swap {a b : List Lv} (h : ∀ x ∈ a, ∀ y ∈ b, y.lt x) (k j : Int) : cls k j (b ++ a) = cls k j (a ++ b) := by
  rw [cls_app, cls_app]
  cases ha : cls k j a with
  | nil => simp
  | cons x r =>
    have hx : x ∈ cls k j a := by rw [ha]; simp
    have hb : cls k j b = [] := by
      refine List.filter_eq_nil_iff.2 fun y hy => ?_
      have h1 := h x (mem_cls.1 hx).1 y hy
      have h2 := (mem_cls.1 hx).2
      simp only [Bool.and_eq_true, beq_iff_eq, not_and]
      intro h3 h4
      unfold Lv.lt at h1
      omega
    rw [hb]; simp
theorem Srt.take {l : List Lv} (h : Srt l) (n : Nat) : Srt (l.take n) := h.sublist (List.take_sublist _ _)
theorem Srt.drop {l : List Lv} (h : Srt l) (n : Nat) : Srt (l.drop n) := h.sublist (List.drop_sublist _ _)
theorem StS.insert {l a b : List Lv} {x : Lv} (h : StS l (a ++ b)) (h1 : ∀ y ∈ a, ¬ x.lt y) (h2 : ∀ y ∈ b, x.lt y) : StS (l ++ [x]) (a ++ x :: b) := by
  have hs := List.pairwise_append.1 h.1
  refine ⟨List.pairwise_append.2 ⟨hs.1, List.pairwise_cons.2 ⟨fun y hy => Lv.lt_asymm (h2 y hy), hs.2.1⟩, fun y hy z hz => ?_⟩, fun k j => ?_⟩
  · rcases List.mem_cons.1 hz with rfl | hz
    · exact h1 y hy
    · exact hs.2.2 y hy z hz
  · have e : cls k j (x :: b) = cls k j (b ++ [x]) := cls_swap (a := b) (b := [x]) (fun y hy z hz => by rw [List.mem_singleton.1 hz]; exact h2 y hy) k j
    rw [cls_app, e, ← cls_app, ← List.append_assoc, cls_app, h.2, cls_app]
theorem StS.cut {x1 x2 y1 y2 m1 m2 : List Lv} (hx : Srt (x1 ++ x2)) (hy : Srt (y1 ++ y2)) (h1 : StS (x1 ++ y1) m1) (h2 : StS (x2 ++ y2) m2) (ha : ∀ a ∈ x1, ∀ b ∈ y2, ¬ b.lt a) (hb : ∀ a ∈ x2, ∀ b ∈ y1, b.lt a) : StS ((x1 ++ x2) ++ (y1 ++ y2)) (m1 ++ m2) := by
  have px := List.pairwise_append.1 hx
  have py := List.pairwise_append.1 hy
  refine (StS.app h1 h2 ?_).perm fun k j => ?_
  · intro a ha1 b hb1
    rcases List.mem_append.1 ha1 with q1 | q1 <;> rcases List.mem_append.1 hb1 with q2 | q2
    · exact px.2.2 a q1 b q2
    · exact ha a q1 b q2
    · exact Lv.lt_asymm (hb b q2 a q1)
    · exact py.2.2 a q1 b q2
  · have e := cls_swap (a := x2) (b := y1) hb k j
    rw [cls_app, cls_app] at e
    simp only [cls_app]
    rw [List.append_assoc, List.append_assoc, ← List.append_assoc (cls k j x2), ← e, List.append_assoc]
end Go.Abs
namespace Go.Abs
open Go.Proofs
set_option maxRecDepth 100000
set_option linter.unusedVariables false
theorem get_mid {α : Type} (U V : List α) (y : α) : (U ++ y :: V)[U.length]? = some y := by simp
theorem set_mid {α : Type} (U V : List α) (x y : α) : (U ++ y :: V).set U.length x = U ++ x :: V := by simp
section
variable {B0 S : AH} {W : List Nat} {own : List Own} {ro : List Fct} {Q : Post} {k : AV → AC} {v : AV} {L : List Lv}
theorem lvs_get? {i : Nat} {x : Lv} (h : L[i]? = some x) : (lvs L)[i]? = some x.cs := by unfold lvs; rw [List.getElem?_map, h]; rfl
theorem wp_ownL (H : Cx B0 W S (.sl v 4 (lvs L) :: own) ro) {i : Nat} {x : Lv} (hi : L[i]? = some x) (h : wp EM (k (.agg x.cs)) S Q) : wp EM (.op (.saddr 4 v (I (i : Int))) fun p => .op (.load 4 true p) k) S Q := by
  refine wp_saddro H 0 rfl (lvs_get? hi) fun id off hp => ?_
  have := wp_loadFn (M := EM) (k := k) (S := S) (Q := Q) (j := 0) (n := 4) hp (by show 0 + 4 ≤ 4; omega) h
  exact this
theorem wp_ownS (H : Cx B0 W S (.sl v 4 (lvs L) :: own) ro) {i : Nat} {x : Lv} (hi : i < L.length) (h : ∀ S1, Cx B0 W S1 (.sl v 4 (lvs (L.set i x)) :: own) ro → wp EM (k uv) S1 Q) : wp EM (.op (.saddr 4 v (I (i : Int))) fun p => .op (.store 4 p (.agg x.cs)) k) S Q := by
  refine wp_storeE (i := i) (y := .agg x.cs) H 0 rfl (by rw [lvs_len]; exact hi) rfl rfl fun S1 H1 => h S1 ?_
  have H1 : Cx B0 W S1 (.sl v 4 ((lvs L).set i x.cs) :: own) ro := H1
  rw [lvs_set] at H1
  exact H1
theorem wp_ownLZ (H : Cx B0 W S (.sl v 4 (lvs L) :: own) ro) {z : Int} {i : Nat} {x : Lv} (hz : z = (i : Int)) (hi : L[i]? = some x) (h : wp EM (k (.agg x.cs)) S Q) : wp EM (.op (.saddr 4 v (I z)) fun p => .op (.load 4 true p) k) S Q := by
  subst hz; exact wp_ownL H hi h
theorem wp_ownSZ (H : Cx B0 W S (.sl v 4 (lvs L) :: own) ro) {z : Int} {i : Nat} {x : Lv} (hz : z = (i : Int)) (hi : i < L.length) (h : ∀ S1, Cx B0 W S1 (.sl v 4 (lvs (L.set i x)) :: own) ro → wp EM (k uv) S1 Q) : wp EM (.op (.saddr 4 v (I z)) fun p => .op (.store 4 p (.agg x.cs)) k) S Q := by
  subst hz; exact wp_ownS H hi h
theorem wp_ownN (H : Cx B0 W S own ro) (n : Nat) (hm : own[n]? = some (.sl v 4 (lvs L))) {i : Nat} {x : Lv} (hi : L[i]? = some x) (h : wp EM (k (.agg x.cs)) S Q) : wp EM (.op (.saddr 4 v (I (i : Int))) fun p => .op (.load 4 true p) k) S Q := by
  refine wp_saddro H n hm (lvs_get? hi) fun id off hp => ?_
  have := wp_loadFn (M := EM) (k := k) (S := S) (Q := Q) (j := 0) (n := 4) hp (by show 0 + 4 ≤ 4; omega) h
  exact this
theorem wp_ownG (H : Cx B0 W S (.sl v 4 (lvs L) :: own) ro) {z : Int} {i : Nat} {x : Lv} (hz : z = (i : Int)) (hi : L[i]? = some x) (h : wp EM (k (.agg x.cs)) S Q) : wp EM (.op (.saddr 4 v (I z)) fun p => .gop (B true) true (.load 4 true p) k) S Q := by
  subst hz
  refine wp_saddro H 0 rfl (lvs_get? hi) fun id off hp => ?_
  refine wp_gop_t ?_
  have := wp_loadFn (M := EM) (k := k) (S := S) (Q := Q) (j := 0) (n := 4) hp (by show 0 + 4 ≤ 4; omega) h
  exact this
theorem nanU_ok {S : AH} {a : Int} : wpC EM (.fn (.func 98) [] []) [U a] S fun r S' => r = B false ∧ Grows S S' := by
  refine wpC_fn (b := Tryz.a98) rfl rfl ?_
  unfold Tryz.a98
  refine wp_neq_f rfl ?_
  exact wp_ret ⟨rfl, rfl, Grows.refl _⟩
theorem compareU_ok {S : AH} {a b : Int} : wpC EM (.fn (.func 85) [] []) [U a, U b] S fun r S' => r = I (cmpI a b) ∧ Grows S S' := by
  refine wpC_fn (b := Tryz.a85) rfl rfl ?_
  have H : Cx S [] S [] [] := Cx.enter (by simp)
  unfold Tryz.a85 Tryz.a85x0
  unfold cmpI
  refine wp_callV H nanU_ok fun S1 H => ?_
  refine wp_callV H nanU_ok fun S2 H => ?_
  try(refine zz ?_;(repeat constructor);intro _)
  refine wp_lss (fun h => ?_) (fun h => ?_)
  · rw [if_pos h]
    try(refine zz ?_;(repeat constructor);intro _)
    exact wp_ret ⟨rfl, rfl, H.grows⟩
  rw [if_neg (by omega)]
  try(refine zz ?_;(repeat constructor);intro _)
  refine wp_gtr (fun h2 => ?_) (fun h2 => ?_)
  · rw [if_pos h2]
    try(refine zz ?_;(repeat constructor);intro _)
    exact wp_ret ⟨rfl, rfl, H.grows⟩
  · rw [if_neg (by omega)]
    try(refine zz ?_;(repeat constructor);intro _)
    exact wp_ret ⟨rfl, rfl, H.grows⟩
def lvo (a b : Lv) : Int := orI [cmpI a.key b.key, cmpI a.job b.job]
theorem lvo_lt {a b : Lv} : lvo a b < 0 ↔ a.lt b := by
  unfold lvo orI orI orI cmpI Lv.lt
  repeat' split
  all_goals omega
theorem orderL_ok {S : AH} {a b : Lv} : wpC EM (.fn (.func 69) [] []) [.agg a.cs, .agg b.cs] S fun r S' => r = I (lvo a b) ∧ Grows S S' := by
  refine wpC_fn (b := Tryz.a69) rfl rfl ?_
  have H : Cx S [] S [] [] := Cx.enter (by simp)
  unfold Tryz.a69 Tryz.a69x1 Tryz.a69x0
  refine wp_box H rfl fun p S1 H => ?_
  refine wp_box H rfl fun q S2 H => ?_
  try(refine zz ?_;(repeat constructor);intro _)
  refine wp_load1 (id := p) (j := 3) H (cs := a.cs) (by repeat (first | exact List.Mem.head _ | apply List.Mem.tail)) rfl ?_
  try(refine zz ?_;(repeat constructor);intro _)
  refine wp_load1 (id := q) (j := 3) H (cs := b.cs) (by repeat (first | exact List.Mem.head _ | apply List.Mem.tail)) rfl ?_
  try(refine zz ?_;(repeat constructor);intro _)
  refine wp_load1 (id := p) (j := 0) H (cs := a.cs) (by repeat (first | exact List.Mem.head _ | apply List.Mem.tail)) rfl ?_
  try(refine zz ?_;(repeat constructor);intro _)
  refine wp_load1 (id := q) (j := 0) H (cs := b.cs) (by repeat (first | exact List.Mem.head _ | apply List.Mem.tail)) rfl ?_
  refine wp_callV H compareU_ok fun S3 H => ?_
  refine wp_chk1 (id := p) (off := 0) (j := 0) (cs := a.cs) H (by repeat (first | exact List.Mem.head _ | apply List.Mem.tail)) rfl beq_num ?_
  refine wp_chk1 (id := q) (off := 0) (j := 0) (cs := b.cs) H (by repeat (first | exact List.Mem.head _ | apply List.Mem.tail)) rfl beq_num ?_
  refine wp_callV H compare_ok fun S4 H => ?_
  refine wp_two H rfl rfl rfl rfl fun v S5 H => ?_
  refine wp_callV H (or_ok (l := [cmpI a.key b.key, cmpI a.job b.job]) (H.roSl (by repeat (first | exact List.Mem.head _ | apply List.Mem.tail))) (by simp)) fun S6 H => ?_
  exact wp_ret ⟨rfl, rfl, H.grows⟩
end
end Go.Abs
namespace Go.Abs
open Go.Proofs
set_option maxRecDepth 100000
set_option linter.unusedVariables false
section
variable {B0 S : AH} {W : List Nat} {own : List Own} {ro : List Fct} {Q : Post} {k : AV → AC} {v : AV} {L : List Lv}
abbrev ordF : AV := .fn (.func 69) [] []
theorem insertion_ok {P X R : List Lv} (hl : (P ++ (X ++ R)).length < 1000000) (H : Cx B0 W S (.sl v 4 (lvs (P ++ (X ++ R))) :: own) ro) :
    wpC EM (.fn (.func 96) [] []) [v, I (P.length : Int), I ((P.length + X.length : Nat) : Int), ordF] S fun _ S' => ∃ m, StS X m ∧ m.length = X.length ∧ Cx B0 W S' (.sl v 4 (lvs (P ++ (m ++ R))) :: own) ro := by
  refine wpC_fn (b := Tryz.a96) rfl rfl ?_
  unfold Tryz.a96 Tryz.a96x8 Tryz.a96x7 Tryz.a96x6 Tryz.a96x5 Tryz.a96x4 Tryz.a96x3 Tryz.a96x2 Tryz.a96x1 Tryz.a96x0
  simp only [List.length_append] at hl
  refine wp_add64 (by omega) (by omega) ?_
  refine wp_bind (wp_loop (wpL_inv (fun n vs S1 => ∃ (t : Nat) (u : AV) (m : List Lv), vs = [I ((P.length + t : Nat) : Int), u] ∧ 1 ≤ t ∧ t ≤ max 1 X.length ∧ n = max 1 X.length - t ∧ StS (X.take t) m ∧ m.length = min t X.length ∧ Cx B0 W S1 (.sl v 4 (lvs (P ++ (m ++ (X.drop t ++ R)))) :: own) ro) ?_ (max 1 X.length - 1) ⟨1, .no, X.take 1, ?_, by omega, by omega, rfl, ?_, by rw [List.length_take], ?_⟩))
  rotate_left
  · rfl
  · refine StS.self ?_
    cases X with
    | nil => simp
    | cons a r => simp
  · have : X.take 1 ++ (X.drop 1 ++ R) = X ++ R := by rw [← List.append_assoc, List.take_append_drop]
    rw [this]; exact H
  clear H
  rintro n vs S1 ⟨t, u, m, rfl, ht1, ht, rfl, hm, hml, H⟩
  refine wp_lss (fun hlt => ?_) (fun hge => ?_)
  · have hlt : t < X.length := by omega
    have hml : m.length = t := by omega
    have hdr : X.drop t = X[t] :: X.drop (t + 1) := List.drop_eq_getElem_cons hlt
    rw [hdr] at H
    try(refine zz ?_;(repeat constructor);intro _)
    refine wp_bind ?_
    refine wp_bind (wp_loop (wpL_inv (fun n vs S1 => ∃ (a b : List Lv), vs = [I ((P.length + a.length : Nat) : Int)] ∧ n = a.length ∧ a ++ b = m ∧ (∀ y ∈ b, X[t].lt y) ∧ Cx B0 W S1 (.sl v 4 (lvs ((P ++ a) ++ X[t] :: (b ++ (X.drop (t + 1) ++ R)))) :: own) ro) ?_ t ⟨m, [], by rw [hml]; rfl, hml.symm, by simp, by simp, by simpa only [List.append_assoc, List.cons_append, List.nil_append] using H⟩))
    clear H
    rintro n vs S2 ⟨a, b, rfl, rfl, hab, hb, H⟩
    have hal : a.length + b.length = t := by rw [← hml, ← hab, List.length_append]
    have lenA : (P ++ a).length = P.length + a.length := List.length_append ..
    have fin : ∀ S2, Cx B0 W S2 (.sl v 4 (lvs ((P ++ a) ++ X[t] :: (b ++ (X.drop (t + 1) ++ R)))) :: own) ro → (∀ y ∈ a, ¬ X[t].lt y) → StS (X.take (t + 1)) (a ++ X[t] :: b) ∧ (a ++ X[t] :: b).length = min (t + 1) X.length ∧ Cx B0 W S2 (.sl v 4 (lvs (P ++ ((a ++ X[t] :: b) ++ (X.drop (t + 1) ++ R)))) :: own) ro := by
      intro S2 H ha
      refine ⟨?_, by simp only [List.length_append, List.length_cons]; omega, by simpa only [List.append_assoc, List.cons_append, List.nil_append] using H⟩
      rw [List.take_succ_eq_append_getElem hlt]
      exact StS.insert (by rw [hab]; exact hm) ha hb
    refine wp_gtr (fun hgt => ?_) (fun hle => ?_)
    · have ha0 : a ≠ [] := by intro h; rw [h] at hgt; simp at hgt
      obtain ⟨a', y, rfl⟩ : ∃ a' y, a = a' ++ [y] := ⟨a.dropLast, a.getLast ha0, (List.dropLast_concat_getLast ha0).symm⟩
      simp only [List.length_append, List.length_singleton] at hal lenA hgt ⊢
      have sh : ∀ p q : Lv, (P ++ (a' ++ [p])) ++ q :: (b ++ (X.drop (t + 1) ++ R)) = (P ++ a') ++ p :: q :: (b ++ (X.drop (t + 1) ++ R)) := by intro p q; simp only [List.append_assoc, List.cons_append, List.nil_append]
      have sh2 : ∀ p q : Lv, (P ++ a') ++ p :: q :: (b ++ (X.drop (t + 1) ++ R)) = ((P ++ a') ++ [p]) ++ q :: (b ++ (X.drop (t + 1) ++ R)) := by intro p q; simp only [List.append_assoc, List.cons_append, List.nil_append]
      have n1 : (P ++ a').length = P.length + a'.length := List.length_append ..
      have n2 : ∀ p : Lv, ((P ++ a') ++ [p]).length = P.length + a'.length + 1 := by intro p; rw [List.length_append, n1]; rfl
      rw [sh] at H
      have g1 : ∀ p q : Lv, ((P ++ a') ++ p :: q :: (b ++ (X.drop (t + 1) ++ R)))[P.length + a'.length]? = some p := by intro p q; rw [← n1]; exact get_mid _ _ _
      have g2 : ∀ p q : Lv, ((P ++ a') ++ p :: q :: (b ++ (X.drop (t + 1) ++ R)))[P.length + a'.length + 1]? = some q := by intro p q; rw [sh2, ← n2 p]; exact get_mid _ _ _
      try(refine zz ?_;(repeat constructor);intro _)
      refine wp_ownG (i := P.length + a'.length + 1) (x := X[t]) H (by omega) (g2 _ _) ?_
      try(refine zz ?_;(repeat constructor);intro _)
      refine wp_sub64 (by omega) (by omega) ?_
      try(refine zz ?_;(repeat constructor);intro _)
      refine wp_ownG (i := P.length + a'.length) (x := y) H (by omega) (g1 _ _) ?_
      try(refine zz ?_;(repeat constructor);intro _)
      refine wp_callV H (orderL_ok (a := X[t]) (b := y)) fun S3 H => ?_
      try(refine zz ?_;(repeat constructor);intro _)
      refine wp_lss (fun hneg => ?_) (fun hpos => ?_)
      · have hly := lvo_lt.1 hneg
        try(refine zz ?_;(repeat constructor);intro _)
        refine wp_bind ?_
        refine wp_sub64 (by omega) (by omega) ?_
        refine wp_sub64 (by omega) (by omega) ?_
        refine wp_ownLZ (i := P.length + a'.length) (x := y) H (by omega) (g1 _ _) ?_
        refine wp_ownLZ (i := P.length + a'.length + 1) (x := X[t]) H (by omega) (g2 _ _) ?_
        refine wp_ownSZ (i := P.length + a'.length + 1) (x := y) H (by omega) (by rw [sh2, ← n2 y]; simp) fun S4 H => ?_
        have s1 : ((P ++ a') ++ y :: X[t] :: (b ++ (X.drop (t + 1) ++ R))).set (P.length + a'.length + 1) y = (P ++ a') ++ y :: y :: (b ++ (X.drop (t + 1) ++ R)) := by rw [sh2, ← n2 y, set_mid, ← sh2]
        rw [s1] at H
        refine wp_ownSZ (i := P.length + a'.length) (x := X[t]) H (by omega) (by rw [← n1]; simp) fun S5 H => ?_
        have s2 : ((P ++ a') ++ y :: y :: (b ++ (X.drop (t + 1) ++ R))).set (P.length + a'.length) X[t] = (P ++ a') ++ X[t] :: y :: (b ++ (X.drop (t + 1) ++ R)) := by rw [← n1, set_mid]
        rw [s2] at H
        refine wp_ret ?_
        show wp EM _ _ _
        refine wp_sub64 (by omega) (by omega) (wp_ret (.inl ⟨rfl, a'.length, by omega, a', y :: b, ?_, rfl, by rw [← hab]; simp, ?_, by simpa only [List.append_assoc, List.cons_append, List.nil_append] using H⟩))
        · have q : ((P.length + (a'.length + 1) : Nat) : Int) - 1 = ((P.length + a'.length : Nat) : Int) := by omega
          show [I _] = [I _]
          rw [q]
        · intro z hz
          rcases List.mem_cons.1 hz with rfl | hz
          · exact hly
          · exact hb z hz
      · have hny : ¬ X[t].lt y := fun h => by have := lvo_lt.2 h; omega
        try(refine zz ?_;(repeat constructor);intro _)
        rw [← sh] at H
        have hsrt : Srt (a' ++ [y]) := by
          have := hm.1
          rw [← hab] at this
          exact (List.pairwise_append.1 this).1
        obtain ⟨f1, f2, f3⟩ := fin S3 H fun z hz => by
          rcases List.mem_append.1 hz with hz | hz
          · exact fun h => (List.pairwise_append.1 hsrt).2.2 z hz y (by simp) |> fun hyz => hny (Lv.lt_le h hyz)
          · rw [List.mem_singleton.1 hz]; exact hny
        refine wp_ret (.inr ⟨by simp, ?_⟩)
        show wp EM _ _ _
        refine wp_ret ?_
        show wp EM _ _ _
        refine wp_add64 (by omega) (by omega) (wp_ret (.inl ⟨rfl, max 1 X.length - (t + 1), by omega, t + 1, _, _, rfl, by omega, by omega, rfl, f1, f2, f3⟩))
    · have ha0 : a = [] := by cases a with
        | nil => rfl
        | cons z r => simp at hle; omega
      subst ha0
      try(refine zz ?_;(repeat constructor);intro _)
      obtain ⟨f1, f2, f3⟩ := fin S2 H (by simp)
      refine wp_ret (.inr ⟨by simp, ?_⟩)
      show wp EM _ _ _
      refine wp_ret ?_
      show wp EM _ _ _
      refine wp_add64 (by omega) (by omega) (wp_ret (.inl ⟨rfl, max 1 X.length - (t + 1), by omega, t + 1, _, _, rfl, by omega, by omega, rfl, f1, f2, f3⟩))
  · try(refine zz ?_;(repeat constructor);intro _)
    refine wp_ret (.inr ⟨by simp, ?_⟩)
    show wp EM _ _ _
    have hX : X.length ≤ t := by omega
    rw [List.take_of_length_le hX] at hm
    rw [List.drop_of_length_le hX] at H
    exact wp_ret ⟨rfl, m, hm, by omega, by simpa using H⟩
end
end Go.Abs
namespace Go.Abs
open Go.Proofs
set_option maxRecDepth 100000
set_option linter.unusedVariables false
/-! ### parts of one's own slices -/
section
variable {M : Mach} {B0 S : AH} {W : List Nat} {own : List Own} {ro : List Fct} {Q : Post} {k : AV → AC}
theorem slForm_from {v : AV} {es n id off i : Nat} {c : List AV} (h : slForm v es n id off c) (hi : i ≤ n) : ∃ v' off', evalOp M.P (.sslice es v (some (I (i : Int))) none none) S = some (v', S) ∧ slForm v' es (n - i) id off' c ∧ (i < n → off' = off + i * es) := by
  have hb : ∀ cap, n ≤ cap → bnds (some (I (i : Int))) none none n cap = some (i, n, cap) := by
    intro cap hc
    have h1 : bndO (some (I (i : Int))) 0 n = some i := by
      show below i (Nat.succ n) = some i
      unfold below; rw [ble_t (by omega)]
    show (match bndO (some (I (i : Int))) 0 n with | some l => (if (none : Option AV).isSome && (none : Option AV).isNone then none else some (l, n, cap)) | none => none) = _
    rw [h1]; rfl
  rcases h with ⟨cap, q1, q2, rfl⟩ | ⟨cmin, q1, q2, rfl⟩
  · have hm : i * es ≤ cap * es := Nat.mul_le_mul_right es (by omega)
    refine ⟨.sl id (if Nat.beq cap i = true then off else off + i * es) (n - i) (cap - i), _, ?_, .inl ⟨cap - i, by omega, ?_, rfl⟩, ?_⟩
    · show pur (pSslice es (.sl id off n cap) (some (I (i : Int))) none none) S = _
      unfold pSslice
      simp only [hb cap q1]
      rfl
    · rw [Nat.sub_mul]
      split <;> omega
    · intro hlt
      rw [if_neg]
      intro h
      have := Nat.eq_of_beq_eq_true h
      omega
  · have hm : i * es ≤ cmin * es := Nat.mul_le_mul_right es (by omega)
    refine ⟨.op id (off + i * es) (n - i) (cmin - i) es, _, ?_, .inr ⟨cmin - i, by omega, ?_, rfl⟩, fun _ => rfl⟩
    · show pur (pSslice es (.op id off n cmin es) (some (I (i : Int))) none none) S = _
      unfold pSslice
      simp only [hb cmin q1, Nat.beq_refl]
      rfl
    · rw [Nat.sub_mul]; omega
theorem tk_flat : ∀ {L : List (List AV)} {es : Nat}, (∀ x ∈ L, x.length = es) → ∀ i, L.flatten.take (i * es) = (L.take i).flatten
  | [], es, _, i => by simp
  | y :: L, es, h, 0 => by simp
  | y :: L, es, h, i + 1 => by
    have hy := h y (by simp)
    have ih := tk_flat (L := L) (fun z hz => h z (by simp [hz])) i
    simp only [List.flatten_cons, List.take_succ_cons]
    rw [List.take_append, ← ih, List.take_of_length_le (by rw [hy, Nat.succ_mul]; omega)]
    congr 2
    rw [hy, Nat.succ_mul]; omega
theorem dr_flat : ∀ {L : List (List AV)} {es : Nat}, (∀ x ∈ L, x.length = es) → ∀ i, L.flatten.drop (i * es) = (L.drop i).flatten
  | [], es, _, i => by simp
  | y :: L, es, h, 0 => by simp
  | y :: L, es, h, i + 1 => by
    have hy := h y (by simp)
    have ih := dr_flat (L := L) (fun z hz => h z (by simp [hz])) i
    simp only [List.flatten_cons, List.drop_succ_cons]
    rw [List.drop_append, ← ih, List.drop_eq_nil_of_le (by rw [hy, Nat.succ_mul]; omega), List.nil_append]
    congr 1
    rw [hy, Nat.succ_mul]; omega
theorem e_copyO {d s : AV} {es n id off : Nat} {c : List AV} {N : List (List AV)} {ys : List AV} (hd : slForm d es n id off c) (hg : S.get id = some (.row c)) (hs : elems S es s = some (N.length, N.flatten)) (hn : n ≤ N.length) (hy : N.flatten.take (n * es) = ys) :
    evalOp M.P (.copy es d s) S = some (I (n : Int), S.set id (.row (setRange c off ys))) := by
  have e1 : Nat.min N.length n = n := Nat.min_eq_right hn
  have main : ∀ cap, n ≤ cap → off + cap * es ≤ c.length → (if Nat.ble (off + n * es) (lenL c) then some ((AV.sc (.int .i64 (Nat.min N.length n)) : AV), S.set id (.row (setRange c off (takeL (Nat.min N.length n * es) N.flatten)))) else none) = some (I (n : Int), S.set id (.row (setRange c off ys))) := by
    intro cap h1 h2
    have hm : n * es ≤ cap * es := Nat.mul_le_mul_right es h1
    rw [lenL_eq, ble_t (by omega), e1, takeL_eq, hy]; rfl
  show eCopy es d s S = _
  unfold eCopy
  rw [hs]
  rcases hd with ⟨cap, q1, q2, rfl⟩ | ⟨cap, q1, q2, rfl⟩
  · simp only [hg]; exact main cap q1 q2
  · simp only [hg]; exact main cap q1 q2
theorem wp_shift (H : Cx B0 W S own ro) (n : Nat) {v : AV} {es : Nat} {A Bs : List (List AV)} {z : List AV} (hm : own[n]? = some (.sl v es (A ++ (Bs ++ [z]))))
    (h : ∀ S1 y, Cx B0 W S1 (own.set n (.sl v es (A ++ y :: Bs))) ro → wp M (k (I (Bs.length : Int))) S1 Q) :
    wp M (.op (.sslice es v (some (I ((A.length + 1 : Nat) : Int))) none none) fun a => .op (.sslice es v (some (I (A.length : Int))) none none) fun b => .op (.copy es a b) k) S Q := by
  have hw := H.oh _ (List.mem_of_getElem? hm)
  rcases hw with ⟨_, h0⟩ | ⟨id, off, c, h0, h1, h2, h3⟩
  · simp at h0
  have hlen : (A ++ (Bs ++ [z])).length = A.length + Bs.length + 1 := by simp; omega
  rw [hlen] at h0 h2
  obtain ⟨va, oa, ea, fa, ga⟩ := slForm_from (M := M) (S := S) (i := A.length + 1) h0 (by omega)
  obtain ⟨vb, ob, eb, fb, gb⟩ := slForm_from (M := M) (S := S) (i := A.length) h0 (by omega)
  have gb := gb (by omega)
  subst gb
  have n1 : A.length + Bs.length + 1 - (A.length + 1) = Bs.length := by omega
  have n2 : A.length + Bs.length + 1 - A.length = Bs.length + 1 := by omega
  rw [n1] at fa
  rw [n2] at fb
  have hB : ∀ x ∈ Bs ++ [z], x.length = es := fun x hx => h3 x (by simp only [List.mem_append] at hx ⊢; exact .inr hx)
  have hfb : (c.drop (off + A.length * es)).take ((Bs.length + 1) * es) = (Bs ++ [z]).flatten := by
    have e : (A ++ (Bs ++ [z])).flatten.drop (A.length * es) = (Bs ++ [z]).flatten := by
      rw [dr_flat h3, List.drop_left]
    rw [← e, ← h2, List.drop_take, List.drop_drop]
    congr 1
    rw [← Nat.sub_mul]; congr 1; omega
  have hel : elems S es vb = some ((Bs ++ [z]).length, (Bs ++ [z]).flatten) := slOk_elems (.inr ⟨id, _, c, by rw [List.length_append]; exact fb, row_cells h1, by rw [List.length_append]; exact hfb, hB⟩)
  have hys : (Bs ++ [z]).flatten.take (Bs.length * es) = Bs.flatten := by rw [tk_flat hB, List.take_left]
  refine wp_op ea (wp_op eb (wp_op (e_copyO fa h1 hel (by simp) hys) ?_))
  obtain ⟨y, R, hy⟩ : ∃ y R, Bs ++ [z] = y :: R := by cases Bs <;> exact ⟨_, _, rfl⟩
  have hBl : Bs.flatten.length = Bs.length * es := flatten_length fun x hx => hB x (by simp [hx])
  have hyl : y.length = es := hB y (by rw [hy]; simp)
  have hroom : off + (A.length + Bs.length + 1) * es ≤ c.length := by
    rcases h0 with ⟨cap, q1, q2, _⟩ | ⟨cap, q1, q2, _⟩
    · have := Nat.mul_le_mul_right es q1; omega
    · have := Nat.mul_le_mul_right es q1; omega
  have hall : ∀ x ∈ A ++ y :: Bs, x.length = es := by
    intro x hx
    simp only [List.mem_append, List.mem_cons] at hx
    rcases hx with hx | rfl | hx
    · exact h3 x (by simp [hx])
    · exact hyl
    · exact hB x (by simp [hx])
  have lB : (A ++ y :: Bs).length = A.length + Bs.length + 1 := by simp; omega
  have hA1 : (c.drop off).take ((A.length + 1) * es) = A.flatten ++ y := by
    have hle : (A.length + 1) * es ≤ (A.length + Bs.length + 1) * es := Nat.mul_le_mul_right es (by omega)
    have : (c.drop off).take ((A.length + 1) * es) = ((c.drop off).take ((A.length + Bs.length + 1) * es)).take ((A.length + 1) * es) := by rw [List.take_take, Nat.min_eq_left hle]
    rw [this, h2, tk_flat h3, hy, List.take_length_add_append]
    simp
  have hnew : ((setRange c oa Bs.flatten).drop off).take ((A.length + Bs.length + 1) * es) = (A ++ y :: Bs).flatten ∧ (setRange c oa Bs.flatten).length = c.length := by
    cases hBs : Bs with
    | nil =>
      have e : setRange c oa ([] : List (List AV)).flatten = c := by rw [setRange_eq]; simp
      subst hBs
      rw [e]
      refine ⟨?_, rfl⟩
      have : A.length + ([] : List (List AV)).length + 1 = A.length + 1 := by simp
      rw [this, hA1]; simp
    | cons b R2 =>
      rw [← hBs]
      have hpos : 0 < Bs.length := by rw [hBs]; simp
      have goa : oa = off + (A.length + 1) * es := ga (by omega)
      have hmul : (A.length + Bs.length + 1) * es = (A.length + 1) * es + Bs.length * es := by rw [← Nat.add_mul]; congr 1; omega
      subst goa
      refine ⟨?_, setRange_length (by rw [hBl]; omega)⟩
      rw [take_setRange (a := (A.length + 1) * es) (by rw [hBl]; omega) (by rw [hBl]; exact hmul), hA1]
      simp
  have hmem := List.mem_of_getElem? hm
  have hS1 : (S.set id (.row (setRange c oa Bs.flatten))).next = S.next := rfl
  refine h _ y (H.step hm (Nat.le_refl _) ?_ ?_ ?_)
  · intro j hj hne
    rw [AH.get_set, if_neg (by simpa [Own.ids, h0.ids] using hne)]
  · refine .inr ⟨id, off, setRange c oa Bs.flatten, ?_, by rw [AH.get_set, if_pos rfl], by rw [lB]; exact hnew.1, hall⟩
    rw [lB]
    rcases h0 with ⟨cap, q1, q2, rfl⟩ | ⟨cap, q1, q2, rfl⟩
    · exact .inl ⟨cap, q1, by rw [hnew.2]; exact q2, rfl⟩
    · exact .inr ⟨cap, q1, by rw [hnew.2]; exact q2, rfl⟩
  · intro j hj
    exact ⟨(H.oi _ hmem j hj).1, .inl hj⟩
theorem wp_min2 {a b : Int} (h : wp M (k (I (min a b))) S Q) : wp M (.op (.minmax false [I a, I b]) k) S Q := wp_op (v := I (min a b)) (by
  show pur (minmax1 false (I a) (I b) >>= fun x => some x) S = _
  have e : minmax1 false (I a) (I b) = some (I (min a b)) := by
    show some (AV.sc (.int .i64 (if ltF b a then b else a))) = _
    rw [ltF_eq]
    by_cases h : b < a
    · rw [decide_eq_true h, Int.min_eq_right (by omega)]; rfl
    · rw [decide_eq_false h, Int.min_eq_left (by omega)]; rfl
  rw [e]; rfl) h
theorem wp_bslice0 (H : Cx B0 W S own ro) {es : Nat} {z : List AV} (hz : z.length = es) (h : ∀ v S1, Cx B0 W S1 (.sl v es [] :: own) ro → wp M (k v) S1 Q) : wp M (.op (.bslice es 0 z []) k) S Q := by
  refine wp_op (v := .sl S.next 0 0 0) (S1 := S.new (.row [])) ?_ (h _ _ (H.addOwn (Grows.new S _) (x := .sl (.sl S.next 0 0 0) es []) ?_ ?_))
  · show nBslice es 0 z [] S = _
    unfold nBslice
    have e : (Nat.beq (lenL ([] : List AV)) (Nat.mul 0 es) && Nat.beq (lenL z) es) = true := by
      rw [lenL_eq, lenL_eq, hz, Nat.beq_refl, show Nat.mul 0 es = 0 from Nat.zero_mul es]; rfl
    show (match Nat.beq (lenL ([] : List AV)) (Nat.mul 0 es) && Nat.beq (lenL z) es with | true => lay S (.row []) fun id => .sl id 0 0 0 | false => none) = _
    rw [e]; rfl
  · exact .inr ⟨S.next, 0, [], .inl ⟨0, by simp, by simp, rfl⟩, get_new_same _ _, by simp, by simp⟩
  · intro id hid
    simp only [Own.ids, vids, List.mem_singleton] at hid
    subst hid
    exact ⟨Nat.le_refl _, by simp [AH.new]⟩
theorem Cx.addNilS (H : Cx B0 W S own ro) (es : Nat) : Cx B0 W S (.sl Ns es [] :: own) ro := H.addOwn (Grows.refl S) (.inl ⟨rfl, rfl⟩) (fun id hid => by simp [Own.ids, vids] at hid)
theorem Cx.addC {S1 : AH} {x : Own} (H : Cx B0 W S own ro) (K : Cx S [] S1 [x] []) : Cx B0 W S1 (x :: own) ro := H.addOwn K.grows (K.oh _ (List.Mem.head _)) fun id hid => by
  have h := K.oi _ (List.Mem.head _) id hid
  refine ⟨?_, h.1⟩
  have h2 := h.2
  by_cases hlt : id < S.next
  · have := h2 hlt; simp at this
  · omega
end
/-! ### which should be run: what the program says -/
section
variable {B0 S : AH} {W : List Nat} {own : List Own} {ro : List Fct} {Q : Post} {k : AV → AC} {v : AV} {L : List Lv}
def many (cores : Int) (n : Nat) : Nat := min cores.toNat n
end
end Go.Abs
namespace Go.Abs
open Go.Proofs
set_option maxRecDepth 100000
set_option linter.unusedVariables false
/-! ### which should be run: the document's answer -/
section
variable {B0 S : AH} {W : List Nat} {own : List Own} {ro : List Fct} {Q : Post} {k : AV → AC} {v : AV} {L : List Lv}
theorem aheadL_ok {S : AH} {a b : Lv} : wpC EM (.fn (.func 82) [] []) [.agg a.cs, .agg b.cs] S fun r S' => r = B (decide (a.lt b)) ∧ Grows S S' := by
  refine wpC_fn (b := Tryz.a82) rfl rfl ?_
  have H : Cx S [] S [] [] := Cx.enter (by simp)
  unfold Tryz.a82 Tryz.a82x2 Tryz.a82x1 Tryz.a82x0
  refine wp_box H rfl fun p S1 H => ?_
  refine wp_box H rfl fun q S2 H => ?_
  try(refine zz ?_;(repeat constructor);intro _)
  refine wp_load1 (id := p) (j := 3) H (cs := a.cs) (by repeat (first | exact List.Mem.head _ | apply List.Mem.tail)) rfl ?_
  try(refine zz ?_;(repeat constructor);intro _)
  refine wp_load1 (id := q) (j := 3) H (cs := b.cs) (by repeat (first | exact List.Mem.head _ | apply List.Mem.tail)) rfl ?_
  refine wp_lss (fun h => ?_) (fun h => ?_)
  · try(refine zz ?_;(repeat constructor);intro _)
    refine wp_ret ⟨rfl, ?_, H.grows⟩
    rw [decide_eq_true (show a.lt b from .inl h)]; rfl
  · try(refine zz ?_;(repeat constructor);intro _)
    refine wp_load1 (id := p) (j := 3) H (cs := a.cs) (by repeat (first | exact List.Mem.head _ | apply List.Mem.tail)) rfl ?_
    try(refine zz ?_;(repeat constructor);intro _)
    refine wp_load1 (id := q) (j := 3) H (cs := b.cs) (by repeat (first | exact List.Mem.head _ | apply List.Mem.tail)) rfl ?_
    refine wp_gop_t ?_
    refine wp_eql (fun h2 => ?_) (fun h2 => ?_)
    · try(refine zz ?_;(repeat constructor);intro _)
      refine wp_load1 (id := p) (j := 0) H (cs := a.cs) (by repeat (first | exact List.Mem.head _ | apply List.Mem.tail)) rfl ?_
      try(refine zz ?_;(repeat constructor);intro _)
      refine wp_load1 (id := q) (j := 0) H (cs := b.cs) (by repeat (first | exact List.Mem.head _ | apply List.Mem.tail)) rfl ?_
      refine wp_gop_t ?_
      refine wp_lss (fun h3 => ?_) (fun h3 => ?_)
      · try(refine zz ?_;(repeat constructor);intro _)
        refine wp_ret ⟨rfl, ?_, H.grows⟩
        rw [decide_eq_true (show a.lt b from .inr ⟨h2, h3⟩)]; rfl
      · try(refine zz ?_;(repeat constructor);intro _)
        refine wp_ret ⟨rfl, ?_, H.grows⟩
        rw [decide_eq_false (show ¬ a.lt b from by unfold Lv.lt; omega)]; rfl
    · try(refine zz ?_;(repeat constructor);intro _)
      refine wp_ret ⟨rfl, ?_, H.grows⟩
      rw [decide_eq_false (show ¬ a.lt b from by unfold Lv.lt; omega)]; rfl
theorem lvs_getro {l : List Lv} {i : Nat} (h : i < l.length) : (lvs l)[i]? = some (l[i].cs) := by simp [lvs, h]
theorem rorder_ok {v : AV} {X : List Lv} (hv : RoSl S v 4 (lvs X)) (hl : X.length < 100000) : wpC EM (.fn (.func 65) [] []) [v] S fun r S' => ∃ m, StS X m ∧ m.length = X.length ∧ Cx S [] S' [.sl r 4 (lvs m)] [] := by
  refine wpC_fn (b := Tryz.a65) rfl rfl ?_
  have H : Cx S [] S [] [.sl v 4 (lvs X)] := Cx.ro1 hv
  unfold Tryz.a65 Tryz.a65x7 Tryz.a65x6 Tryz.a65x5 Tryz.a65x4 Tryz.a65x3 Tryz.a65x2 Tryz.a65x1 Tryz.a65x0
  refine wp_bind (wp_loop (wpL_inv (fun n vs S1 => ∃ (i : Nat) (out w : AV) (m : List Lv), vs = [I (i : Int), out, w] ∧ i ≤ X.length ∧ n = X.length - i ∧ StS (X.take i) m ∧ m.length = i ∧ Cx S [] S1 [.sl out 4 (lvs m)] [.sl v 4 (lvs X)]) ?_ X.length ⟨0, _, _, [], rfl, by omega, by omega, StS.self List.Pairwise.nil, rfl, H.addNilS 4⟩))
  clear H
  rintro n vs S1 ⟨i, out, w, m, rfl, hi, rfl, hm, hml, H⟩
  refine wp_len H (by repeat (first | exact List.Mem.head _ | apply List.Mem.tail)) ?_
  rw [lvs_len]
  refine wp_lss (fun hlt => ?_) (fun hge => ?_)
  · have hlt : i < X.length := by omega
    try(refine zz ?_;(repeat constructor);intro _)
    refine wp_bind ?_
    refine wp_leno H 0 rfl ?_
    rw [lvs_len]
    refine wp_bind (wp_loop (wpL_inv (fun n vs S2 => ∃ (a b : List Lv), vs = [I (a.length : Int)] ∧ n = a.length ∧ a ++ b = m ∧ (∀ y ∈ b, X[i].lt y) ∧ Cx S [] S2 [.sl out 4 (lvs m)] [.sl v 4 (lvs X)]) ?_ m.length ⟨m, [], rfl, rfl, by simp, by simp, H⟩))
    clear H
    rintro n vs S2 ⟨a, b, rfl, rfl, hab, hb, H⟩
    have hal : a.length + b.length = i := by rw [← hml, ← hab, List.length_append]
    have fin : ∀ S2, Cx S [] S2 [.sl out 4 (lvs m)] [.sl v 4 (lvs X)] → (∀ y ∈ a, ¬ X[i].lt y) → wp EM (.op (.build [(I 0), (I 0), (I 0), (U 0)] []) fun v6 => .op (.bslice 4 1 [(I 0), (I 0), (I 0), (U 0)] [(0, 4, v6)]) fun v7 => (Tryz.a65x4 [v] [I (i : Int), out, w] [I (a.length : Int)] v7)) S2 fun t vs1 S3 => t = .normal ∧ ∃ out', vs1 = [out', I (a.length : Int)] ∧ Cx S [] S3 [.sl out' 4 (lvs (a ++ X[i] :: b))] [.sl v 4 (lvs X)] := by
      intro S2 H ha
      unfold Tryz.a65x4 Tryz.a65x3
      refine wp_op (v := .agg [I 0, I 0, I 0, U 0]) rfl ?_
      refine wp_push (x := .agg [I 0, I 0, I 0, U 0]) H 0 rfl rfl rfl rfl (by rw [lvs_len]; unfold maxBytes; omega) (by rw [lvs_len]; unfold maxLenN; omega) fun out' S3 H => ?_
      refine wp_add64 (by omega) (by omega) ?_
      have hmm : lvs m ++ [(AV.agg [I 0, I 0, I 0, U 0]).cells] = lvs a ++ (lvs b ++ [[I 0, I 0, I 0, U 0]]) := by rw [← hab, lvs_app, List.append_assoc]; rfl
      have H : Cx S [] S3 [.sl out' 4 (lvs m ++ [(AV.agg [I 0, I 0, I 0, U 0]).cells])] [.sl v 4 (lvs X)] := H
      rw [hmm] at H
      have la : (lvs a).length = a.length := lvs_len a
      have e1 : (a.length : Int) + 1 = (((lvs a).length + 1 : Nat) : Int) := by rw [la]; rfl
      rw [e1, ← la]
      refine wp_shift (A := lvs a) (Bs := lvs b) (z := [I 0, I 0, I 0, U 0]) H 0 rfl fun S4 y H => ?_
      refine wp_saddr (i := i) H (by repeat (first | exact List.Mem.head _ | apply List.Mem.tail)) (lvs_getro hlt) fun p off H => ?_
      refine wp_loada H (by repeat (first | exact List.Mem.head _ | apply List.Mem.tail)) (by show 4 ≤ 4; omega) ?_
      have H : Cx S [] S4 [.sl out' 4 (lvs a ++ y :: lvs b)] (.pt p off X[i].cs :: [.sl v 4 (lvs X)]) := H
      refine wp_storeE (i := (lvs a).length) (y := .agg X[i].cs) H 0 rfl (by simp) rfl rfl fun S5 H => ?_
      have H : Cx S [] S5 [.sl out' 4 ((lvs a ++ y :: lvs b).set (lvs a).length X[i].cs)] (.pt p off X[i].cs :: [.sl v 4 (lvs X)]) := H
      have es : (lvs a ++ y :: lvs b).set (lvs a).length X[i].cs = lvs (a ++ X[i] :: b) := by rw [set_mid, lvs_app]; rfl
      rw [es] at H
      exact wp_ret ⟨rfl, out', rfl, H.tl⟩
    have go2 : ∀ S2, Cx S [] S2 [.sl out 4 (lvs m)] [.sl v 4 (lvs X)] → (∀ y ∈ a, ¬ X[i].lt y) → StS (X.take (i + 1)) (a ++ X[i] :: b) ∧ (a ++ X[i] :: b).length = i + 1 := by
      intro S2 H ha
      refine ⟨?_, by simp only [List.length_append, List.length_cons]; rw [← hml, ← hab, List.length_append]; omega⟩
      rw [List.take_succ_eq_append_getElem hlt]
      exact StS.insert (by rw [hab]; exact hm) ha hb
    refine wp_gtr (fun hgt => ?_) (fun hle => ?_)
    · have ha0 : a ≠ [] := by intro h; rw [h] at hgt; simp at hgt
      obtain ⟨a', y, rfl⟩ : ∃ a' y, a = a' ++ [y] := ⟨a.dropLast, a.getLast ha0, (List.dropLast_concat_getLast ha0).symm⟩
      have lay : (a' ++ [y]).length = a'.length + 1 := by simp
      try(refine zz ?_;(repeat constructor);intro _)
      refine wp_saddr (i := i) H (by repeat (first | exact List.Mem.head _ | apply List.Mem.tail)) (lvs_getro hlt) fun p off H => ?_
      try(refine zz ?_;(repeat constructor);intro _)
      refine wp_loada H (by repeat (first | exact List.Mem.head _ | apply List.Mem.tail)) (by show 4 ≤ 4; omega) ?_
      have H := H.tl
      try(refine zz ?_;(repeat constructor);intro _)
      refine wp_sub64 (by omega) (by omega) ?_
      try(refine zz ?_;(repeat constructor);intro _)
      refine wp_ownG (i := a'.length) (x := y) H (by rw [lay]; omega) (by rw [← hab, List.append_assoc]; exact get_mid _ _ _) ?_
      try(refine zz ?_;(repeat constructor);intro _)
      refine wp_callV H (aheadL_ok (a := X[i]) (b := y)) fun S3 H => ?_
      by_cases hy : X[i].lt y
      · rw [decide_eq_true hy]
        try(refine zz ?_;(repeat constructor);intro _)
        refine wp_bind ?_
        refine wp_sub64 (by omega) (by omega) (wp_ret ?_)
        show wp EM _ _ _
        refine wp_ret (.inl ⟨rfl, a'.length, by rw [lay]; omega, a', y :: b, ?_, rfl, by rw [← hab]; simp, ?_, H⟩)
        · have q : (((a' ++ [y]).length : Nat) : Int) - 1 = (a'.length : Int) := by rw [lay]; omega
          show [I _] = [I _]
          rw [q]
        · intro z hz
          rcases List.mem_cons.1 hz with rfl | hz
          · exact hy
          · exact hb z hz
      · rw [decide_eq_false hy]
        try(refine zz ?_;(repeat constructor);intro _)
        have hsrt : Srt (a' ++ [y]) := by
          have := hm.1
          rw [← hab] at this
          exact (List.pairwise_append.1 this).1
        have ha : ∀ z ∈ a' ++ [y], ¬ X[i].lt z := fun z hz => by
          rcases List.mem_append.1 hz with hz | hz
          · exact fun h => (List.pairwise_append.1 hsrt).2.2 z hz y (by simp) |> fun hyz => hy (Lv.lt_le h hyz)
          · rw [List.mem_singleton.1 hz]; exact hy
        obtain ⟨f1, f2⟩ := go2 S3 H ha
        refine wp_ret (.inr ⟨by simp, ?_⟩)
        show wp EM _ _ _
        refine wp_mono (fin S3 H ha) fun t vs1 S4 q => ?_
        obtain ⟨rfl, out', rfl, H⟩ := q
        show wp EM _ _ _
        refine wp_add64 (by omega) (by omega) (wp_ret (.inl ⟨rfl, X.length - (i + 1), by omega, i + 1, out', _, _, rfl, by omega, rfl, f1, f2, H⟩))
    · have ha0 : a = [] := by cases a with
        | nil => rfl
        | cons z r => simp at hle; omega
      subst ha0
      try(refine zz ?_;(repeat constructor);intro _)
      obtain ⟨f1, f2⟩ := go2 S2 H (by simp)
      refine wp_ret (.inr ⟨by simp, ?_⟩)
      show wp EM _ _ _
      refine wp_mono (fin S2 H (by simp)) fun t vs1 S4 q => ?_
      obtain ⟨rfl, out', rfl, H⟩ := q
      show wp EM _ _ _
      refine wp_add64 (by omega) (by omega) (wp_ret (.inl ⟨rfl, X.length - (i + 1), by omega, i + 1, out', _, _, rfl, by omega, rfl, f1, f2, H⟩))
  · try(refine zz ?_;(repeat constructor);intro _)
    refine wp_ret (.inr ⟨by simp, ?_⟩)
    show wp EM _ _ _
    rw [List.take_of_length_le (by omega)] at hm
    exact wp_ret ⟨rfl, m, hm, by omega, H.dropRo (by simp)⟩
end
end Go.Abs
namespace Go.Abs.Tsk
open Go.Proofs
set_option maxRecDepth 100000

structure Tk where
  kind : Int
  prio : Int
  every : Int
  first : Int
def Tk.cs (x : Tk) : List AV := [I x.kind, I x.prio, I x.every, I x.first]
def tks (l : List Tk) : List (List AV) := l.map Tk.cs
theorem tks_len (l : List Tk) : (tks l).length = l.length := List.length_map ..
theorem tks_get {l : List Tk} {i : Nat} (hi : i < l.length) : (tks l)[i]? = some (l[i].cs) := by simp [tks, hi]

def tone (x : Tk) : Int := if x.kind ≠ 1 ∧ x.kind ≠ 2 then 5 else
  if x.prio < 0 ∨ 254 < x.prio ∨ x.every < 0 ∨ (x.kind = 1 ∧ x.every < 1) ∨ 1099511627776 < x.every ∨ x.first < 0 ∨ 1099511627776 < x.first ∨ (x.kind = 2 ∧ x.first ≠ 0) then 3 else 0

set_option maxHeartbeats 4000000 in
theorem one_ok {S : AH} {x : Tk} : wpC EM (.fn (.func 71) [] []) [.agg x.cs] S fun r S' => r = I (tone x) ∧ Grows S S' := by
  refine wpC_fn (b := Tryz.a71) rfl rfl ?_
  have H : Cx S [] S [] [] := Cx.enter (by simp)
  unfold Tryz.a71
  refine wp_box H rfl fun b S1 H => ?_
  repeat' (first | (first|refine zA ?_|refine zB rfl ?_|refine zC ?_|refine zD ?_|refine zE rfl ?_|refine zF ?_|refine zG ?_|refine zH ?_|refine zI ?_|refine zJ ?_|refine zK ?_|refine zL rfl ?_|refine zN rfl ?_) | refine wp_bind ?_ | refine wp_load1 H (by repeat (first | exact List.Mem.head _ | apply List.Mem.tail)) rfl ?_ | (refine wp_ret ?_; show wp EM _ _ _) | refine wp_lss (fun _ => ?_) (fun _ => ?_) | refine wp_gtr (fun _ => ?_) (fun _ => ?_) | refine wp_leq (fun _ => ?_) (fun _ => ?_) | refine wp_geq (fun _ => ?_) (fun _ => ?_) | refine wp_eql (fun _ => ?_) (fun _ => ?_) | refine wp_neq (fun _ => ?_) (fun _ => ?_))
  all_goals first
    | exact wp_ret ⟨rfl, congrArg I (by unfold tone; split <;> (try split) <;> omega), H.grows⟩
set_option maxHeartbeats 4000000 in
theorem refOne_ok {S : AH} {x : Tk} : wpC EM (.fn (.func 72) [] []) [.agg x.cs] S fun r S' => r = I (tone x) ∧ Grows S S' := by
  refine wpC_fn (b := Tryz.a72) rfl rfl ?_
  have H : Cx S [] S [] [] := Cx.enter (by simp)
  unfold Tryz.a72
  refine wp_box H rfl fun b S1 H => ?_
  repeat' (first | (first|refine zA ?_|refine zB rfl ?_|refine zC ?_|refine zD ?_|refine zE rfl ?_|refine zF ?_|refine zG ?_|refine zH ?_|refine zI ?_|refine zJ ?_|refine zK ?_|refine zL rfl ?_|refine zN rfl ?_) | refine wp_bind ?_ | refine wp_load1 H (by repeat (first | exact List.Mem.head _ | apply List.Mem.tail)) rfl ?_ | (refine wp_ret ?_; show wp EM _ _ _) | refine wp_lss (fun _ => ?_) (fun _ => ?_) | refine wp_gtr (fun _ => ?_) (fun _ => ?_) | refine wp_leq (fun _ => ?_) (fun _ => ?_) | refine wp_geq (fun _ => ?_) (fun _ => ?_) | refine wp_eql (fun _ => ?_) (fun _ => ?_) | refine wp_neq (fun _ => ?_) (fun _ => ?_))
  all_goals first
    | exact wp_ret ⟨rfl, congrArg I (by unfold tone; split <;> (try split) <;> omega), H.grows⟩
end Go.Abs.Tsk
namespace Go.Abs.Tsk
open Go.Proofs
set_option maxRecDepth 100000
def tfirst : List Tk → Int
  | [] => 0
  | x :: l => if tone x = 0 then tfirst l else tone x
def tchk (l : List Tk) : Int := if 32 < l.length then 4 else tfirst l
theorem tfirst_drop {l : List Tk} {i : Nat} (hi : i < l.length) : tfirst (l.drop i) = if tone l[i] = 0 then tfirst (l.drop (i + 1)) else tone l[i] := by
  rw [List.drop_eq_getElem_cons hi]; rfl

theorem check_ok {S : AH} {v : AV} {l : List Tk} (hv : RoSl S v 4 (tks l)) : wpC EM (.fn (.func 52) [] []) [v] S fun r S' => r = I (tchk l) ∧ Grows S S' := by
  refine wpC_fn (b := Tryz.a52) rfl rfl ?_
  have H := Cx.ro1 hv
  unfold Tryz.a52
  refine wp_len H (by repeat (first | exact List.Mem.head _ | apply List.Mem.tail)) ?_
  rw [tks_len]
  unfold tchk
  refine wp_gtr (fun hlt => ?_) (fun hge => ?_)
  · try(refine zz ?_;(repeat constructor);intro _)
    refine wp_ret ⟨rfl, ?_, H.grows⟩
    rw [if_pos (by omega)]; rfl
  · rw [if_neg (by omega)]
    try(refine zz ?_;(repeat constructor);intro _)
    refine wp_len H (by repeat (first | exact List.Mem.head _ | apply List.Mem.tail)) ?_
    rw [tks_len]
    refine wp_bind (wp_loop (wpL_for l.length (fun i vs S1 => ∃ u : AV, vs = [I (i : Int), u] ∧ tfirst (l.drop i) = tfirst l ∧ Cx S [] S1 [] [.sl v 4 (tks l)]) ?_ ?_ ⟨_, rfl, rfl, H⟩))
    · rintro i vs S1 hlt ⟨u, rfl, hc, H⟩
      rw [tfirst_drop hlt] at hc
      refine wp_lss_t (by omega) ?_
      try(refine zz ?_;(repeat constructor);intro _)
      refine wp_bind ?_
      refine wp_saddr (i := i) H (by repeat (first | exact List.Mem.head _ | apply List.Mem.tail)) (tks_get hlt) fun p off H => ?_
      refine wp_loada H (cs := l[i].cs) (by repeat (first | exact List.Mem.head _ | apply List.Mem.tail)) (Nat.le_of_ble_eq_true rfl) ?_
      refine wp_alloc H fun b S3 H => ?_
      refine wp_store H 0 rfl rfl rfl (Nat.le_of_ble_eq_true rfl) fun S4 H => ?_
      replace H : Cx S [] S4 [] [.pt b 0 l[i].cs, .pt p off l[i].cs, .sl v 4 (tks l)] := H.freeze (i := 0) (c := l[i].cs) rfl
      refine wp_loada H (cs := l[i].cs) (by repeat (first | exact List.Mem.head _ | apply List.Mem.tail)) (Nat.le_of_ble_eq_true rfl) ?_
      refine wp_callV H one_ok fun S5 H => ?_
      refine wp_neq (fun hne => ?_) (fun he => ?_)
      · rw [if_neg hne] at hc
        try(refine zz ?_;(repeat constructor);intro _)
        exact wp_ret (.inr ⟨by simp, rfl, by rw [← hc]; rfl, H.grows⟩)
      · rw [if_pos he] at hc
        try(refine zz ?_;(repeat constructor);intro _)
        refine wp_ret ?_
        show wp EM _ _ _
        exact wp_add64 (by omega) (by omega) (wp_ret (.inl ⟨rfl, _, rfl, hc, H.tl.tl⟩))
    · rintro vs S1 ⟨u, rfl, hc, H⟩
      refine wp_lss_f (by omega) ?_
      try(refine zz ?_;(repeat constructor);intro _)
      refine wp_ret ⟨by simp, wp_ret ⟨rfl, ?_, H.grows⟩⟩
      rw [List.drop_length] at hc
      rw [← hc]; rfl
theorem refCheck_ok {S : AH} {v : AV} {l : List Tk} (hv : RoSl S v 4 (tks l)) : wpC EM (.fn (.func 53) [] []) [v] S fun r S' => r = I (tchk l) ∧ Grows S S' := by
  refine wpC_fn (b := Tryz.a53) rfl rfl ?_
  have H := Cx.ro1 hv
  unfold Tryz.a53
  refine wp_len H (by repeat (first | exact List.Mem.head _ | apply List.Mem.tail)) ?_
  rw [tks_len]
  unfold tchk
  refine wp_gtr (fun hlt => ?_) (fun hge => ?_)
  · try(refine zz ?_;(repeat constructor);intro _)
    refine wp_ret ⟨rfl, ?_, H.grows⟩
    rw [if_pos (by omega)]; rfl
  · rw [if_neg (by omega)]
    try(refine zz ?_;(repeat constructor);intro _)
    refine wp_bind (wp_loop (wpL_for l.length (fun i vs S1 => ∃ u : AV, vs = [I (i : Int), u] ∧ tfirst (l.drop i) = tfirst l ∧ Cx S [] S1 [] [.sl v 4 (tks l)]) ?_ ?_ ⟨_, rfl, rfl, H⟩))
    · rintro i vs S1 hlt ⟨u, rfl, hc, H⟩
      rw [tfirst_drop hlt] at hc
      refine wp_len H (by repeat (first | exact List.Mem.head _ | apply List.Mem.tail)) ?_
      rw [tks_len]
      refine wp_lss_t (by omega) ?_
      try(refine zz ?_;(repeat constructor);intro _)
      refine wp_bind ?_
      refine wp_saddr (i := i) H (by repeat (first | exact List.Mem.head _ | apply List.Mem.tail)) (tks_get hlt) fun p off H => ?_
      refine wp_loada H (cs := l[i].cs) (by repeat (first | exact List.Mem.head _ | apply List.Mem.tail)) (Nat.le_of_ble_eq_true rfl) ?_
      refine wp_callV H refOne_ok fun S5 H => ?_
      refine wp_neq (fun hne => ?_) (fun he => ?_)
      · rw [if_neg hne] at hc
        try(refine zz ?_;(repeat constructor);intro _)
        exact wp_ret (.inr ⟨by simp, rfl, by rw [← hc]; rfl, H.grows⟩)
      · rw [if_pos he] at hc
        try(refine zz ?_;(repeat constructor);intro _)
        refine wp_ret ?_
        show wp EM _ _ _
        exact wp_add64 (by omega) (by omega) (wp_ret (.inl ⟨rfl, _, rfl, hc, H.tl⟩))
    · rintro vs S1 ⟨u, rfl, hc, H⟩
      refine wp_len H (by repeat (first | exact List.Mem.head _ | apply List.Mem.tail)) ?_
      rw [tks_len]
      refine wp_lss_f (by omega) ?_
      try(refine zz ?_;(repeat constructor);intro _)
      refine wp_ret ⟨by simp, wp_ret ⟨rfl, ?_, H.grows⟩⟩
      rw [List.drop_length] at hc
      rw [← hc]; rfl

/-! times -/
def many (f e : Int) : Int := (1099511627776 - f) / e + 1
end Go.Abs.Tsk
namespace Go.Abs
open Go.Proofs
set_option maxRecDepth 100000
set_option linter.unusedVariables false
section
variable {M : Mach} {B0 S : AH} {W : List Nat} {own : List Own} {ro : List Fct} {Q : Post} {k : AV → AC} {kc : AC}
/-! ### loads of what is known, by a whole offset -/
theorem wp_ld (H : Cx B0 W S own ro) {id o : Nat} {cs : List AV} {v : AV} (hm : Fct.pt id 0 cs ∈ ro) (hj : cs[o]? = some v) (h : wp M (k v) S Q) : wp M (.op (.load 1 false (.ptr id o)) k) S Q := by
  have := wp_load1 (M := M) (k := k) (off := 0) (j := o) H hm hj h
  rwa [show Nat.add 0 o = o from Nat.zero_add o] at this
theorem wp_ldn (H : Cx B0 W S own ro) {id o n : Nat} {cs : List AV} (hm : Fct.pt id 0 cs ∈ ro) (hj : Nat.ble (o + n) cs.length = true) (h : wp M (k (.agg ((cs.drop o).take n))) S Q) : wp M (.op (.load n true (.ptr id o)) k) S Q := by
  have := wp_loadn (M := M) (k := k) (off := 0) (j := o) H hm (Nat.le_of_ble_eq_true hj) h
  rwa [show Nat.add 0 o = o from Nat.zero_add o] at this
theorem wp_tmpN (H : Cx B0 W S own ro) {z : List AV} {n : Nat} {v : AV} (ho : odd v = false) (hz : z.length = n) (hn : v.cells.length = n) (h : ∀ id S1, Cx B0 W S1 own (.pt id 0 v.cells :: ro) → wp M (k (.ptr id 0)) S1 Q) :
    wp M (.op (.alloc z) fun p => .op (.store n p v) fun _ => k p) S Q := by
  refine wp_alloc H fun id S1 H1 => ?_
  refine wp_store H1 0 (c := z) rfl ho hn (by omega) fun S2 H2 => ?_
  have e : setRange z 0 v.cells = v.cells := by
    rw [setRange_eq, List.take_zero, List.nil_append, Nat.zero_add, List.drop_eq_nil_of_le (by omega), List.append_nil]
  have H2 : Cx B0 W S2 (.obj id (.row (setRange z 0 v.cells)) :: own) ro := H2
  rw [e] at H2
  exact h id S2 (H2.freeze (i := 0) rfl)
theorem wp_notT (h : wp M (k (B false)) S Q) : wp M (.op (.un .not (B true)) k) S Q := wp_op (v := B false) rfl h
theorem wp_notF (h : wp M (k (B true)) S Q) : wp M (.op (.un .not (B false)) k) S Q := wp_op (v := B true) rfl h
theorem wp_not {b : Bool} (h : wp M (k (B (!b))) S Q) : wp M (.op (.un .not (B b)) k) S Q := wp_op (v := B (!b)) rfl h
end
open Tsk (Tk tks tchk)
/-! ### setups -/
structure Su where
  cores : Int
  jobs : Int
  nodes : Int
  height : Int
  room : Int
  limit : Int
def Su.cs (s : Su) (v : AV) : List AV := [I s.cores, I s.jobs, I s.nodes, I s.height, I s.room, I s.limit, v]
def Su.fine (s : Su) : Prop := 1 ≤ s.cores ∧ s.cores ≤ 64 ∧ 1 ≤ s.jobs ∧ s.jobs ≤ 64 ∧ s.jobs + 1 ≤ s.nodes ∧ s.nodes ≤ 128 ∧ 1 ≤ s.height ∧ s.height ≤ 4 ∧ 1 ≤ s.room ∧ s.room ≤ 16 ∧ 1 ≤ s.limit ∧ s.limit ≤ 4294967295
instance (s : Su) : Decidable s.fine := inferInstanceAs (Decidable (_ ∧ _))
def Su.chk (s : Su) (l : List Tk) : Int := if s.fine then (if tchk l ≠ 0 then tchk l else if l.length = 0 then 2 else 0) else 3
def Su.bd (s : Su) : List (Int × Int × Int) := [(s.cores, 1, 64), (s.jobs, 1, 64), (s.nodes, min s.jobs 64 + 1, 128), (s.height, 1, 4), (s.room, 1, 16), (s.limit, 1, 4294967295)]
theorem Su.bd_all (s : Su) : (∀ b ∈ s.bd, b.2.1 ≤ b.1 ∧ b.1 ≤ b.2.2) ↔ s.fine := by
  simp only [Su.bd, List.mem_cons, List.not_mem_nil, or_false, forall_eq_or_imp, forall_eq]
  unfold Su.fine
  omega
section
variable {M : Mach} {B0 S : AH} {W : List Nat} {own : List Own} {ro : List Fct} {Q : Post} {k : AV → AC} {kc : AC}
theorem wp_st (H : Cx B0 W S own ro) (i : Nat) {id off n : Nat} {c : List AV} {v : AV} (hi : own[i]? = some (.obj id (.row c))) (ho : odd v = false) (hn : v.cells.length = n) (hl : Nat.ble (off + n) c.length = true)
    (h : ∀ S1, Cx B0 W S1 (own.set i (.obj id (.row (setRange c off v.cells)))) ro → wp M (k uv) S1 Q) : wp M (.op (.store n (.ptr id off) v) k) S Q :=
  wp_store H i hi ho hn (Nat.le_of_ble_eq_true hl) h
theorem wp_cko (H : Cx B0 W S own ro) (i : Nat) {id o : Nat} {c : List AV} {v : AV} (hi : own[i]? = some (.obj id (.row c))) (hj : c[o]? = some v) (hb : AV.beq v v = true) (h : wp M kc S Q) : wp M (.chk (.load 1 false (.ptr id o)) v kc) S Q := by
  refine wp_chk (v' := v) ?_ hb h
  show (match S.cells? id with | some c => mkPart false c o 1 | none => none) = _
  rw [row_cells (H.oh _ (List.mem_of_getElem? hi))]
  exact mkPart_one hj
end
theorem bounds6_ok {S : AH} {s : Su} {v : AV} {l : List Tk} (hj : -9223372036854775808 ≤ s.jobs) (hv : RoSl S v 4 (tks l)) : wpC EM (.fn (.func 51) [] []) [.agg (s.cs v)] S fun r S' => (∃ cs : List AV, r = .agg cs ∧ ∀ i, i < 6 → ∃ x b, (cs.drop (i * 4)).take 4 = [x, I b.1, I b.2.1, I b.2.2] ∧ odd x = false ∧ x.cells = [x] ∧ s.bd[i]? = some b) ∧ Grows S S' := by
  refine wpC_fn (b := Tryz.a51) rfl rfl ?_
  have H := Cx.ro1 hv
  unfold Tryz.a51 Tryz.a51x3 Tryz.a51x2 Tryz.a51x1 Tryz.a51x0
  refine wp_fin ?_
  refine wp_box H rfl fun p S1 H => ?_
  refine wp_alloc H fun q S2 H => ?_
  repeat' (first | (first|refine zA ?_|refine zB rfl ?_|refine zC ?_|refine zD ?_|refine zE rfl ?_|refine zF ?_|refine zG ?_|refine zH ?_|refine zI ?_|refine zJ ?_|refine zK ?_|refine zL rfl ?_|refine zN rfl ?_) | refine wp_ld (by assumption) (by repeat (first | exact List.Mem.head _ | apply List.Mem.tail)) rfl ?_ | refine wp_op (o := .build _ _) rfl ?_ | refine wp_min2 ?_ | refine wp_add64 (by omega) (by omega) ?_)
  refine wp_st H 0 rfl rfl rfl rfl fun S3 H => ?_
  refine wp_ret ⟨.inr rfl, ?_⟩
  refine wp_loadoa (n := 24) H 0 rfl (Nat.le_of_ble_eq_true rfl) ?_
  refine wp_ret ⟨rfl, ⟨_, rfl, ?_⟩, H.grows⟩
  intro i hi
  match i, hi with
  | 0, _ => exact ⟨_, _, rfl, rfl, rfl, rfl⟩
  | 1, _ => exact ⟨_, _, rfl, rfl, rfl, rfl⟩
  | 2, _ => exact ⟨_, _, rfl, rfl, rfl, rfl⟩
  | 3, _ => exact ⟨_, _, rfl, rfl, rfl, rfl⟩
  | 4, _ => exact ⟨_, _, rfl, rfl, rfl, rfl⟩
  | 5, _ => exact ⟨_, _, rfl, rfl, rfl, rfl⟩
  | j + 6, h => exact absurd h (by omega)
section
variable {B0 S : AH} {W : List Nat} {own : List Own} {ro : List Fct} {Q : Post} {k : AV → AC}
theorem wp_aidxA {len es i : Nat} {cs l : List AV} (hi : i < len) (hl : i * es + es ≤ cs.length) (he : (cs.drop (i * es)).take es = l) (h : wp EM (k (.agg l)) S Q) : wp EM (.op (.aidx len es true (.agg cs) (I (i : Int))) k) S Q := by
  refine wp_op (v := .agg l) ?_ h
  have h3 : idx? (I (i : Int)) len = some i := by
    show below i len = some i
    unfold below; rw [ble_t (by omega)]
  show pur (pAidx len es true (.agg cs) (I (i : Int))) S = _
  have : pAidx len es true (.agg cs) (I (i : Int)) = some (.agg l) := by
    show (match idx? (I (i : Int)) len with | some i => mkPart true cs (Nat.mul i es) es | none => none) = _
    rw [h3]
    simp only
    rw [mkPart_agg (by show Nat.mul i es + es ≤ _; exact hl)]
    show some (AV.agg ((cs.drop (i * es)).take es)) = _
    rw [he]
  rw [this]; rfl
theorem checkE_ok {s : Su} {v : AV} {l : List Tk} (hj : -9223372036854775808 ≤ s.jobs) (hv : Fct.sl v 4 (tks l) ∈ ro) (H : Cx B0 W S own ro) : wpC EM (.fn (.func 21) [] []) [.agg (s.cs v)] S fun r S' => r = I (s.chk l) ∧ Grows S S' := by
  refine wpC_fn (b := Tryz.a21) rfl rfl ?_
  have hv0 : RoSl S v 4 (tks l) := H.roSl hv
  clear H
  have H := Cx.ro1 hv0
  unfold Tryz.a21 Tryz.a21x5 Tryz.a21x4 Tryz.a21x3 Tryz.a21x2 Tryz.a21x1 Tryz.a21x0
  refine wp_box H rfl fun p S1 H => ?_
  refine wp_ldn H (by repeat (first | exact List.Mem.head _ | apply List.Mem.tail)) rfl ?_
  refine wp_callG H (bounds6_ok (s := s) hj (H.roSl (show Fct.sl v 4 (tks l) ∈ _ by repeat (first | exact List.Mem.head _ | apply List.Mem.tail)))) fun r S2 ⟨cs, hr, hcs⟩ H => ?_
  subst hr
  refine wp_bind (wp_loop (wpL_inv (fun m vs S1 => ∃ (i : Nat), vs = [I (i : Int), I 0] ∧ i ≤ 6 ∧ m = 6 - i ∧ (∀ b ∈ s.bd.take i, b.2.1 ≤ b.1 ∧ b.1 ≤ b.2.2) ∧ Cx S [] S1 [] [.pt p 0 (s.cs v), .sl v 4 (tks l)]) ?_ 6 ⟨0, rfl, by omega, by omega, by simp, H⟩))
  clear H
  rintro m vs S5 ⟨i, rfl, hi, rfl, hall, H⟩
  refine wp_lss (fun hlt => ?_) (fun hge => ?_)
  · have hlt : i < 6 := by omega
    obtain ⟨x, b, h1, hx1, hx2, h2⟩ := hcs i hlt
    have hcl : i * 4 + 4 ≤ cs.length := by
      have := congrArg List.length h1
      rw [List.length_take, List.length_drop] at this
      simp at this; omega
    try(refine zz ?_;(repeat constructor);intro _)
    refine wp_bind ?_
    refine wp_aidxA hlt hcl h1 ?_
    refine wp_tmpN H rfl rfl rfl fun q S6 H => ?_
    have H : Cx S [] S6 [] [.pt q 0 [x, I b.1, I b.2.1, I b.2.2], .pt p 0 (s.cs v), .sl v 4 (tks l)] := H
    have hbl : s.bd.length = 6 := rfl
    have hb : s.bd[i]'(by rw [hbl]; exact hlt) = b := by
      have := (List.getElem?_eq_some_iff.1 h2).2; exact this
    have out : ¬ (b.2.1 ≤ b.1 ∧ b.1 ≤ b.2.2) → I 3 = I (s.chk l) := fun hn => by
      unfold Su.chk
      rw [if_neg fun hf => hn ((s.bd_all).2 hf b (List.mem_of_getElem? h2))]
    try(refine zz ?_;(repeat constructor);intro _)
    refine wp_ld H (by repeat (first | exact List.Mem.head _ | apply List.Mem.tail)) rfl ?_
    try(refine zz ?_;(repeat constructor);intro _)
    refine wp_ld H (by repeat (first | exact List.Mem.head _ | apply List.Mem.tail)) rfl ?_
    refine wp_lss (fun h0 => ?_) (fun h0 => ?_)
    · try(refine zz ?_;(repeat constructor);intro _)
      refine wp_ret (.inr ⟨by simp, rfl, out (by omega), H.grows⟩)
    try(refine zz ?_;(repeat constructor);intro _)
    refine wp_ld H (by repeat (first | exact List.Mem.head _ | apply List.Mem.tail)) rfl ?_
    try(refine zz ?_;(repeat constructor);intro _)
    refine wp_ld H (by repeat (first | exact List.Mem.head _ | apply List.Mem.tail)) rfl ?_
    try(refine zz ?_;(repeat constructor);intro _)
    refine wp_gtr (fun h3 => ?_) (fun h3 => ?_)
    · try(refine zz ?_;(repeat constructor);intro _)
      refine wp_ret (.inr ⟨by simp, rfl, out (by omega), H.grows⟩)
    try(refine zz ?_;(repeat constructor);intro _)
    refine wp_ret ?_
    show wp EM _ _ _
    refine wp_add64 (by omega) (by omega) (wp_ret (.inl ⟨rfl, 6 - (i + 1), by omega, i + 1, rfl, by omega, rfl, ?_, H.tl⟩))
    rw [List.take_succ_eq_append_getElem (by rw [hbl]; exact hlt)]
    intro a ha
    rcases List.mem_append.1 ha with ha | ha
    · exact hall a ha
    · rw [List.mem_singleton.1 ha, hb]; exact ⟨h0, h3⟩
  · have : i = 6 := by omega
    subst this
    try(refine zz ?_;(repeat constructor);intro _)
    refine wp_ret (.inr ⟨by simp, ?_⟩)
    show wp EM _ _ _
    rw [List.take_of_length_le (by show s.bd.length ≤ 6; exact Nat.le_refl 6)] at hall
    have hf := (s.bd_all).1 hall
    try(refine zz ?_;(repeat constructor);intro _)
    refine wp_ld H (by repeat (first | exact List.Mem.head _ | apply List.Mem.tail)) rfl ?_
    refine wp_callV H (Tsk.check_ok (l := l) (H.roSl (by repeat (first | exact List.Mem.head _ | apply List.Mem.tail)))) fun S6 H => ?_
    unfold Su.chk
    rw [if_pos hf]
    refine wp_neq (fun hne => ?_) (fun hz => ?_)
    · try(refine zz ?_;(repeat constructor);intro _)
      rw [if_pos hne]
      exact wp_ret ⟨rfl, rfl, H.grows⟩
    try(refine zz ?_;(repeat constructor);intro _)
    rw [if_neg (by omega)]
    refine wp_ld H (by repeat (first | exact List.Mem.head _ | apply List.Mem.tail)) rfl ?_
    refine wp_len H (by repeat (first | exact List.Mem.head _ | apply List.Mem.tail)) ?_
    rw [Tsk.tks_len]
    refine wp_eql (fun h0 => ?_) (fun hpos => ?_)
    · try(refine zz ?_;(repeat constructor);intro _)
      rw [if_pos (by omega)]
      exact wp_ret ⟨rfl, rfl, H.grows⟩
    · try(refine zz ?_;(repeat constructor);intro _)
      rw [if_neg (by omega)]
      exact wp_ret ⟨rfl, rfl, H.grows⟩
set_option maxHeartbeats 4000000 in
theorem rcheckE_ok {s : Su} {v : AV} {l : List Tk} (hv : Fct.sl v 4 (tks l) ∈ ro) (H : Cx B0 W S own ro) : wpC EM (.fn (.func 23) [] []) [.agg (s.cs v)] S fun r S' => r = I (s.chk l) ∧ Grows S S' := by
  refine wpC_fn (b := Tryz.a23) rfl rfl ?_
  have hv0 : RoSl S v 4 (tks l) := H.roSl hv
  clear H
  have H := Cx.ro1 hv0
  unfold Tryz.a23 Tryz.a23x9 Tryz.a23x8 Tryz.a23x7 Tryz.a23x6 Tryz.a23x5 Tryz.a23x4 Tryz.a23x3 Tryz.a23x2 Tryz.a23x1 Tryz.a23x0
  refine wp_box H rfl fun p S1 H => ?_
  have bad : ∀ (S1 : AH), ¬ s.fine → Grows S S1 → (Tag.ret = Tag.ret ∧ oneOf [I 3] = I (s.chk l) ∧ Grows S S1) := fun S1 hn hg => ⟨rfl, by unfold Su.chk; rw [if_neg hn]; rfl, hg⟩
  repeat' (first | exact wp_ret (bad _ (by unfold Su.fine; omega) (Cx.grows (by assumption))) | (first|refine zA ?_|refine zB rfl ?_|refine zC ?_|refine zD ?_|refine zE rfl ?_|refine zF ?_|refine zG ?_|refine zH ?_|refine zI ?_|refine zJ ?_|refine zK ?_|refine zL rfl ?_|refine zN rfl ?_) | refine wp_callV (by assumption) (Tsk.refCheck_ok (l := l) (Cx.roSl (by assumption) (by repeat (first | exact List.Mem.head _ | apply List.Mem.tail)))) fun S6 H => ?_ | refine wp_len (by assumption) (show Fct.sl v 4 (tks l) ∈ _ by repeat (first | exact List.Mem.head _ | apply List.Mem.tail)) ?_ | refine wp_ld (by assumption) (by repeat (first | exact List.Mem.head _ | apply List.Mem.tail)) rfl ?_ | refine wp_add64 (by omega) (by omega) ?_ | refine wp_lss (fun _ => ?_) (fun _ => ?_) | refine wp_gtr (fun _ => ?_) (fun _ => ?_) | refine wp_neq (fun hne => ?_) (fun hz => ?_) | (rw [Tsk.tks_len]; refine wp_eql (fun h0 => ?_) (fun hpos => ?_)))
  all_goals
    have hf : s.fine := by unfold Su.fine; omega
    unfold Su.chk
    rw [if_pos hf]
    first
      | (rw [if_pos (by assumption)]; exact wp_ret ⟨rfl, rfl, Cx.grows (by assumption)⟩)
      | (rw [if_neg (by omega), if_pos (by omega)]; exact wp_ret ⟨rfl, rfl, Cx.grows (by assumption)⟩)
      | (rw [if_neg (by omega), if_neg (by omega)]; exact wp_ret ⟨rfl, rfl, Cx.grows (by assumption)⟩)
theorem tks_all (l : List Tk) : ∀ x ∈ tks l, x.length = 4 := by
  intro x hx
  obtain ⟨y, _, rfl⟩ := List.mem_map.1 hx
  rfl
theorem cloneT_ok {v : AV} {l : List Tk} (hv : RoSl S v 4 (tks l)) (hl : l.length ≤ 100000) : wpC EM (.fn (.func 22) [] []) [v] S fun r S' => Cx S [] S' [.sl r 4 (tks l)] [] := by
  refine wpC_fn (b := Tryz.a22) rfl rfl ?_
  have H := Cx.ro1 hv
  unfold Tryz.a22
  have some' : v ≠ Ns → evalOp EM.P (.eq 22 false v Ns) S = some (B false, S) := fun hne => by
    rcases hv.1 with ⟨rfl, _⟩ | ⟨id, off, c, (⟨_, _, _, rfl⟩ | ⟨_, _, _, rfl⟩), _⟩
    · exact absurd rfl hne
    · kernel_rfl
    · kernel_rfl
  by_cases hn : v = Ns
  · subst hn
    have h0 : tks l = [] := by
      rcases hv.1 with ⟨_, h⟩ | ⟨id, off, c, (⟨_, _, _, h⟩ | ⟨_, _, _, h⟩), _⟩
      · exact h
      · cases h
      · cases h
    refine wp_op (v := B true) (S1 := S) (by kernel_rfl) ?_
    try(refine zz ?_;(repeat constructor);intro _)
    refine wp_ret ⟨rfl, ?_⟩
    rw [h0]
    rw [h0] at H
    exact (H.addNilS 4).tl
  · refine wp_op (some' hn) ?_
    try(refine zz ?_;(repeat constructor);intro _)
    refine wp_bslice0 H rfl fun u S1 H => ?_
    refine wp_appendR (x := v) (N := tks l) H 0 rfl (by repeat (first | exact List.Mem.head _ | apply List.Mem.tail)) (tks_all l) (by rw [Tsk.tks_len]; unfold maxBytes; simp; omega) (by rw [Tsk.tks_len]; unfold maxLenN; simp; omega) fun v1 S2 H => ?_
    refine wp_ret ⟨rfl, ?_⟩
    exact H.tl
end
end Go.Abs
namespace Go.Abs
open Go.Proofs
set_option maxRecDepth 100000
theorem wrapU {n : Nat} (h : n < 18446744073709551616) : wrapF .u64 (n : Int) = (n : Int) := by
  rw [wrapF_eq]
  show (n : Int) % 18446744073709551616 = n
  omega
section
variable {M : Mach} {S : AH} {Q : Post} {k : AV → AC}
theorem wp_convU {n : Nat} (hn : n < 18446744073709551616) (h : wp M (k (U (n : Int))) S Q) : wp M (.op (.conv .u64 (I (n : Int))) k) S Q := wp_op (v := U (n : Int)) (by
  show pur (some (AV.sc (.int .u64 (wrapF .u64 (n : Int))))) S = _
  rw [wrapU hn]; rfl) h
theorem wp_shlU {κ : IntKind} {n s : Nat} (hs : s ≤ 64) (hn : n * 2 ^ s < 18446744073709551616) (h : wp M (k (U ((n * 2 ^ s : Nat) : Int))) S Q) : wp M (.op (.bin .shl (U (n : Int)) (Z κ (s : Int))) k) S Q := wp_op (v := U ((n * 2 ^ s : Nat) : Int)) (by
  show pur (if ltF (s : Int) 0 then none else some (AV.sc (.int .u64 (wrapF .u64 ((n : Int) * 2 ^ (min (s : Int).toNat IntKind.u64.bits)))))) S = _
  rw [ltF_eq, if_neg (by simp)]
  have e : min (s : Int).toNat IntKind.u64.bits = s := by show min (s : Int).toNat 64 = s; omega
  rw [e]
  have e2 : (n : Int) * 2 ^ s = ((n * 2 ^ s : Nat) : Int) := by simp
  rw [e2, wrapU hn]; rfl) h
theorem wp_orU {a b : Nat} (ha : a < 18446744073709551616) (hb : b < 18446744073709551616) (h : wp M (k (U ((a ||| b : Nat) : Int))) S Q) : wp M (.op (.bin .or (U (a : Int)) (U (b : Int))) k) S Q := wp_op (v := U ((a ||| b : Nat) : Int)) (by
  show pur (bOr (U (a : Int)) (U (b : Int))) S = _
  unfold bOr
  simp only [int2, asInt, vInt, kindEq_refl]
  have e : (BitVec.ofInt IntKind.u64.bits (a : Int) ||| BitVec.ofInt IntKind.u64.bits (b : Int)).toNat = a ||| b := by
    rw [BitVec.toNat_or]
    have x : ∀ n : Nat, n < 18446744073709551616 → (BitVec.ofInt IntKind.u64.bits (n : Int)).toNat = n := by
      intro n hn
      show (BitVec.ofInt 64 (n : Int)).toNat = n
      rw [BitVec.ofInt_natCast, BitVec.toNat_ofNat]
      exact Nat.mod_eq_of_lt hn
    rw [x a ha, x b hb]
  have hor : a ||| b < 18446744073709551616 := Nat.or_lt_two_pow (n := 64) ha hb
  show pur (some (AV.sc (.int .u64 (wrapF .u64 ((BitVec.ofInt IntKind.u64.bits (a : Int) ||| BitVec.ofInt IntKind.u64.bits (b : Int)).toNat : Nat))))) S = _
  rw [e, wrapU hor]; rfl) h
end
theorem or_hi {a b i : Nat} (hb : b < 2 ^ i) : a * 2 ^ i ||| b = a * 2 ^ i + b := by
  have := Nat.shiftLeft_add_eq_or_of_lt hb a
  rw [Nat.shiftLeft_eq] at this
  exact this.symm
theorem or_lo {a b i : Nat} (hb : b < 2 ^ i) : b ||| a * 2 ^ i = a * 2 ^ i + b := by rw [Nat.or_comm]; exact or_hi hb

def kword (p s r : Int) : Int := p * 72057594037927936 + s * 65536 + r
def kok (p s r : Int) : Prop := (0 ≤ p ∧ p ≤ 254) ∧ (0 ≤ s ∧ s ≤ 1099511627775) ∧ (0 ≤ r ∧ r ≤ 65535)
instance (p s r : Int) : Decidable (kok p s r) := by unfold kok; infer_instance
def putk (p s r : Int) : AV := if kok p s r then .tup [U (kword p s r), I 0] else .tup [U 0, I 3]

theorem refWithin_ok {S : AH} {n lo hi : Int} : wpC EM (.fn (.func 80) [] []) [I n, I lo, I hi] S fun r S' => r = B (decide (lo ≤ n ∧ n ≤ hi)) ∧ Grows S S' := by
  refine wpC_fn (b := Tryz.a80) rfl rfl ?_
  have H : Cx S [] S [] [] := Cx.enter (by simp)
  unfold Tryz.a80
  refine wp_geq (fun h1 => ?_) (fun h1 => ?_)
  · try(refine zz ?_;(repeat constructor);intro _)
    refine wp_leq (fun h2 => ?_) (fun h2 => ?_)
    · try(refine zz ?_;(repeat constructor);intro _)
      exact wp_ret ⟨rfl, by rw [decide_eq_true ⟨h1, h2⟩]; rfl, H.grows⟩
    · try(refine zz ?_;(repeat constructor);intro _)
      exact wp_ret ⟨rfl, by rw [decide_eq_false (by omega)]; rfl, H.grows⟩
  · try(refine zz ?_;(repeat constructor);intro _)
    exact wp_ret ⟨rfl, by rw [decide_eq_false (by omega)]; rfl, H.grows⟩
theorem refPutKey_ok {S : AH} {p s r : Int} : wpC EM (.fn (.func 60) [] []) [.agg [I p, I s, I r]] S fun v S' => v = putk p s r ∧ Grows S S' := by
  refine wpC_fn (b := Tryz.a60) rfl rfl ?_
  have H : Cx S [] S [] [] := Cx.enter (by simp)
  unfold Tryz.a60 Tryz.a60x3 Tryz.a60x2 Tryz.a60x1 Tryz.a60x0 putk
  refine wp_box H rfl fun b S1 H => ?_
  replace H : Cx S [] S1 [] [.pt b 0 [I p, I s, I r]] := H
  try(refine zz ?_;(repeat constructor);intro _)
  refine wp_load1 H (cs := [I p, I s, I r]) (by repeat (first | exact List.Mem.head _ | apply List.Mem.tail)) rfl ?_
  refine wp_callV H refWithin_ok fun S2 H => ?_
  refine wp_not ?_
  by_cases h1 : 0 ≤ p ∧ p ≤ 254
  · rw [decide_eq_true h1]
    try(refine zz ?_;(repeat constructor);intro _)
    refine wp_load1 H (cs := [I p, I s, I r]) (by repeat (first | exact List.Mem.head _ | apply List.Mem.tail)) rfl ?_
    try(refine zz ?_;(repeat constructor);intro _)
    refine wp_callV H refWithin_ok fun S3 H => ?_
    try(refine zz ?_;(repeat constructor);intro _)
    refine wp_not ?_
    by_cases h2 : 0 ≤ s ∧ s ≤ 1099511627775
    · rw [decide_eq_true h2]
      try(refine zz ?_;(repeat constructor);intro _)
      refine wp_load1 H (cs := [I p, I s, I r]) (by repeat (first | exact List.Mem.head _ | apply List.Mem.tail)) rfl ?_
      try(refine zz ?_;(repeat constructor);intro _)
      refine wp_callV H refWithin_ok fun S4 H => ?_
      try(refine zz ?_;(repeat constructor);intro _)
      refine wp_not ?_
      by_cases h3 : 0 ≤ r ∧ r ≤ 65535
      · rw [decide_eq_true h3, if_pos ⟨h1, h2, h3⟩]
        obtain ⟨p', rfl⟩ : ∃ n : Nat, p = n := ⟨p.toNat, by omega⟩
        obtain ⟨s', rfl⟩ : ∃ n : Nat, s = n := ⟨s.toNat, by omega⟩
        obtain ⟨r', rfl⟩ : ∃ n : Nat, r = n := ⟨r.toNat, by omega⟩
        try(refine zz ?_;(repeat constructor);intro _)
        refine wp_load1 H (cs := [I (p' : Int), I (s' : Int), I (r' : Int)]) (by repeat (first | exact List.Mem.head _ | apply List.Mem.tail)) rfl ?_
        refine wp_convU (by omega) ?_
        refine wp_shlU (s := 56) (by omega) (by omega) ?_
        try(refine zz ?_;(repeat constructor);intro _)
        refine wp_load1 H (cs := [I (p' : Int), I (s' : Int), I (r' : Int)]) (by repeat (first | exact List.Mem.head _ | apply List.Mem.tail)) rfl ?_
        refine wp_convU (by omega) ?_
        refine wp_shlU (s := 16) (by omega) (by omega) ?_
        refine wp_orU (by omega) (by omega) ?_
        rw [or_hi (by omega)]
        try(refine zz ?_;(repeat constructor);intro _)
        refine wp_load1 H (cs := [I (p' : Int), I (s' : Int), I (r' : Int)]) (by repeat (first | exact List.Mem.head _ | apply List.Mem.tail)) rfl ?_
        refine wp_convU (by omega) ?_
        refine wp_orU (by omega) (by omega) ?_
        have e : p' * 2 ^ 56 + s' * 2 ^ 16 = (p' * 2 ^ 40 + s') * 2 ^ 16 := by omega
        rw [e, or_hi (by omega)]
        refine wp_ret ⟨rfl, ?_, H.grows⟩
        have e2 : (((p' * 2 ^ 40 + s') * 2 ^ 16 + r' : Nat) : Int) = kword (p' : Int) (s' : Int) (r' : Int) := by unfold kword; omega
        rw [e2]; rfl
      · rw [decide_eq_false h3, if_neg (fun h => h3 h.2.2)]
        try(refine zz ?_;(repeat constructor);intro _)
        exact wp_ret ⟨rfl, rfl, H.grows⟩
    · rw [decide_eq_false h2, if_neg (fun h => h2 h.2.1)]
      try(refine zz ?_;(repeat constructor);intro _)
      exact wp_ret ⟨rfl, rfl, H.grows⟩
  · rw [decide_eq_false h1, if_neg (fun h => h1 h.1)]
    try(refine zz ?_;(repeat constructor);intro _)
    exact wp_ret ⟨rfl, rfl, H.grows⟩
end Go.Abs
namespace Go.Abs
open Go.Proofs
set_option maxRecDepth 100000
def inP (t : Int × Int × Int) : Prop := t.2.1 ≤ t.1 ∧ t.1 ≤ t.2.2
instance (t : Int × Int × Int) : Decidable (inP t) := by unfold inP; infer_instance
def prs (l : List (Int × Int × Int)) : List (List AV) := l.map fun t => [I t.1, I t.2.1, I t.2.2]
theorem prs_len (l : List (Int × Int × Int)) : (prs l).length = l.length := List.length_map ..
theorem prs_get {l : List (Int × Int × Int)} {i : Nat} (hi : i < l.length) : (prs l)[i]? = some [I l[i].1, I l[i].2.1, I l[i].2.2] := by simp [prs, hi]
theorem within_ok {S : AH} {v : AV} {l : List (Int × Int × Int)} (hv : RoSl S v 3 (prs l)) (hl : l.length < 1000) : wpC EM (.fn (.func 89) [] []) [v] S fun r S' => r = B (decide (∀ t ∈ l, inP t)) ∧ Grows S S' := by
  refine wpC_fn (b := Tryz.a89) rfl rfl ?_
  have H := Cx.ro1 hv
  unfold Tryz.a89 Tryz.a89x4 Tryz.a89x3 Tryz.a89x2 Tryz.a89x1 Tryz.a89x0
  refine wp_len H (by repeat (first | exact List.Mem.head _ | apply List.Mem.tail)) ?_
  rw [prs_len]
  refine wp_bind (wp_loop (wpL_for l.length (fun i vs S1 => ∃ u : AV, vs = [I (i : Int), u] ∧ (∀ t ∈ l.take i, inP t) ∧ Cx S [] S1 [] [.sl v 3 (prs l)]) ?_ ?_ ⟨_, rfl, by simp, H⟩))
  · rintro i vs S1 hlt ⟨u, rfl, hpre, H⟩
    refine wp_lss_t (by omega) ?_
    try(refine zz ?_;(repeat constructor);intro _)
    refine wp_bind ?_
    refine wp_saddr (i := i) H (by repeat (first | exact List.Mem.head _ | apply List.Mem.tail)) (prs_get hlt) fun p off H => ?_
    refine wp_loada H (cs := [I l[i].1, I l[i].2.1, I l[i].2.2]) (by repeat (first | exact List.Mem.head _ | apply List.Mem.tail)) (Nat.le_of_ble_eq_true rfl) ?_
    refine wp_alloc H fun b S3 H => ?_
    refine wp_store H 0 rfl rfl rfl (Nat.le_of_ble_eq_true rfl) fun S4 H => ?_
    replace H : Cx S [] S4 [] [.pt b 0 [I l[i].1, I l[i].2.1, I l[i].2.2], .pt p off [I l[i].1, I l[i].2.1, I l[i].2.2], .sl v 3 (prs l)] := H.freeze (i := 0) (c := [I l[i].1, I l[i].2.1, I l[i].2.2]) rfl
    try(refine zz ?_;(repeat constructor);intro _)
    refine wp_load1 H (cs := [I l[i].1, I l[i].2.1, I l[i].2.2]) (by repeat (first | exact List.Mem.head _ | apply List.Mem.tail)) rfl ?_
    try(refine zz ?_;(repeat constructor);intro _)
    refine wp_load1 H (cs := [I l[i].1, I l[i].2.1, I l[i].2.2]) (by repeat (first | exact List.Mem.head _ | apply List.Mem.tail)) rfl ?_
    refine wp_lss (fun h1 => ?_) (fun h1 => ?_)
    · try(refine zz ?_;(repeat constructor);intro _)
      refine wp_ret (.inr ⟨by simp, rfl, ?_, H.grows⟩)
      rw [decide_eq_false (fun h => by have := (h l[i] (List.getElem_mem hlt)).1; omega)]; rfl
    · try(refine zz ?_;(repeat constructor);intro _)
      refine wp_load1 H (cs := [I l[i].1, I l[i].2.1, I l[i].2.2]) (by repeat (first | exact List.Mem.head _ | apply List.Mem.tail)) rfl ?_
      try(refine zz ?_;(repeat constructor);intro _)
      refine wp_load1 H (cs := [I l[i].1, I l[i].2.1, I l[i].2.2]) (by repeat (first | exact List.Mem.head _ | apply List.Mem.tail)) rfl ?_
      try(refine zz ?_;(repeat constructor);intro _)
      refine wp_gtr (fun h2 => ?_) (fun h2 => ?_)
      · try(refine zz ?_;(repeat constructor);intro _)
        refine wp_ret (.inr ⟨by simp, rfl, ?_, H.grows⟩)
        rw [decide_eq_false (fun h => by have := (h l[i] (List.getElem_mem hlt)).2; omega)]; rfl
      · try(refine zz ?_;(repeat constructor);intro _)
        refine wp_ret ?_
        show wp EM _ _ _
        refine wp_add64 (by omega) (by omega) (wp_ret (.inl ⟨rfl, _, rfl, fun t ht => ?_, H.tl.tl⟩))
        rw [List.take_succ_eq_append_getElem hlt, List.mem_append, List.mem_singleton] at ht
        rcases ht with ht | rfl
        · exact hpre t ht
        · exact ⟨h1, h2⟩
  · rintro vs S1 ⟨u, rfl, hpre, H⟩
    refine wp_lss_f (by omega) ?_
    try(refine zz ?_;(repeat constructor);intro _)
    refine wp_ret ⟨by simp, wp_ret ⟨rfl, ?_, H.grows⟩⟩
    rw [List.take_length] at hpre
    rw [decide_eq_true hpre]; rfl
def keyTab : List AV := [I 0, I 16, I 16, I 40, I 56, I 8]
theorem keys_ok {S : AH} : wpC EM (.fn (.func 90) [] []) [] S fun r S' => r = .agg keyTab ∧ Grows S S' := by
  refine wpC_fn (b := Tryz.a90) rfl rfl ?_
  have H : Cx S [] S [] [] := Cx.enter (by simp)
  unfold Tryz.a90 Tryz.a90x0
  refine wp_fin ?_
  refine wp_alloc H fun b S1 H => ?_
  refine wp_op (v := .agg [I 0, I 16]) rfl ?_
  refine wp_op (v := .agg [I 16, I 40]) rfl ?_
  refine wp_op (v := .agg [I 56, I 8]) rfl ?_
  refine wp_op (v := .agg keyTab) rfl ?_
  refine wp_store (v := .agg keyTab) H 0 rfl rfl rfl (Nat.le_of_ble_eq_true rfl) fun S2 H => ?_
  refine wp_ret ⟨.inr rfl, ?_⟩
  refine wp_loadoa (n := 6) H 0 rfl (Nat.le_of_ble_eq_true rfl) ?_
  exact wp_ret ⟨rfl, rfl, H.grows⟩
theorem with_ok {S : AH} {w n s m : Nat} (hw : w < 18446744073709551616) (hn : n * 2 ^ s < 18446744073709551616) (hs : s ≤ 64) (hn0 : n < 18446744073709551616) : wpC EM (.fn (.func 109) [] []) [U (w : Int), .agg [I (s : Int), I (m : Int)], I (n : Int)] S fun r S' => r = U ((w ||| n * 2 ^ s : Nat) : Int) ∧ Grows S S' := by
  refine wpC_fn (b := Tryz.a109) rfl rfl ?_
  have H : Cx S [] S [] [] := Cx.enter (by simp)
  unfold Tryz.a109
  refine wp_box H rfl fun b S1 H => ?_
  replace H : Cx S [] S1 [] [.pt b 0 [I (s : Int), I (m : Int)]] := H
  refine wp_convU hn0 ?_
  try(refine zz ?_;(repeat constructor);intro _)
  refine wp_load1 H (cs := [I (s : Int), I (m : Int)]) (by repeat (first | exact List.Mem.head _ | apply List.Mem.tail)) rfl ?_
  refine wp_shlU hs hn ?_
  refine wp_orU hw hn ?_
  exact wp_ret ⟨rfl, rfl, H.grows⟩
theorem lay_ok {S : AH} {v v' : AV} {r s p : Nat} (hv : RoSl S v 2 [[I 0, I 16], [I 16, I 40], [I 56, I 8]]) (hv' : RoSl S v' 1 [[I (r : Int)], [I (s : Int)], [I (p : Int)]]) (hr : r < 65536) (hs : s < 1099511627776) (hp : p < 256) :
    wpC EM (.fn (.func 91) [] []) [v, v'] S fun x S' => x = U (kword p s r) ∧ Grows S S' := by
  refine wpC_fn (b := Tryz.a91) rfl rfl ?_
  have H := Cx.ro2 hv hv'
  unfold Tryz.a91 Tryz.a91x3 Tryz.a91x2 Tryz.a91x1 Tryz.a91x0
  refine wp_len (v := v) (es := 2) (L := [[I 0, I 16], [I 16, I 40], [I 56, I 8]]) H (by repeat (first | exact List.Mem.head _ | apply List.Mem.tail)) ?_
  refine wp_bind (wp_loop (wpL_for 3 (fun i vs S1 => vs = [I (i : Int), U (((if i = 0 then 0 else if i = 1 then r else if i = 2 then s * 65536 + r else p * 72057594037927936 + s * 65536 + r) : Nat) : Int)] ∧ Cx S [] S1 [] [.sl v 2 [[I 0, I 16], [I 16, I 40], [I 56, I 8]], .sl v' 1 [[I (r : Int)], [I (s : Int)], [I (p : Int)]]]) ?_ ?_ ⟨rfl, H⟩))
  · rintro i vs S1 hlt ⟨rfl, H⟩
    refine wp_lss_t (by show (i : Int) < 3; omega) ?_
    try(refine zz ?_;(repeat constructor);intro _)
    refine wp_bind ?_
    have hcase : i = 0 ∨ i = 1 ∨ i = 2 := by omega
    rcases hcase with rfl | rfl | rfl
    · refine wp_saddr (v := v) (L := [[I 0, I 16], [I 16, I 40], [I 56, I 8]]) (i := 0) (x := [I 0, I 16]) H (by repeat (first | exact List.Mem.head _ | apply List.Mem.tail)) rfl fun q off H => ?_
      refine wp_loada H (cs := [I 0, I 16]) (by repeat (first | exact List.Mem.head _ | apply List.Mem.tail)) (Nat.le_of_ble_eq_true rfl) ?_
      refine wp_alloc H fun b S3 H => ?_
      refine wp_store H 0 rfl rfl rfl (Nat.le_of_ble_eq_true rfl) fun S4 H => ?_
      replace H := H.freeze (i := 0) (c := [I 0, I 16]) rfl
      refine wp_loada H (cs := [I 0, I 16]) (by repeat (first | exact List.Mem.head _ | apply List.Mem.tail)) (Nat.le_of_ble_eq_true rfl) ?_
      refine wp_saddr (v := v') (L := [[I (r : Int)], [I (s : Int)], [I (p : Int)]]) (i := 0) (x := [I (r : Int)]) H (by repeat (first | exact List.Mem.head _ | apply List.Mem.tail)) rfl fun q' off' H => ?_
      refine wp_load0 H (cs := [I (r : Int)]) (by repeat (first | exact List.Mem.head _ | apply List.Mem.tail)) rfl ?_
      refine wp_callV H (with_ok (w := 0) (n := r) (s := 0) (m := 16) (by omega) (by omega) (by omega) (by omega)) fun S5 H => ?_
      refine wp_ret ?_
      show wp EM _ _ _
      refine wp_add64 (by omega) (by omega) (wp_ret (.inl ⟨rfl, ?_, H.dropRo (by simp)⟩))
      have e : 0 ||| r * 2 ^ 0 = r := by simp
      rw [e]; rfl
    · refine wp_saddr (v := v) (L := [[I 0, I 16], [I 16, I 40], [I 56, I 8]]) (i := 1) (x := [I 16, I 40]) H (by repeat (first | exact List.Mem.head _ | apply List.Mem.tail)) rfl fun q off H => ?_
      refine wp_loada H (cs := [I 16, I 40]) (by repeat (first | exact List.Mem.head _ | apply List.Mem.tail)) (Nat.le_of_ble_eq_true rfl) ?_
      refine wp_alloc H fun b S3 H => ?_
      refine wp_store H 0 rfl rfl rfl (Nat.le_of_ble_eq_true rfl) fun S4 H => ?_
      replace H := H.freeze (i := 0) (c := [I 16, I 40]) rfl
      refine wp_loada H (cs := [I 16, I 40]) (by repeat (first | exact List.Mem.head _ | apply List.Mem.tail)) (Nat.le_of_ble_eq_true rfl) ?_
      refine wp_saddr (v := v') (L := [[I (r : Int)], [I (s : Int)], [I (p : Int)]]) (i := 1) (x := [I (s : Int)]) H (by repeat (first | exact List.Mem.head _ | apply List.Mem.tail)) rfl fun q' off' H => ?_
      refine wp_load0 H (cs := [I (s : Int)]) (by repeat (first | exact List.Mem.head _ | apply List.Mem.tail)) rfl ?_
      refine wp_callV H (with_ok (w := r) (n := s) (s := 16) (m := 40) (by omega) (by omega) (by omega) (by omega)) fun S5 H => ?_
      refine wp_ret ?_
      show wp EM _ _ _
      refine wp_add64 (by omega) (by omega) (wp_ret (.inl ⟨rfl, ?_, H.dropRo (by simp)⟩))
      rw [or_lo (by omega)]; rfl
    · refine wp_saddr (v := v) (L := [[I 0, I 16], [I 16, I 40], [I 56, I 8]]) (i := 2) (x := [I 56, I 8]) H (by repeat (first | exact List.Mem.head _ | apply List.Mem.tail)) rfl fun q off H => ?_
      refine wp_loada H (cs := [I 56, I 8]) (by repeat (first | exact List.Mem.head _ | apply List.Mem.tail)) (Nat.le_of_ble_eq_true rfl) ?_
      refine wp_alloc H fun b S3 H => ?_
      refine wp_store H 0 rfl rfl rfl (Nat.le_of_ble_eq_true rfl) fun S4 H => ?_
      replace H := H.freeze (i := 0) (c := [I 56, I 8]) rfl
      refine wp_loada H (cs := [I 56, I 8]) (by repeat (first | exact List.Mem.head _ | apply List.Mem.tail)) (Nat.le_of_ble_eq_true rfl) ?_
      refine wp_saddr (v := v') (L := [[I (r : Int)], [I (s : Int)], [I (p : Int)]]) (i := 2) (x := [I (p : Int)]) H (by repeat (first | exact List.Mem.head _ | apply List.Mem.tail)) rfl fun q' off' H => ?_
      refine wp_load0 H (cs := [I (p : Int)]) (by repeat (first | exact List.Mem.head _ | apply List.Mem.tail)) rfl ?_
      refine wp_callV H (with_ok (w := s * 65536 + r) (n := p) (s := 56) (m := 8) (by omega) (by omega) (by omega) (by omega)) fun S5 H => ?_
      refine wp_ret ?_
      show wp EM _ _ _
      refine wp_add64 (by omega) (by omega) (wp_ret (.inl ⟨rfl, ?_, H.dropRo (by simp)⟩))
      rw [or_lo (by omega)]
      have e : p * 2 ^ 56 + (s * 65536 + r) = p * 72057594037927936 + s * 65536 + r := by omega
      rw [e]; rfl
  · rintro vs S1 ⟨rfl, H⟩
    refine wp_lss_f (by show (3 : Int) ≤ ((3 : Nat) : Int); omega) ?_
    try(refine zz ?_;(repeat constructor);intro _)
    refine wp_ret ⟨by simp, wp_ret ⟨rfl, ?_, H.grows⟩⟩
    have e : ((p * 72057594037927936 + s * 65536 + r : Nat) : Int) = kword (p : Int) (s : Int) (r : Int) := by unfold kword; omega
    show U (((p * 72057594037927936 + s * 65536 + r : Nat) : Int)) = _
    rw [e]
end Go.Abs
namespace Go.Abs
open Go.Proofs
set_option maxRecDepth 100000
theorem putKey_ok {S : AH} {p s r : Int} : wpC EM (.fn (.func 73) [] []) [.agg [I p, I s, I r]] S fun v S' => v = putk p s r ∧ Grows S S' := by
  refine wpC_fn (b := Tryz.a73) rfl rfl ?_
  have H : Cx S [] S [] [] := Cx.enter (by simp)
  unfold Tryz.a73 Tryz.a73x3 Tryz.a73x2 Tryz.a73x1 Tryz.a73x0 putk
  refine wp_box H rfl fun b S1 H => ?_
  replace H : Cx S [] S1 [] [.pt b 0 [I p, I s, I r]] := H
  try(refine zz ?_;(repeat constructor);intro _)
  refine wp_load1 H (cs := [I p, I s, I r]) (by repeat (first | exact List.Mem.head _ | apply List.Mem.tail)) rfl ?_
  refine wp_op (v := .agg [I r, I 0, I 65535]) rfl ?_
  try(refine zz ?_;(repeat constructor);intro _)
  refine wp_load1 H (cs := [I p, I s, I r]) (by repeat (first | exact List.Mem.head _ | apply List.Mem.tail)) rfl ?_
  refine wp_op (v := .agg [I s, I 0, I 1099511627775]) rfl ?_
  try(refine zz ?_;(repeat constructor);intro _)
  refine wp_load1 H (cs := [I p, I s, I r]) (by repeat (first | exact List.Mem.head _ | apply List.Mem.tail)) rfl ?_
  refine wp_op (v := .agg [I p, I 0, I 254]) rfl ?_
  refine wp_op (v := .sl S1.next 0 3 3) (S1 := S1.new (.row [I r, I 0, I 65535, I s, I 0, I 1099511627775, I p, I 0, I 254])) rfl ?_
  replace H : Cx S [] _ [] [.sl (.sl S1.next 0 3 3) 3 (prs [(r, 0, 65535), (s, 0, 1099511627775), (p, 0, 254)]), .pt b 0 [I p, I s, I r]] := H.addNewRo (Grows.new S1 _) (.inr ⟨S1.next, 0, [I r, I 0, I 65535, I s, I 0, I 1099511627775, I p, I 0, I 254], .inl ⟨3, Nat.le_refl _, Nat.le_refl _, rfl⟩, row_cells (get_new_same _ _), rfl, by simp [prs]⟩) (by
    intro j hj
    simp only [Fct.ids, vids, List.mem_singleton] at hj
    subst hj
    simp)
  generalize S1.new (.row [I r, I 0, I 65535, I s, I 0, I 1099511627775, I p, I 0, I 254]) = S2 at H ⊢
  generalize AV.sl S1.next 0 3 3 = w at H ⊢
  refine wp_callV H (within_ok (H.roSl (by repeat (first | exact List.Mem.head _ | apply List.Mem.tail))) (by simp)) fun S3 H => ?_
  refine wp_not ?_
  have hiff : (∀ t ∈ [(r, (0 : Int), (65535 : Int)), (s, 0, 1099511627775), (p, 0, 254)], inP t) ↔ kok p s r := by
    unfold kok inP
    simp
    constructor
    · rintro ⟨h1, h2, h3⟩; exact ⟨h3, h2, h1⟩
    · rintro ⟨h1, h2, h3⟩; exact ⟨h3, h2, h1⟩
  by_cases hk : kok p s r
  · rw [decide_eq_true (hiff.2 hk), if_pos hk]
    have hk' := hk
    obtain ⟨h1, h2, h3⟩ := hk'
    obtain ⟨p', rfl⟩ : ∃ n : Nat, p = n := ⟨p.toNat, by omega⟩
    obtain ⟨s', rfl⟩ : ∃ n : Nat, s = n := ⟨s.toNat, by omega⟩
    obtain ⟨r', rfl⟩ : ∃ n : Nat, r = n := ⟨r.toNat, by omega⟩
    try(refine zz ?_;(repeat constructor);intro _)
    refine wp_callV H keys_ok fun S4 H => ?_
    refine wp_alloc H fun o S5 H => ?_
    refine wp_store (v := .agg keyTab) H 0 rfl rfl rfl (Nat.le_of_ble_eq_true rfl) fun S6 H => ?_
    have hob : S6.get o = some (.row keyTab) := H.oh _ (List.Mem.head _)
    replace H := H.freeze (i := 0) (c := keyTab) rfl
    refine wp_op (v := .sl o 0 3 3) rfl ?_
    have hpt := (H.ri (.pt o 0 keyTab) (List.Mem.head _))
    replace H := H.addRo (φ := .sl (.sl o 0 3 3) 2 [[I 0, I 16], [I 16, I 40], [I 56, I 8]]) (.inr ⟨o, 0, keyTab, .inl ⟨3, Nat.le_refl _, Nat.le_refl _, rfl⟩, row_cells hob, rfl, by simp⟩) (fun id hid => hpt id hid)
    try(refine zz ?_;(repeat constructor);intro _)
    refine wp_load1 H (cs := [I (p' : Int), I (s' : Int), I (r' : Int)]) (by repeat (first | exact List.Mem.head _ | apply List.Mem.tail)) rfl ?_
    try(refine zz ?_;(repeat constructor);intro _)
    refine wp_load1 H (cs := [I (p' : Int), I (s' : Int), I (r' : Int)]) (by repeat (first | exact List.Mem.head _ | apply List.Mem.tail)) rfl ?_
    try(refine zz ?_;(repeat constructor);intro _)
    refine wp_load1 H (cs := [I (p' : Int), I (s' : Int), I (r' : Int)]) (by repeat (first | exact List.Mem.head _ | apply List.Mem.tail)) rfl ?_
    refine wp_op (v := .sl S6.next 0 3 3) (S1 := S6.new (.row [I (r' : Int), I (s' : Int), I (p' : Int)])) rfl ?_
    replace H := H.addNewRo (φ := .sl (.sl S6.next 0 3 3) 1 [[I (r' : Int)], [I (s' : Int)], [I (p' : Int)]]) (Grows.new S6 (.row [I (r' : Int), I (s' : Int), I (p' : Int)])) (.inr ⟨S6.next, 0, [I (r' : Int), I (s' : Int), I (p' : Int)], .inl ⟨3, Nat.le_refl _, Nat.le_refl _, rfl⟩, row_cells (get_new_same _ _), rfl, by simp⟩) (by
      intro j hj
      simp only [Fct.ids, vids, List.mem_singleton] at hj
      subst hj
      simp)
    refine wp_callV H (lay_ok (r := r') (s := s') (p := p') (H.roSl (by repeat (first | exact List.Mem.head _ | apply List.Mem.tail))) (H.roSl (by repeat (first | exact List.Mem.head _ | apply List.Mem.tail))) (by omega) (by omega) (by omega)) fun S7 H => ?_
    exact wp_ret ⟨rfl, rfl, H.grows⟩
  · rw [decide_eq_false (fun h => hk (hiff.1 h)), if_neg hk]
    try(refine zz ?_;(repeat constructor);intro _)
    exact wp_ret ⟨rfl, rfl, H.grows⟩
end Go.Abs
namespace Go.Abs
open Go.Proofs
set_option maxRecDepth 100000
set_option linter.unusedVariables false
/-! ### places within a slice of one's own -/
def inSl (v : AV) (es n i id off : Nat) : Prop := ∃ o, ((∃ c, v = .sl id o n c) ∨ ∃ m, v = .op id o n m es) ∧ off = o + i * es ∧ i < n
theorem setRange_in {c x ys : List AV} {o j es : Nat} (hx : (c.drop o).take es = x) (ho : o + es ≤ c.length) (hj : j + ys.length ≤ es) : setRange c (o + j) ys = setRange c o (setRange x j ys) := by
  have hxl : x.length = es := by rw [← hx, List.length_take, List.length_drop]; omega
  have hsl : (setRange x j ys).length = es := by rw [setRange_length (by omega), hxl]
  apply List.ext_getElem?
  intro i
  rw [setRange_get (by omega), setRange_get (by omega), hsl]
  by_cases h1 : o ≤ i ∧ i < o + es
  · rw [if_pos h1, setRange_get (by omega)]
    by_cases h2 : o + j ≤ i ∧ i < o + j + ys.length
    · rw [if_pos h2, if_pos (by omega)]; congr 1; omega
    · rw [if_neg h2, if_neg (by omega), ← hx, List.getElem?_take, List.getElem?_drop, if_pos (by omega)]; congr 1; omega
  · rw [if_neg h1, if_neg (by omega)]
section
variable {M : Mach} {B0 S : AH} {W : List Nat} {own : List Own} {ro : List Fct} {Q : Post} {k : AV → AC} {v : AV} {es i id off : Nat} {L : List (List AV)}
theorem slForm_cap {v : AV} {es n id off : Nat} {c : List AV} (h : slForm v es n id off c) : off + n * es ≤ c.length := by
  have hcap : ∃ m, n ≤ m ∧ off + m * es ≤ c.length := by
    rcases h with ⟨m, q1, q2, _⟩ | ⟨m, q1, q2, _⟩ <;> exact ⟨m, q1, q2⟩
  obtain ⟨m, q1, q2⟩ := hcap
  have := Nat.mul_le_mul_right es q1
  omega
theorem inSl_form {v : AV} {n : Nat} {id' off' : Nat} {c : List AV} (hp : inSl v es n i id off) (h : slForm v es n id' off' c) : id = id' ∧ off = off' + i * es ∧ i < n := by
  obtain ⟨o, hv, ho, hi⟩ := hp
  rcases h with ⟨m, q1, q2, rfl⟩ | ⟨m, q1, q2, rfl⟩
  · rcases hv with ⟨c, e⟩ | ⟨m, e⟩
    · cases e; exact ⟨rfl, ho, hi⟩
    · cases e
  · rcases hv with ⟨c, e⟩ | ⟨m, e⟩
    · cases e
    · cases e; exact ⟨rfl, ho, hi⟩
theorem wp_at (H : Cx B0 W S own ro) (n : Nat) (hm : own[n]? = some (.sl v es L)) (hi : i < L.length) (h : ∀ id off, inSl v es L.length i id off → wp M (k (.ptr id off)) S Q) : wp M (.op (.saddr es v (I (i : Int))) k) S Q := by
  have hw : slW S v es L := H.oh _ (List.mem_of_getElem? hm)
  rcases hw with ⟨rfl, rfl⟩ | ⟨id, off, c, h0, h1, h2, h3⟩
  · simp at hi
  · refine wp_op (e_saddr h0 hi) (h id _ ⟨off, ?_, rfl, hi⟩)
    rcases h0 with ⟨m, _, _, rfl⟩ | ⟨m, _, _, rfl⟩
    · exact .inl ⟨_, rfl⟩
    · exact .inr ⟨_, rfl⟩
theorem at_pt (H : Cx B0 W S own ro) (n : Nat) (hm : own[n]? = some (.sl v es L)) (hp : inSl v es L.length i id off) {x : List AV} (hi : L[i]? = some x) : (Fct.pt id off x).holds S := by
  have hw : slW S v es L := H.oh _ (List.mem_of_getElem? hm)
  rcases hw with ⟨rfl, rfl⟩ | ⟨id', off', c, h0, h1, h2, h3⟩
  · simp at hi
  · obtain ⟨rfl, rfl, hlt⟩ := inSl_form hp h0
    have hcap := slForm_cap h0
    have hxl : x.length = es := h3 x (List.mem_of_getElem? hi)
    have hin : i * es + es ≤ L.length * es := by
      have : (i + 1) * es ≤ L.length * es := Nat.mul_le_mul_right es hlt
      rw [Nat.succ_mul] at this; omega
    refine ⟨c, row_cells h1, by omega, ?_⟩
    have := flatten_at h3 hi
    rw [← h2, List.drop_take, List.take_take, List.drop_drop, Nat.min_eq_left (by omega)] at this
    rw [hxl]; exact this
theorem wp_atL (H : Cx B0 W S own ro) (n : Nat) (hm : own[n]? = some (.sl v es L)) (hp : inSl v es L.length i id off) {x : List AV} {c : AV} {j : Nat} (hi : L[i]? = some x) (hj : x[j]? = some c) (h : wp M (k c) S Q) :
    wp M (.op (.load 1 false (.ptr id (Nat.add off j))) k) S Q := wp_loadF (at_pt H n hm hp hi) hj h
theorem wp_atL0 (H : Cx B0 W S own ro) (n : Nat) (hm : own[n]? = some (.sl v es L)) (hp : inSl v es L.length i id off) {x : List AV} {c : AV} (hi : L[i]? = some x) (hj : x[0]? = some c) (h : wp M (k c) S Q) :
    wp M (.op (.load 1 false (.ptr id off)) k) S Q := wp_atL H n hm hp (j := 0) hi hj h
theorem wp_atLn (H : Cx B0 W S own ro) (n : Nat) (hm : own[n]? = some (.sl v es L)) (hp : inSl v es L.length i id off) {x : List AV} (hi : L[i]? = some x) (hl : es ≤ x.length) (h : wp M (k (.agg x)) S Q) :
    wp M (.op (.load es true (.ptr id off)) k) S Q := by
  have hw : slW S v es L := H.oh _ (List.mem_of_getElem? hm)
  have hxl : x.length = es := by
    rcases hw with ⟨rfl, rfl⟩ | ⟨id', off', c, h0, h1, h2, h3⟩
    · simp at hi
    · exact h3 x (List.mem_of_getElem? hi)
  refine wp_loadFn (j := 0) (n := es) (at_pt H n hm hp hi) (by omega) ?_
  rw [List.drop_zero, List.take_of_length_le (by omega)]; exact h
theorem wp_atSt (H : Cx B0 W S own ro) (n : Nat) (hm : own[n]? = some (.sl v es L)) (hp : inSl v es L.length i id off) {x : List AV} {y : AV} {j m : Nat} (hi : L[i]? = some x) (ho : odd y = false) (hy : y.cells.length = m) (hj : j + m ≤ es)
    (h : ∀ S1, Cx B0 W S1 (own.set n (.sl v es (L.set i (setRange x j y.cells)))) ro → wp M (k uv) S1 Q) : wp M (.op (.store m (.ptr id (Nat.add off j)) y) k) S Q := by
  have hw : slW S v es L := H.oh _ (List.mem_of_getElem? hm)
  rcases hw with ⟨rfl, rfl⟩ | ⟨id', off', c, h0, h1, h2, h3⟩
  · simp at hi
  · have hpt := at_pt H n hm hp hi
    obtain ⟨rfl, rfl, hlt⟩ := inSl_form hp h0
    have hcap := slForm_cap h0
    have hxl : x.length = es := h3 x (List.mem_of_getElem? hi)
    have hfl := flatten_length h3
    have hin : i * es + es ≤ L.length * es := by
      have : (i + 1) * es ≤ L.length * es := Nat.mul_le_mul_right es hlt
      rw [Nat.succ_mul] at this; omega
    have hxd : (c.drop (off' + i * es)).take es = x := by
      obtain ⟨c', k1, k2, k3⟩ := hpt
      rw [row_cells h1] at k1
      cases k1
      rwa [hxl] at k3
    have hsl : (setRange x j y.cells).length = es := by rw [setRange_length (by omega), hxl]
    refine wp_op (v := uv) (S1 := S.set id (.row (setRange c (off' + i * es) (setRange x j y.cells)))) ?_ (h _ (H.step hm (Nat.le_refl _) ?_ ?_ ?_))
    · show eStore m (.ptr id (off' + i * es + j)) y S = _
      unfold eStore
      have g1 : asPtr (.ptr id (off' + i * es + j)) = some (id, off' + i * es + j) := rfl
      have g2 : (not (odd y) && Nat.beq (lenL y.cells) m && Nat.ble (Nat.add (off' + i * es + j) m) (lenL c)) = true := by
        have q1 : Nat.beq (lenL y.cells) m = true := by rw [lenL_eq, hy]; exact Nat.beq_refl m
        have q2 : Nat.ble (Nat.add (off' + i * es + j) m) (lenL c) = true := by rw [lenL_eq]; exact ble_t (by show off' + i * es + j + m ≤ c.length; omega)
        simp only [ho, q1, q2]; rfl
      simp only [g1, row_row h1, g2]
      rw [setRange_in hxd (by omega) (by omega)]
    · intro q hq hne
      rw [AH.get_set, if_neg (by simpa [Own.ids, h0.ids] using hne)]
    · refine .inr ⟨id, off', setRange c (off' + i * es) (setRange x j y.cells), ?_, by rw [AH.get_set, if_pos rfl], ?_, ?_⟩
      · rw [List.length_set]
        have hl : (setRange c (off' + i * es) (setRange x j y.cells)).length = c.length := setRange_length (by omega)
        rcases h0 with ⟨m, q1, q2, q3⟩ | ⟨m, q1, q2, q3⟩
        · exact .inl ⟨m, q1, by rw [hl]; exact q2, q3⟩
        · exact .inr ⟨m, q1, by rw [hl]; exact q2, q3⟩
      · generalize setRange x j y.cells = z at hsl
        rw [List.length_set, flatten_set h3 hlt hsl, ← h2]
        apply List.ext_getElem?
        intro q
        rw [List.getElem?_take, List.getElem?_drop, setRange_get (by omega), setRange_get (by rw [List.length_take, List.length_drop]; omega)]
        rw [List.getElem?_take, List.getElem?_drop]
        by_cases hq : q < L.length * es
        · rw [if_pos hq, if_pos hq]
          by_cases hr : i * es ≤ q ∧ q < i * es + z.length
          · rw [if_pos hr, if_pos (by omega)]; congr 1; omega
          · rw [if_neg hr, if_neg (by omega)]
        · rw [if_neg hq, if_neg hq, if_neg (by omega)]
      · intro z hz
        rcases List.mem_or_eq_of_mem_set hz with hz | rfl
        · exact h3 z hz
        · exact hsl
    · intro q hq
      exact ⟨(H.oi _ (List.mem_of_getElem? hm) q hq).1, .inl hq⟩
theorem setRange_one {x : List AV} {c : AV} {j : Nat} (hj : j < x.length) : setRange x j [c] = x.set j c := by
  apply List.ext_getElem?
  intro i
  rw [setRange_get (by simp; omega), List.getElem?_set]
  by_cases h : j = i
  · subst h; simp [hj]
  · rw [if_neg (by simp; omega), if_neg h]
theorem wp_atS (H : Cx B0 W S own ro) (n : Nat) (hm : own[n]? = some (.sl v es L)) (hp : inSl v es L.length i id off) {x : List AV} {c : AV} {j : Nat} (hi : L[i]? = some x) (ho : odd c = false) (hc : c.cells = [c]) (hj : j + 1 ≤ es) (hx : j < x.length)
    (h : ∀ S1, Cx B0 W S1 (own.set n (.sl v es (L.set i (x.set j c)))) ro → wp M (k uv) S1 Q) : wp M (.op (.store 1 (.ptr id (Nat.add off j)) c) k) S Q :=
  wp_atSt H n hm hp hi ho (by rw [hc]; rfl) hj fun S1 H1 => h S1 (by rw [hc, setRange_one hx] at H1; exact H1)
theorem wp_atS0 (H : Cx B0 W S own ro) (n : Nat) (hm : own[n]? = some (.sl v es L)) (hp : inSl v es L.length i id off) {x : List AV} {c : AV} (hi : L[i]? = some x) (ho : odd c = false) (hc : c.cells = [c]) (hj : 1 ≤ es) (hx : 0 < x.length)
    (h : ∀ S1, Cx B0 W S1 (own.set n (.sl v es (L.set i (x.set 0 c)))) ro → wp M (k uv) S1 Q) : wp M (.op (.store 1 (.ptr id off) c) k) S Q :=
  wp_atS H n hm hp (j := 0) hi ho hc (by omega) hx h
theorem wp_atSn (H : Cx B0 W S own ro) (n : Nat) (hm : own[n]? = some (.sl v es L)) (hp : inSl v es L.length i id off) {x : List AV} {y : AV} (hi : L[i]? = some x) (ho : odd y = false) (hy : y.cells.length = es)
    (h : ∀ S1, Cx B0 W S1 (own.set n (.sl v es (L.set i y.cells))) ro → wp M (k uv) S1 Q) : wp M (.op (.store es (.ptr id off) y) k) S Q := by
  have hw : slW S v es L := H.oh _ (List.mem_of_getElem? hm)
  have hxl : x.length = es := by
    rcases hw with ⟨rfl, rfl⟩ | ⟨id', off', c, h0, h1, h2, h3⟩
    · simp at hi
    · exact h3 x (List.mem_of_getElem? hi)
  refine wp_atSt H n hm hp (j := 0) hi ho hy (by omega) fun S1 H1 => h S1 ?_
  have e : setRange x 0 y.cells = y.cells := by rw [setRange_eq, List.take_zero, List.nil_append, Nat.zero_add, List.drop_eq_nil_of_le (by omega), List.append_nil]
  rw [e] at H1
  exact H1
end
end Go.Abs
namespace Go.Abs
open Go.Proofs
set_option maxRecDepth 100000
set_option linter.unusedVariables false
open Tsk (Tk tks tchk)
theorem slOk_odd1 {S : AH} {v : AV} {es : Nat} {L : List (List AV)} (h : slOk S v es L) : odd v = false ∧ v.cells = [v] := by
  rcases h with ⟨rfl, _⟩ | ⟨id, off, c, h0, _⟩
  · exact ⟨rfl, rfl⟩
  · rcases h0 with ⟨_, _, _, rfl⟩ | ⟨_, _, _, rfl⟩ <;> exact ⟨rfl, rfl⟩
/-! ### the model -/
structure Ms where
  su : Su
  T : List Tk
  passed : List Int
  seq : Int
  jobs : List Lv
  free : List Int
  mail : List (List Int)
  runs : List Int
  flags : List Bool
structure Mv where
  vt : AV
  vp : AV
  vj : AV
  vf : AV
  vm : AV
  vr : AV
  vg : AV
  bx : List AV
def bls (l : List Bool) : List (List AV) := l.map fun b => [B b]
theorem bls_len (l : List Bool) : (bls l).length = l.length := List.length_map ..
theorem bls_get {l : List Bool} {i : Nat} (h : i < l.length) : (bls l)[i]? = some [B l[i]] := by simp [bls, h]
theorem bls_set (l : List Bool) (i : Nat) (b : Bool) : (bls l).set i [B b] = bls (l.set i b) := by unfold bls; rw [List.map_set]
theorem ints_get? {l : List Int} {i : Nat} {n : Int} (h : l[i]? = some n) : (ints l)[i]? = some [I n] := by unfold ints; rw [List.getElem?_map, h]; rfl
theorem ints_set (l : List Int) (i : Nat) (n : Int) : (ints l).set i [I n] = ints (l.set i n) := by unfold ints; rw [List.map_set]
def Ms.row (s : Ms) (m : Mv) : List AV := s.su.cs m.vt ++ [m.vp, I s.seq, m.vj, m.vf, m.vm, m.vr, m.vg]
def boxO (b : AV) (l : List Int) : Own := .sl b 1 (ints l)
def ptrs (l : List AV) : List (List AV) := l.map fun b => [b]
def mOwn (x : Nat) (s : Ms) (m : Mv) : List Own := .obj x (.row (s.row m)) :: .sl m.vp 1 (ints s.passed) :: .sl m.vj 4 (lvs s.jobs) :: .sl m.vf 1 (ints s.free) :: .sl m.vm 1 (ptrs m.bx) :: .sl m.vr 1 (ints s.runs) :: .sl m.vg 1 (bls s.flags) :: List.zipWith boxO m.bx s.mail
structure Ms.Wf (s : Ms) : Prop where
  fine : s.su.fine
  chk : tchk s.T = 0
  pl : s.passed.length = s.T.length
  pb : ∀ p ∈ s.passed, -1 ≤ p ∧ p ≤ 1099511627776
  jl : (s.jobs.length : Int) = s.su.jobs
  jj : ∀ (i : Nat) x, s.jobs[i]? = some x → x.job = i
  kb : ∀ x ∈ s.jobs, 0 ≤ x.key ∧ x.key < 18374686479671623680
  fl : s.free.length ≤ s.jobs.length
  fb : ∀ i ∈ s.free, 0 ≤ i ∧ i < s.jobs.length
  ml : (s.mail.length : Int) = s.su.cores
  mb : ∀ l ∈ s.mail, (l.length : Int) ≤ s.su.room ∧ ∀ i ∈ l, 0 ≤ i ∧ i < s.jobs.length
  rl : (s.runs.length : Int) = s.su.cores
  rb : ∀ i ∈ s.runs, -1 ≤ i ∧ i < s.jobs.length
  gl : (s.flags.length : Int) = s.su.cores
  sq : 0 ≤ s.seq ∧ s.seq ≤ 1152921504606846976
theorem Ms.Wf.j64 {s : Ms} (h : s.Wf) : 1 ≤ s.jobs.length ∧ s.jobs.length ≤ 64 := by
  have := h.jl; have := h.fine; unfold Su.fine at this; omega
theorem Ms.Wf.c64 {s : Ms} (h : s.Wf) : 1 ≤ s.su.cores ∧ s.su.cores ≤ 64 := by
  have := h.fine; unfold Su.fine at this; omega
section
variable {B0 S : AH} {W : List Nat} {own R : List Own} {ro : List Fct} {Q : Post} {k : AV → AC} {v : AV} {x : Nat} {s : Ms} {m : Mv}
theorem wp_row {M : Mach} (H : Cx B0 W S own ro) (n : Nat) {id j : Nat} {c : List AV} {v : AV} (hm : own[n]? = some (.obj id (.row c))) (hj : c[j]? = some v) (h : wp M (k v) S Q) : wp M (.op (.load 1 false (.ptr id j)) k) S Q := wp_loado H n hm hj h
theorem wp_set1 {M : Mach} (H : Cx B0 W S own ro) (n : Nat) {id j : Nat} {c : List AV} {v : AV} (hm : own[n]? = some (.obj id (.row c))) (hj : j < c.length) (ho : odd v = false) (hc : v.cells = [v]) (h : ∀ S1, Cx B0 W S1 (own.set n (.obj id (.row (c.set j v)))) ro → wp M (k uv) S1 Q) :
    wp M (.op (.store 1 (.ptr id j) v) k) S Q :=
  wp_store H n hm ho (by rw [hc]; rfl) (by omega) fun S1 H1 => h S1 (by rw [hc, setRange_one hj] at H1; exact H1)
theorem wp_sidx {M : Mach} {κ : IntKind} {s : ByteArray} {i : Nat} {b : UInt8} (hi : i < s.size) (hb : s[i]? = some b) (h : wp M (k (Z .u8 (b.toNat : Int))) S Q) : wp M (.op (.sidx (.sc (.string s)) (Z κ (i : Int))) k) S Q := by
  refine wp_op (v := Z .u8 (b.toNat : Int)) ?_ h
  show pur (pSidx (.sc (.string s)) (Z κ (i : Int))) S = _
  have e : pSidx (.sc (.string s)) (Z κ (i : Int)) = some (Z .u8 (b.toNat : Int)) := by
    unfold pSidx
    have h1 : idx? (Z κ (i : Int)) s.size = some i := by
      show below i s.size = some i
      unfold below; rw [ble_t (by omega)]
    simp only [h1, hb]
  rw [e]; rfl
end
end Go.Abs
