/- Arguments of structs of numbers with one slice behind these are opened. Conditions: stated in each theorem. -/
import Derived.Test.YtlafihfoofnmaaaGreatAc
namespace Go.Abs
set_option linter.unusedSectionVars false
variable [Tok]
open Go.ChangeShapes Go.WideShapes
set_option linter.unusedVariables false
/-! ### arguments: structs of numbers, and one slice behind these -/
def isI64 (P : Program) (t : TypeId) : Bool := match P.underlying t with
  | some (.int .i64) => true
  | _ => false
theorem ints_all : ∀ {l : List Value}, (∀ v ∈ l, ∃ a, v = .int .i64 a ∧ IntKind.i64.has a) → ∃ ns : List Int, l = ns.map (Value.int .i64) ∧ ∀ a ∈ ns, IntKind.i64.has a
  | [], _ => ⟨[], rfl, by simp⟩
  | v :: l, h => by
    obtain ⟨a, rfl, ha⟩ := h v (by simp)
    obtain ⟨ns, rfl, hns⟩ := ints_all (l := l) fun w hw => h w (List.mem_cons_of_mem _ hw)
    exact ⟨a :: ns, rfl, fun b hb => by rcases List.mem_cons.1 hb with rfl | hb; exact ha; exact hns _ hb⟩
theorem open_aggS {H : Type} {enc : TypeId × Value → H} {P : Program} {W : World} {base : Nat} {t u e : TypeId} {d m n : Nat} {ks : List (Option IntKind)} {v : Value} {x : DataW H} {p : List MemPlace} {fs : Array Field} {f : Field} {ts : List TypeId}
    (hu : P.underlying t = some (.struct fs)) (hts : P.cellTypes P.depth t = some ts) (hn : ts.length = n + 1) (hint : ((ts.take n).all (isI64 P)) = true) (hsize : P.cellsOf t = n + 1)
    (hlast : ts[n]? = some u) (hfs : fs[m]? = some f) (hfo : f.offset = n) (hft : f.type = u) (hfc : P.cellsOf u = 1) (hue : P.underlying u = some (.slice e)) (hf : flatT P d e = some ks) (hs : sizeT P e = some ks.length)
    (hok : Value.okWide P W .any base t v) (h : DataW.Trod enc P W 0 (fun _ => true) true t v x p) :
    ∃ (ns : List Int) (w : Value), v = .agg ((ns.map (Value.int .i64)) ++ [w]).toArray ∧ ns.length = n ∧ (∀ a ∈ ns, IntKind.i64.has a) ∧ w.oneCell' = true ∧
      (w = .slice none 0 0 ∨ ∃ (b off len cap : Nat) (C : Nat → List Value), w = .slice (some ⟨b, off, none⟩) len cap ∧ len ≤ cap ∧ cap ≤ maxLen ∧ b < W.heap.size ∧
        ∀ i, i < cap → cellsK ks (C i) = true ∧ (∀ y ∈ C i, inR y = true) ∧ ∀ (j : Nat) y, (C i)[j]? = some y → W.cell? ⟨b, off + i * ks.length + j, none⟩ = some y) := by
  simp only [Value.okWide, hu] at hok
  obtain ⟨cs, rfl, hsz, ts', hts', _, hcell⟩ := hok
  rw [hts] at hts'
  cases hts'
  rw [hsize] at hsz
  obtain ⟨fuel, hr⟩ := h
  have hr : DataW.trod enc P W 0 (fun _ => true) true fuel t cs.toList = some (x, p) := hr
  have hcl : cs.toList.length = n + 1 := by simpa using hsz
  have hat : ∀ i (hi : i < n + 1), ∃ u', ts[i]? = some u' ∧ Cell.okWide P W .any base u' (cs.toList[i]'(by omega)) := by
    intro i hi
    obtain ⟨u', h1, h2⟩ := hcell i (cs.toList[i]'(by omega)) (by rw [← Array.getElem?_toList, List.getElem?_eq_getElem (by omega)])
    rw [hn, Nat.mod_eq_of_lt hi] at h1
    exact ⟨u', h1, h2⟩
  obtain ⟨ns, hns, hrg⟩ := ints_all (l := cs.toList.take n) fun v hv => by
    obtain ⟨i, hi, rfl⟩ := List.mem_iff_getElem.1 hv
    rw [List.length_take] at hi
    rw [List.getElem_take]
    obtain ⟨u', h1, h2⟩ := hat i (by omega)
    have h3 : isI64 P u' = true := by
      rw [List.all_eq_true] at hint
      refine hint u' (List.mem_of_getElem? (i := i) ?_)
      rw [List.getElem?_take, if_pos (by omega), h1]
    unfold isI64 at h3
    split at h3
    · next h4 =>
      generalize (cs.toList[i]'(by omega)) = x at h2 ⊢
      simp only [Cell.okWide, Cell.ok, h4] at h2
      cases x <;> simp at h2
      obtain ⟨rfl, hin⟩ := h2
      exact ⟨_, rfl, hin⟩
    · cases h3
  obtain ⟨u', h1, hokw⟩ := hat n (by omega)
  rw [hlast] at h1
  cases h1
  have hdrop : cs.toList.drop n = [cs.toList[n]'(by omega)] := by
    rw [List.drop_eq_getElem_cons (by omega), List.drop_of_length_le (by omega)]
  have hall : cs.toList = cs.toList.take n ++ [cs.toList[n]'(by omega)] := by
    rw [← hdrop, List.take_append_drop]
  have hlen : ns.length = n := by
    have := congrArg List.length hns
    rw [List.length_take, List.length_map] at this
    omega
  obtain ⟨xs, k, _, _, _, hxl, hfl⟩ := DataW.trod_struct hu hr
  have h5 := hfl m f hfs
  rw [hfo, hft, hfc, hdrop] at h5
  have hm : m < fs.size := (Array.getElem?_eq_some_iff.1 hfs).1
  rw [List.getElem?_eq_getElem (by omega)] at h5
  have h6 : DataW.trod enc P W 0 (fun _ => true) true k u [cs.toList[n]'(by omega)] = some (xs[m]'(by omega)) := h5
  refine ⟨ns, cs.toList[n]'(by omega), ?_, hlen, hrg, ?_⟩
  · rw [← hns, ← hall]
  · have hw : (cs.toList[n]'(by omega) = .slice none 0 0) ∨ ∃ a len cap, cs.toList[n]'(by omega) = .slice (some a) len cap := by
      rcases DataW.trod_slice hue h6 with ⟨h7, _⟩ | ⟨a, len, cap, _, _, _, _, h7, _⟩
      · exact .inl (by simpa using h7)
      · exact .inr ⟨a, len, cap, by simpa using h7⟩
    generalize cs.toList[n]'(by omega) = w at h6 hokw hw
    have hcells : w.cells.toList = [w] := by
      rcases hw with rfl | ⟨a, len, cap, rfl⟩ <;> rfl
    have hone : w.oneCell' = true := by
      rcases hw with rfl | ⟨a, len, cap, rfl⟩ <;> rfl
    have hok2 : Value.okWide P W .any base u w := by
      simp only [Value.okWide, hue]; exact hokw
    exact ⟨hone, open_flat hue hf hs hok2 ⟨k, by rw [hcells]; exact h6⟩⟩
theorem Open.aggS {P : Program} {W : World} {S : AH} {ρ : Ren} {a : AV} {w : Value} {as : List AV} {xs : List Value} (h : Open P W S ρ (a :: as) (w :: xs)) (hw : w.oneCell' = true) (ns : List Int) :
    Open P W S ρ (.agg (ns.map (fun n => AV.sc (.int .i64 n)) ++ [a]) :: as) (.agg ((ns.map (Value.int .i64)) ++ [w]).toArray :: xs) := by
  obtain ⟨h1, h2, h3⟩ := h
  cases h2 with
  | cons ha hr =>
    refine ⟨h1, .cons (.agg ?_ ?_) hr, h3⟩
    · induction ns with
      | nil => exact .cons ha .nil
      | cons n ns ih => exact .cons (.sc rfl) ih
    · intro v hv
      rcases List.mem_append.1 hv with hv | hv
      · obtain ⟨n, _, rfl⟩ := List.mem_map.1 hv; rfl
      · rw [List.mem_singleton.1 hv]; exact hw
end Go.Abs
namespace Go.Abs
set_option linter.unusedSectionVars false
variable [Tok]
open Go.ChangeShapes Go.WideShapes
set_option linter.unusedVariables false
def aggSB (P : Program) (t u n m : Nat) : Bool := match P.underlying t, P.cellTypes P.depth t with
  | some (.struct fs), some ts => decide (ts.length = n + 1) && (ts.take n).all (isI64 P) && decide (ts[n]? = some u) && (match fs[m]? with | some f => decide (f.offset = n) && decide (f.type = u) | none => false)
  | _, _ => false
theorem open_aggS2 {H : Type} {enc : TypeId × Value → H} {P : Program} {W : World} {base : Nat} {t u e : TypeId} {d m n : Nat} {ks : List (Option IntKind)} {v : Value} {x : DataW H} {p : List MemPlace}
    (hb : aggSB P t u n m = true) (hsize : P.cellsOf t = n + 1) (hfc : P.cellsOf u = 1) (hue : P.underlying u = some (.slice e)) (hf : flatT P d e = some ks) (hs : sizeT P e = some ks.length)
    (hok : Value.okWide P W .any base t v) (h : DataW.Trod enc P W 0 (fun _ => true) true t v x p) :
    ∃ (ns : List Int) (w : Value), v = .agg ((ns.map (Value.int .i64)) ++ [w]).toArray ∧ ns.length = n ∧ (∀ a ∈ ns, IntKind.i64.has a) ∧ w.oneCell' = true ∧
      (w = .slice none 0 0 ∨ ∃ (b off len cap : Nat) (C : Nat → List Value), w = .slice (some ⟨b, off, none⟩) len cap ∧ len ≤ cap ∧ cap ≤ maxLen ∧ b < W.heap.size ∧
        ∀ i, i < cap → cellsK ks (C i) = true ∧ (∀ y ∈ C i, inR y = true) ∧ ∀ (j : Nat) y, (C i)[j]? = some y → W.cell? ⟨b, off + i * ks.length + j, none⟩ = some y) := by
  unfold aggSB at hb
  split at hb
  · next fs ts hu hts =>
    simp only [Bool.and_eq_true, decide_eq_true_eq] at hb
    obtain ⟨⟨⟨h1, h2⟩, h3⟩, h4⟩ := hb
    split at h4
    · next f hfs =>
      simp only [Bool.and_eq_true, decide_eq_true_eq] at h4
      exact open_aggS hu hts h1 h2 hsize h3 hfs h4.1 h4.2 hfc hue hf hs hok h
    · cases h4
  · cases hb
theorem cons_of {n : Nat} {l : List Int} (h : l.length = n + 1) : ∃ a r, l = a :: r ∧ r.length = n := by
  cases l with
  | nil => simp at h
  | cons a r => exact ⟨a, r, rfl, by simpa using h⟩
theorem nil_of {l : List Int} (h : l.length = 0) : l = [] := List.eq_nil_of_length_eq_zero h
end Go.Abs
