/- Between rows of one's own (Kd.R) and the library's sort: what it asks of the row, what it leaves. -/
import Derived.Shelf.SlSortCmp.NoneTotal
import Derived.Test.YtjkhckbfkinheaaWKept
set_option linter.unusedVariables false
set_option linter.unusedSectionVars false
namespace Go.Proofs.YtjkhckbfkinheaaW.SortB
open Go.RowKit Go.Sort Go.Shelf Go.Proofs.YtjkhckbfkinheaaW.PrintWords

section
variable {α : Type} [Inhabited α] (enc : α → List Value) (k : Nat) (hk : ∀ x, (enc x).length = k)
include hk
theorem flatMap_get : ∀ (xs : List α) (t : Nat), t < xs.length * k → (xs.flatMap enc)[t]? = some ((enc xs[t / k]!)[t % k]!)
  | [], t, h => by simp at h
  | x :: r, t, h => by
    have k0 : 0 < k := by
      rcases Nat.eq_zero_or_pos k with e | e
      · rw [e] at h; simp at h
      · exact e
    rw [List.flatMap_cons]
    by_cases ht : t < k
    · rw [List.getElem?_append_left (by rw [hk]; exact ht), Nat.div_eq_of_lt ht, Nat.mod_eq_of_lt ht]
      have hx : t < (enc x).length := by rw [hk]; exact ht
      simp [hx]
    · rw [List.getElem?_append_right (by rw [hk]; omega), hk]
      have h2 : t - k < r.length * k := by
        rw [List.length_cons, Nat.add_mul, Nat.one_mul] at h
        omega
      rw [flatMap_get r (t - k) h2]
      have e1 : t / k = (t - k) / k + 1 := by rw [← Nat.add_div_right _ k0, Nat.sub_add_cancel (by omega)]
      have e2 : (t - k) % k = t % k := by rw [← Nat.mod_eq_sub_mod (by omega)]
      rw [e1, e2]
      simp
theorem flatMap_len : ∀ xs : List α, (xs.flatMap enc).length = xs.length * k
  | [] => by simp
  | x :: r => by
    rw [List.flatMap_cons, List.length_append, hk, flatMap_len r, List.length_cons, Nat.add_mul, Nat.one_mul, Nat.add_comm]
theorem flatK_list (xs : List α) : (flatK enc k xs.toArray).toList = xs.flatMap enc := by
  apply List.ext_getElem?
  intro t
  by_cases ht : t < xs.length * k
  · rw [flatMap_get enc k hk xs t ht, Array.getElem?_toList]
    have hs : t < (flatK enc k xs.toArray).size := by simpa using ht
    rw [Array.getElem?_eq_getElem hs]
    have := get_flatK enc k xs.toArray t (by simpa using ht)
    rw [getElem!_pos _ t hs] at this
    rw [this]
    simp
  · rw [List.getElem?_eq_none (by simp; omega), List.getElem?_eq_none (by rw [flatMap_len enc k hk]; omega)]
variable {W : World} {g : Nat} {cur : Array Value} {e : TypeId} {xs : List α}
theorem holdsK_of_block (hb : W.heap[g]? = some (.cells cur e (0, 0))) (ht : cur.toList.take (xs.length * k) = xs.flatMap enc) : HoldsK enc k W g 0 xs.toArray := by
  intro j hj
  have hj' : j < xs.length * k := by simpa using hj
  refine ⟨?_, by simp [World.frozen?, hb]⟩
  have h1 : (cur.toList.take (xs.length * k))[j]? = (flatK enc k xs.toArray).toList[j]? := by rw [ht, flatK_list enc k hk]
  rw [List.getElem?_take_of_lt hj', Array.getElem?_toList, Array.getElem?_toList] at h1
  simp only [World.cell?, hb, Nat.zero_add, Option.isSome_none, Bool.false_eq_true, if_false]
  rw [h1, Array.getElem?_eq_getElem hj, getElem!_pos _ j hj]
  rfl
end
theorem take_put (cur F : Array Value) (h : F.size ≤ cur.size) : (putCells id 0 F cur).toList.take F.size = F.toList := by
  apply List.ext_getElem?
  intro j
  by_cases hj : j < F.size
  · rw [List.getElem?_take_of_lt hj, Array.getElem?_toList, Array.getElem?_toList]
    simp [putCells, hj, show j < cur.size by omega]
  · rw [List.getElem?_take_eq_none (by omega), List.getElem?_eq_none (by simpa using hj)]
section
variable {α : Type} [Inhabited α] {enc : α → List Value} {k : Nat} {W : World} {g n : Nat} {os : Array Obj} {cur : Array Value} {e : TypeId}
theorem heap_sorted (d : Array α) (hb : W.heap[g]? = some (.cells cur e (0, 0))) :
    (sortWorldK enc k W g 0 n d os).heap[g]? = some (.cells (putCells id 0 (flatK enc k d) cur) e (0, 0)) := by
  have hg : g < W.heap.size := (Array.getElem?_eq_some_iff.1 hb).1
  unfold sortWorldK
  rw [heap_grow_old _ _ (by simpa [putRowK] using hg)]
  simp [putRowK, putRow, mapBlock, Sort.ahead, Array.getElem?_modify, hb, onCells]
theorem grown_sorted (d : Array α) : W.grownBy (sortWorldK enc k W g 0 n d os) (some g) := by
  unfold sortWorldK
  refine ⟨rfl, rfl, rfl, by simp [putRowK], fun j hj hne => ?_⟩
  rw [heap_grow_old _ _ (by simpa [putRowK] using hj)]
  have : g ≠ j := fun e => hne (by rw [e])
  simp [putRowK, putRow, mapBlock, Sort.ahead, Array.getElem?_modify, this]
end

/-- Rows of flat elements: what an element's cells are is told by enc alone. -/
theorem reps_flat {α β : Type} (f : α → β) (enc : α → List Value) (k : Nat) (hk : ∀ x, (enc x).length = k) {R : β → List Value → Prop} (hR : ∀ x cs, R (f x) cs ↔ cs = enc x) : ∀ (xs : List α) (inner : List Value), Reps R k (xs.map f) inner ↔ inner = xs.flatMap enc
  | [], inner => by
    constructor
    · intro h
      have := h.1
      simp at this
      simp [this]
    · rintro rfl
      exact Reps.none _ _
  | x :: r, inner => by
    constructor
    · rintro ⟨hl, h⟩
      have h0 := (hR x _).1 (h 0 (f x) rfl)
      simp at h0
      have hr := (reps_flat f enc k hk hR r (inner.drop k)).1 ⟨by rw [List.length_drop, hl]; simp [Nat.add_mul], fun j p hp => by
        have := h (j + 1) p (by simpa using hp)
        rw [Nat.add_mul, Nat.one_mul, Nat.add_comm, ← List.drop_drop] at this
        exact this⟩
      rw [List.flatMap_cons, ← hr, ← h0, List.take_append_drop]
    · intro h
      subst h
      refine ⟨by rw [flatMap_len' enc k hk]; simp, fun j p hp => ?_⟩
      cases j with
      | zero =>
        simp at hp
        subst hp
        rw [hR]
        have := hk x
        simp [List.flatMap_cons, ← this]
      | succ j =>
        have hr := ((reps_flat f enc k hk hR r (r.flatMap enc)).2 rfl).2 j p (by simpa using hp)
        have e : List.drop k (enc x ++ List.flatMap enc r) = List.flatMap enc r := by
          rw [← hk x]
          simp
        rw [Nat.add_mul, Nat.one_mul, Nat.add_comm, ← List.drop_drop, List.flatMap_cons, e]
        exact hr
where
  flatMap_len' {α : Type} (enc : α → List Value) (k : Nat) (hk : ∀ x, (enc x).length = k) : ∀ xs : List α, (xs.flatMap enc).length = xs.length * k
  | [] => by simp
  | x :: r => by
    rw [List.flatMap_cons, List.length_append, hk, flatMap_len' enc k hk r, List.length_cons, Nat.add_mul, Nat.one_mul, Nat.add_comm]

/-- A row of one's own that is sorted: the row's shape, what it holds, what the sorted world says of it. -/
theorem sort_row {α β : Type} [Inhabited α] (f : α → β) (enc : α → List Value) {d : Kd β} (hk : ∀ x, (enc x).length = d.sz) (hM : ∀ w base ok x cs, d.M w base ok (f x) cs ↔ cs = enc x)
    {e base : Nat} {W : World} {P_ : Nat → Prop} {u : Value} {xs : List α} (h : d.R e W base P_ u (xs.map f)) (hne : xs ≠ []) :
    ∃ g cap, u = .slice (some ⟨g, 0, none⟩) xs.length cap ∧ base ≤ g ∧ P_ g ∧ g < W.heap.size ∧ HoldsK enc d.sz W g 0 xs.toArray ∧
      ∀ n os (ys : List α), ys.length = xs.length → d.R e (sortWorldK enc d.sz W g 0 n ys.toArray os) base (fun k_ => P_ k_ ∨ W.heap.size ≤ k_) u (ys.map f) := by
  obtain ⟨h0, inner, ho, hr⟩ := h
  rw [List.length_map] at ho
  have hi := (reps_flat f enc d.sz hk (hM W base _) xs inner).1 hr
  obtain ⟨hlen, ho2⟩ := ho
  rcases ho2 with ⟨_, hn⟩ | ⟨g, cap, cur, rfl, hg, hb, hc, hm, hs, ht⟩
  · exact absurd (List.eq_nil_of_length_eq_zero hn) hne
  refine ⟨g, cap, rfl, hg, h0 g (by simp [Value.ownBlock]), (Array.getElem?_eq_some_iff.1 hb).1, holdsK_of_block enc d.sz hk hb (by rw [ht, hi]), fun n os ys hy => ?_⟩
  refine ⟨fun k hk' => .inl (h0 k hk'), ys.flatMap enc, ⟨by rw [flatMap_len enc d.sz hk, List.length_map], .inr ⟨g, cap, _, by rw [List.length_map, hy], hg, heap_sorted ys.toArray hb, by rw [List.length_map, hy]; exact hc, hm, by simp [putCells, hs], ?_⟩⟩, (reps_flat f enc d.sz hk (hM _ base _) ys _).2 rfl⟩
  have e1 := take_put cur (flatK enc d.sz ys.toArray) (by rw [size_flatK, hs]; simp; rw [hy]; exact Nat.mul_le_mul_right _ hc)
  rw [flatK_list enc d.sz hk] at e1
  rw [List.length_map, ← e1]
  congr 1
  simp
end Go.Proofs.YtjkhckbfkinheaaW.SortB
