/- Between rows of one's own (Kd.R) and the library's sort: what it asks of the row, what it leaves. -/
import Derived.Shelf.SlSortCmp.NoneTotal
import Derived.Test.YtjkhckbfkinheaaWKept
set_option linter.unusedVariables false
set_option linter.unusedSectionVars false
namespace Go.Proofs.YtjkhckbfkinheaaW.SortB
open Go.RowKit Go.Sort Go.Shelf Go.Proofs.YtjkhckbfkinheaaW.PrintWords

section
variable {α : Type} [Inhabited α] (enc : α → List Value) (k : Nat) (hk : ∀ x, (enc x).length = k)
include hk
theorem flatMap_len : ∀ xs : List α, (xs.flatMap enc).length = xs.length * k
  | [] => by simp
  | x :: r => by
    rw [List.flatMap_cons, List.length_append, hk, flatMap_len r, List.length_cons, Nat.add_mul, Nat.one_mul, Nat.add_comm]
variable {W : World} {g : Nat} {cur : Array Value} {e : TypeId} {xs : List α}
end

/-- Rows of flat elements: what an element's cells are is told by enc alone. -/
theorem reps_flat {α β : Type} (f : α → β) (enc : α → List Value) (k : Nat) (hk : ∀ x, (enc x).length = k) {R : β → List Value → Prop} (hR : ∀ x cs, R (f x) cs ↔ cs = enc x) : ∀ (xs : List α) (inner : List Value), Reps R k (xs.map f) inner ↔ inner = xs.flatMap enc
  | [], inner => by
    constructor
    · intro h
      have := h.1
      simp at this
      simp [this]
    · rintro rfl
      exact Reps.none _ _
  | x :: r, inner => by
    constructor
    · rintro ⟨hl, h⟩
      have h0 := (hR x _).1 (h 0 (f x) rfl)
      simp at h0
      have hr := (reps_flat f enc k hk hR r (inner.drop k)).1 ⟨by rw [List.length_drop, hl]; simp [Nat.add_mul], fun j p hp => by
        have := h (j + 1) p (by simpa using hp)
        rw [Nat.add_mul, Nat.one_mul, Nat.add_comm, ← List.drop_drop] at this
        exact this⟩
      rw [List.flatMap_cons, ← hr, ← h0, List.take_append_drop]
    · intro h
      subst h
      refine ⟨by rw [flatMap_len' enc k hk]; simp, fun j p hp => ?_⟩
      cases j with
      | zero =>
        simp at hp
        subst hp
        rw [hR]
        have := hk x
        simp [List.flatMap_cons, ← this]
      | succ j =>
        have hr := ((reps_flat f enc k hk hR r (r.flatMap enc)).2 rfl).2 j p (by simpa using hp)
        have e : List.drop k (enc x ++ List.flatMap enc r) = List.flatMap enc r := by
          rw [← hk x]
          simp
        rw [Nat.add_mul, Nat.one_mul, Nat.add_comm, ← List.drop_drop, List.flatMap_cons, e]
        exact hr
where
  flatMap_len' {α : Type} (enc : α → List Value) (k : Nat) (hk : ∀ x, (enc x).length = k) : ∀ xs : List α, (xs.flatMap enc).length = xs.length * k
  | [] => by simp
  | x :: r => by
    rw [List.flatMap_cons, List.length_append, hk, flatMap_len' enc k hk r, List.length_cons, Nat.add_mul, Nat.one_mul, Nat.add_comm]

end Go.Proofs.YtjkhckbfkinheaaW.SortB
