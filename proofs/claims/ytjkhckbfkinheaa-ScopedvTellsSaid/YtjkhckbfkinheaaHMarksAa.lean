/- landdv.Marks: a map by destination, then its keys in order. -/
import Derived.Test.YtjkhckbfkinheaaIMap
import Derived.Test.YtjkhckbfkinheaaSortB
import Derived.Test.YtjkhckbfkinheaaShelf
import Derived.Test.YtjkhckbfkinheaaHDiffAa
import Derived.LoopTactic
import Derived.Deep.RegionWith
import Derived.Shelf.Abstract
import Derived.Shelf.RegionOpenPlain
import Derived.Test.YtjkhckbfkinheaaGAax10
import Derived.Test.YtjkhckbfkinheaaGAax12
import Derived.Test.YtjkhckbfkinheaaGAax13
set_option linter.unusedVariables false
set_option linter.unusedSimpArgs false
namespace Go.Proofs.Ytjkhckbfkinheaa.GAa
open Go Go.RowKit Go.Shelf Go.Proofs.YtjkhckbfkinheaaW.PrintWords Go.Proofs.YtjkhckbfkinheaaW.PrintLast Go.Proofs.YtjkhckbfkinheaaW.PrintMore
open Go.Proofs.YtjkhckbfkinheaaW
attribute [local go_sem high] binOp_flss binOp_fgtr binOp_fleq binOp_fgeq binOp_feql binOp_fneq

/-- What a function with fuel comes to. -/
noncomputable def evf {α : Type} (f : Nat → Option α) : Option α := open Classical in if h : ∃ r, ∃ k, f k = some r then some (Classical.choose h) else none
theorem evf_some {α : Type} {f : Nat → Option α} {r : α} (h : evf f = some r) : ∃ k, f k = some r := by
  unfold evf at h
  split at h
  · rename_i hx
    obtain rfl := Option.some.inj h
    exact Classical.choose_spec hx
  · cases h

def encE (x : S58) : Value := .agg #[.int .i64 x.f0, .int .i64 x.f1, .float .f64 x.f2, .int .i64 x.f3, .float .f64 x.f4, .int .i64 x.f5]
def decL : List Value → Option S58
  | [.int .i64 a, .int .i64 b, .float .f64 c, .int .i64 d, .float .f64 e, .int .i64 f] => some ⟨a, b, c, d, e, f⟩
  | _ => none
def decE : Value → Option S58
  | .agg cs => decL cs.toList
  | _ => none
theorem decE_enc (x : S58) : decE (encE x) = some x := rfl
theorem decL_is (l : List Value) (x : S58) (h : decL l = some x) : l = [.int .i64 x.f0, .int .i64 x.f1, .float .f64 x.f2, .int .i64 x.f3, .float .f64 x.f4, .int .i64 x.f5] := by
  unfold decL at h
  split at h
  · obtain rfl := Option.some.inj h
    rfl
  · cases h
theorem encE_dec (v : Value) (x : S58) (h : decE v = some x) : v = encE x := by
  cases v with
  | agg cs =>
    have := decL_is cs.toList x h
    unfold encE
    rw [← this]
  | _ => cases h
theorem Hid.mk_ {p : Prop} (h : p) : Hid p := h
theorem get_at {α : Type} : ∀ {m : List (Int × α)} (_ : m.Pairwise (fun p q => p.1 < q.1)) (i : Nat) (hi : i < m.length), IMap.get m (m[i]).1 = some (m[i]).2
  | [], _, i, hi => by simp at hi
  | p :: r, hm, i, hi => by
    rw [List.pairwise_cons] at hm
    cases i with
    | zero => simp [IMap.get]
    | succ i =>
      have hi' : i < r.length := by simpa using hi
      have hne : ¬ p.1 = (r[i]).1 := fun e => by
        have := hm.1 _ (List.getElem_mem hi')
        omega
      have ih := get_at hm.2 i hi'
      unfold IMap.get at ih ⊢
      rw [List.find?_cons]
      simpa [hne] using ih
def encEl (x : S58) : List Value := [.int .i64 x.f0, .int .i64 x.f1, .float .f64 x.f2, .int .i64 x.f3, .float .f64 x.f4, .int .i64 x.f5]
theorem einfo : ∃ i, Try.prog.info? 58 = some i ∧ i.zero = some (.agg #[(.int .i64 0), (.int .i64 0), (.float .f64 0), (.int .i64 0), (.float .f64 0), (.int .i64 0)]) ∧ i.size = 6 ∧ i.bytes = 48 := by
  obtain ⟨i, h1, h2, h3, h4⟩ := info_parts info58
  exact ⟨i, h1, h2, h3, h4⟩
theorem own_ne_map {W : World} {base e size n b : Nat} {v : Value} {xs : List Value} (h : W.ownsRow base e size v n xs) {es : _} {cl : _} (hb : W.heap[b]? = some (.map es cl)) : some b ≠ v.ownBlock := by
  intro e'
  obtain ⟨cells, hc⟩ := own_typed h b e'.symm
  rw [hb] at hc
  cases hc
theorem Own_heap {P : Program} {k : TypeId} {dec : Value → Option S58} {w : World} {b n : Nat} {m : List (Int × S58)} (h : IMap.Own P k dec w b n m) : ∃ es cl, w.heap[b]? = some (.map es cl) := by
  obtain ⟨es, clock, hb, _⟩ := h
  exact ⟨es, clock, hb⟩

end Go.Proofs.Ytjkhckbfkinheaa.GAa
