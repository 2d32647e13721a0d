/- slices.SortFunc at News, by destination: a row of one's own comes back sorted. -/
import Derived.Test.YtjkhckbfkinheaaSortB
import Derived.Test.YtjkhckbfkinheaaShelf
import Derived.Shelf.SlSortCmp.NoneTotal
import Derived.Test.YtjkhckbfkinheaaGAax0
set_option linter.unusedVariables false
set_option linter.unusedSimpArgs false
namespace Go.Proofs.Ytjkhckbfkinheaa.GAa
open Go Go.RowKit Go.Shelf Go.Sort Go.Proofs.YtjkhckbfkinheaaW.PrintWords Go.Proofs.YtjkhckbfkinheaaW.PrintLast Go.Proofs.YtjkhckbfkinheaaW.PrintMore
open Go.Proofs.YtjkhckbfkinheaaW

def encNw (x : S56) : List Value := [.int .i64 x.f0, .int .i64 x.f1, .float .f64 x.f2, .float .f64 x.f3, .int .i64 x.f4]
def leN (x y : S56) : Bool := decide (x.f0 ≤ y.f0)
def NearN (l : List S56) : Prop := l.length < 2305843009213693952 ∧ (∀ x ∈ l, 0 ≤ x.f0 ∧ x.f0 < 4611686018427387904) ∧ ∀ x ∈ l, ∀ y ∈ l, x.f0 = y.f0 → x = y
open Classical in
noncomputable def sort_News.f (l : List S56) (c : Nat) : Option (List S56) := if (c = 58 ∨ c = 66) ∧ NearN l then some (l.mergeSort leN) else none

theorem byDest (g : Nat) (hg : g = 58 ∨ g = 66) (x y : S56) (W : World) :
    Calls Try.prog g #[.agg (encNw x).toArray, .agg (encNw y).toArray] W fun e w' => e = .returned (.int .i64 (wrap64 (x.f0 - y.f0))) ∧ ∃ q os', w' = grow (W.drewN q) os' := by
  unfold encNw
  rcases hg with rfl | rfl
  · go_enter Try.func58, Try.ntmps58
    go_wp2
    go_ret
    exact ⟨rfl, 0, _, by rw [alloc_eq_grow, alloc_eq_grow, grow_grow]; rfl⟩
  · go_enter Try.func66, Try.ntmps66
    go_wp2
    go_ret
    exact ⟨rfl, 0, _, by rw [alloc_eq_grow, alloc_eq_grow, grow_grow]; rfl⟩

theorem entersN (g : Nat) (hg : g = 58 ∨ g = 66) (args : Array Value) (w : World) : (callFunc g args).run Try.prog w = .ok (.enter g args) w := by
  rcases hg with rfl | rfl
  · exact enters_of Try.func58 (by kernel_rfl) rfl args w
  · exact enters_of Try.func66 (by kernel_rfl) rfl args w
section
variable {l : List S56}
def cfN (x y : { x // x ∈ l }) : Int := wrap64 (x.1.f0 - y.1.f0)
theorem ltN (h : NearN l) (x y : { x // x ∈ l }) : ltOf cfN x y = decide (x.1.f0 < y.1.f0) := by
  have h1 := h.2.1 x.1 x.2
  have h2 := h.2.1 y.1 y.2
  have e : cfN x y = x.1.f0 - y.1.f0 := by
    unfold cfN wrap64
    omega
  unfold ltOf
  rw [e]
  by_cases c : x.1.f0 < y.1.f0
  · simp [c]; omega
  · simp [c]; omega
end
theorem slice_none {w : World} {base : Nat} {P_ : Nat → Prop} {u : Value} (h : Kd.R k56 56 w base P_ u []) : ∃ p cap, u = .slice p 0 cap := by
  obtain ⟨_, inner, ho, _⟩ := h
  obtain ⟨_, ho2⟩ := ho
  rcases ho2 with ⟨hv, _⟩ | ⟨g, cap, cur, hv, _⟩
  · exact ⟨none, 0, hv⟩
  · exact ⟨_, cap, hv⟩
theorem sort_News.calls (P0_ : Nat → Prop) (u9000_ : Value) (l0 : List S56) (a1 : Nat) (r : List S56) (w0 w : World) (hB : Below w0.heap.size w0 w) (ho0 : Kd.R k56 56 w w0.heap.size P0_ u9000_ l0) (h : sort_News.f l0 a1 = some r) :
    Calls Try.prog 57 #[u9000_, .func (.func a1) #[] #[]] w fun e w' => e = .returned (.tuple #[]) ∧ Kd.R k56 56 w' w0.heap.size (fun k_ => (P0_ k_ ∨ w.heap.size ≤ k_)) u9000_ r ∧ Below w0.heap.size w0 w' ∧ Kept w w' (fun k_ => P0_ k_) := by
  unfold sort_News.f at h
  split at h
  case isFalse => cases h
  rename_i hc
  obtain ⟨hg, hn⟩ := hc
  obtain rfl := Option.some.inj h
  by_cases hl : l0 = []
  · subst hl
    obtain ⟨p, cap, rfl⟩ := slice_none ho0
    have hs := AnyF.slices_SortFunc_none Try.sortN p cap (.func (.func a1) #[] #[]) w
    refine hs.mono ?_
    rintro e w' ⟨rfl, rfl⟩
    refine ⟨rfl, ?_, hB, Kept.refl _ _⟩
    have e1 : ([] : List S56).mergeSort leN = [] := by simp
    rw [e1]
    exact Kd.R_mono ho0 (fun k hk => .inl hk)
  · have hne : l0.attach ≠ [] := by
      intro e
      apply hl
      have := congrArg (List.map Subtype.val) e
      simpa using this
    obtain ⟨x0, hx0⟩ := List.exists_mem_of_ne_nil _ hl
    haveI : Inhabited { x // x ∈ l0 } := ⟨⟨x0, hx0⟩⟩
    have ho1 : Kd.R k56 56 w w0.heap.size P0_ u9000_ (l0.attach.map Subtype.val) := by
      rw [List.attach_map_subtype_val]
      exact ho0
    obtain ⟨g, cap, rfl, hgb, hPg, hglt, hH, hres⟩ := Go.Proofs.YtjkhckbfkinheaaW.SortB.sort_row (Subtype.val : { x // x ∈ l0 } → S56) (fun x => encNw x.1) (fun _ => rfl) (fun w base ok x cs => ⟨fun h => k56_openM h, fun h => by subst h; exact k56_mkM _ _ _ x.1⟩) ho1 hne
    have hlt : ∀ x y, ltOf (cfN (l := l0)) x y = decide (x.1.f0 < y.1.f0) := ltN hn
    have hO : SWO (ltOf (cfN (l := l0))) := ⟨fun x => by rw [hlt]; simp, fun x y z h1 h2 => by
      rw [hlt] at h1 h2 ⊢
      have := of_decide_eq_true h1
      have := of_decide_eq_true h2
      exact decide_eq_true (by omega), fun x y z h1 h2 => by
      rw [hlt] at h1 h2 ⊢
      have := of_decide_eq_false h1
      have := of_decide_eq_false h2
      exact decide_eq_false (by omega)⟩
    have hT : ∀ x y, (ltOf (cfN (l := l0))) x y = false → (ltOf (cfN (l := l0))) y x = false → x = y := fun x y h1 h2 => by
      rw [hlt] at h1 h2
      have := of_decide_eq_false h1
      have := of_decide_eq_false h2
      exact Subtype.ext (hn.2.2 x.1 x.2 y.1 y.2 (by omega))
    have hsz : l0.attach.toArray.size = l0.attach.length := by simp
    have hs := AnyQ.slices_SortFunc_total Try.sortN 5 (fun w => Try.isAgg56 w) (fun w => Try.sizeOf56 w) (fun x : { x // x ∈ l0 } => encNw x.1) (fun _ => rfl) (fun x v hv => by
        simp only [encNw, List.mem_cons, List.not_mem_nil, or_false] at hv
        rcases hv with rfl | rfl | rfl | rfl | rfl <;> rfl) (cfN (l := l0)) hO a1 #[] g 0 cap l0.attach.toArray w
      (entersN a1 hg) (fun m os dk hdk x y => by
        simpa [cfN] using byDest a1 hg x.1 y.1 _) hH hglt (by have := hn.1; simpa using (by omega : l0.length < 4611686018427387904)) hT
    rw [hsz] at hs
    refine hs.mono ?_
    rintro e w' ⟨rfl, n, os, rfl⟩
    have e1 : ((l0.attach.toArray.toList.mergeSort fun x y => !(ltOf (cfN (l := l0))) y x)).map Subtype.val = l0.mergeSort leN := by
      rw [List.map_mergeSort (s := leN) (fun a _ b _ => by rw [hlt]; unfold leN; by_cases c : b.1.f0 < a.1.f0 <;> simp [c] <;> omega)]
      simp
    have hr := hres n os (l0.attach.toArray.toList.mergeSort fun x y => !(ltOf (cfN (l := l0))) y x) (by simp)
    rw [e1] at hr
    have hgr := SortB.grown_sorted (enc := fun x : { x // x ∈ l0 } => encNw x.1) (k := 5) (W := w) (g := g) (n := n) (os := os) (l0.attach.toArray.toList.mergeSort fun x y => !(ltOf (cfN (l := l0))) y x).toArray
    exact ⟨rfl, hr, pw_below_grown hB (some g) hB.size hgr (fun k hk => by obtain rfl := Option.some.inj hk; exact hgb), (Kept.refl w _).of_grown hgr (fun k hk => by obtain rfl := Option.some.inj hk; exact .inl hPg)⟩
end Go.Proofs.Ytjkhckbfkinheaa.GAa
