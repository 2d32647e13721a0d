/- slices.SortFunc at Entry, by scopedv's order (kind, then destination): a row of one's own comes back sorted. -/
import Derived.Test.YtjkhckbfkinheaaSortB
import Derived.Test.YtjkhckbfkinheaaShelf
import Derived.Shelf.SlSortCmp.NoneTotal
import Derived.Test.YtjkhckbfkinheaaGAax0
set_option linter.unusedVariables false
set_option linter.unusedSimpArgs false
namespace Go.Proofs.Ytjkhckbfkinheaa.GAa
open Go Go.RowKit Go.Shelf Go.Sort Go.Proofs.YtjkhckbfkinheaaW.PrintWords Go.Proofs.YtjkhckbfkinheaaW.PrintLast Go.Proofs.YtjkhckbfkinheaaW.PrintMore
open Go.Proofs.YtjkhckbfkinheaaW

def encEw (x : S58) : List Value := [.int .i64 x.f0, .int .i64 x.f1, .float .f64 x.f2, .int .i64 x.f3, .float .f64 x.f4, .int .i64 x.f5]
def leE (x y : S58) : Bool := decide (x.f1 < y.f1 ∨ x.f1 = y.f1 ∧ x.f0 ≤ y.f0)
def NearE (l : List S58) : Prop := l.length < 2305843009213693952 ∧ (∀ x ∈ l, 0 ≤ x.f0 ∧ x.f0 < 4611686018427387904 ∧ 0 ≤ x.f1 ∧ x.f1 < 4611686018427387904) ∧ ∀ x ∈ l, ∀ y ∈ l, x.f1 = y.f1 → x.f0 = y.f0 → x = y
open Classical in
noncomputable def sort_Entry.f (l : List S58) (c : Nat) : Option (List S58) := if c = 35 ∧ NearE l then some (l.mergeSort leE) else none

def ordE (x y : S58) : Int := if x.f1 = y.f1 then wrap64 (x.f0 - y.f0) else wrap64 (x.f1 - y.f1)
theorem byOrder (x y : S58) (W : World) :
    Calls Try.prog 35 #[.agg (encEw x).toArray, .agg (encEw y).toArray] W fun e w' => e = .returned (.int .i64 (ordE x y)) ∧ ∃ q os', w' = grow (W.drewN q) os' := by
  unfold encEw ordE
  by_cases c : x.f1 = y.f1
  · rw [if_pos c]
    have c0 : (x.f1 == y.f1) = true := beq_iff_eq.mpr c
    have c1 : (x.f1 != y.f1) = false := bne_eq_false_iff_eq.mpr c
    clear c
    go_enter Try.func35, Try.ntmps35
    go_wp2
    go_ret
    exact ⟨rfl, 0, _, by rw [alloc_eq_grow, alloc_eq_grow, grow_grow]; rfl⟩
  · rw [if_neg c]
    have c0 : (x.f1 == y.f1) = false := beq_eq_false_iff_ne.mpr c
    have c1 : (x.f1 != y.f1) = true := bne_iff_ne.mpr c
    clear c
    go_enter Try.func35, Try.ntmps35
    go_wp2
    go_ret
    exact ⟨rfl, 0, _, by rw [alloc_eq_grow, alloc_eq_grow, grow_grow]; rfl⟩
theorem entersE (args : Array Value) (w : World) : (callFunc 35 args).run Try.prog w = .ok (.enter 35 args) w := enters_of Try.func35 (by kernel_rfl) rfl args w
section
variable {l : List S58}
def cfE (x y : { x // x ∈ l }) : Int := ordE x.1 y.1
theorem ltE (h : NearE l) (x y : { x // x ∈ l }) : ltOf cfE x y = decide (x.1.f1 < y.1.f1 ∨ x.1.f1 = y.1.f1 ∧ x.1.f0 < y.1.f0) := by
  have h1 := h.2.1 x.1 x.2
  have h2 := h.2.1 y.1 y.2
  unfold ltOf cfE ordE
  by_cases c : x.1.f1 = y.1.f1
  · rw [if_pos c]
    have e : wrap64 (x.1.f0 - y.1.f0) = x.1.f0 - y.1.f0 := by
      unfold wrap64
      omega
    rw [e]
    by_cases d : x.1.f0 < y.1.f0
    · rw [decide_eq_true (by omega), decide_eq_true (.inr ⟨c, d⟩)]
    · rw [decide_eq_false (by omega), decide_eq_false (by omega)]
  · rw [if_neg c]
    have e : wrap64 (x.1.f1 - y.1.f1) = x.1.f1 - y.1.f1 := by
      unfold wrap64
      omega
    rw [e]
    by_cases d : x.1.f1 < y.1.f1
    · rw [decide_eq_true (by omega), decide_eq_true (.inl d)]
    · rw [decide_eq_false (by omega), decide_eq_false (by omega)]
end
theorem entry_none {w : World} {base : Nat} {P_ : Nat → Prop} {u : Value} (h : Kd.R k58 58 w base P_ u []) : ∃ p cap, u = .slice p 0 cap := by
  obtain ⟨_, inner, ho, _⟩ := h
  obtain ⟨_, ho2⟩ := ho
  rcases ho2 with ⟨hv, _⟩ | ⟨g, cap, cur, hv, _⟩
  · exact ⟨none, 0, hv⟩
  · exact ⟨_, cap, hv⟩
theorem sort_Entry.calls (P0_ : Nat → Prop) (u9000_ : Value) (l0 : List S58) (a1 : Nat) (r : List S58) (w0 w : World) (hB : Below w0.heap.size w0 w) (ho0 : Kd.R k58 58 w w0.heap.size P0_ u9000_ l0) (h : sort_Entry.f l0 a1 = some r) :
    Calls Try.prog 34 #[u9000_, .func (.func a1) #[] #[]] w fun e w' => e = .returned (.tuple #[]) ∧ Kd.R k58 58 w' w0.heap.size (fun k_ => (P0_ k_ ∨ w.heap.size ≤ k_)) u9000_ r ∧ Below w0.heap.size w0 w' ∧ Kept w w' (fun k_ => P0_ k_) := by
  unfold sort_Entry.f at h
  split at h
  case isFalse => cases h
  rename_i hc
  obtain ⟨rfl, hn⟩ := hc
  obtain rfl := Option.some.inj h
  by_cases hl : l0 = []
  · subst hl
    obtain ⟨p, cap, rfl⟩ := entry_none ho0
    have hs := AnyF.slices_SortFunc_none Try.sortE p cap (.func (.func 35) #[] #[]) w
    refine hs.mono ?_
    rintro e w' ⟨rfl, rfl⟩
    refine ⟨rfl, ?_, hB, Kept.refl _ _⟩
    have e1 : ([] : List S58).mergeSort leE = [] := by simp
    rw [e1]
    exact Kd.R_mono ho0 (fun k hk => .inl hk)
  · have hne : l0.attach ≠ [] := by
      intro e
      apply hl
      have := congrArg (List.map Subtype.val) e
      simpa using this
    obtain ⟨x0, hx0⟩ := List.exists_mem_of_ne_nil _ hl
    haveI : Inhabited { x // x ∈ l0 } := ⟨⟨x0, hx0⟩⟩
    have ho1 : Kd.R k58 58 w w0.heap.size P0_ u9000_ (l0.attach.map Subtype.val) := by
      rw [List.attach_map_subtype_val]
      exact ho0
    obtain ⟨g, cap, rfl, hgb, hPg, hglt, hH, hres⟩ := Go.Proofs.YtjkhckbfkinheaaW.SortB.sort_row (Subtype.val : { x // x ∈ l0 } → S58) (fun x => encEw x.1) (fun _ => rfl) (fun w base ok x cs => ⟨fun h => k58_openM h, fun h => by subst h; exact k58_mkM _ _ _ x.1⟩) ho1 hne
    have hlt : ∀ x y, ltOf (cfE (l := l0)) x y = decide (x.1.f1 < y.1.f1 ∨ x.1.f1 = y.1.f1 ∧ x.1.f0 < y.1.f0) := ltE hn
    have hO : SWO (ltOf (cfE (l := l0))) := ⟨fun x => by rw [hlt]; simp, fun x y z h1 h2 => by
      rw [hlt] at h1 h2 ⊢
      have := of_decide_eq_true h1
      have := of_decide_eq_true h2
      exact decide_eq_true (by omega), fun x y z h1 h2 => by
      rw [hlt] at h1 h2 ⊢
      have := of_decide_eq_false h1
      have := of_decide_eq_false h2
      exact decide_eq_false (by omega)⟩
    have hT : ∀ x y, (ltOf (cfE (l := l0))) x y = false → (ltOf (cfE (l := l0))) y x = false → x = y := fun x y h1 h2 => by
      rw [hlt] at h1 h2
      have := of_decide_eq_false h1
      have := of_decide_eq_false h2
      exact Subtype.ext (hn.2.2 x.1 x.2 y.1 y.2 (by omega) (by omega))
    have hsz : l0.attach.toArray.size = l0.attach.length := by simp
    have hs := AnyQ.slices_SortFunc_total Try.sortE 6 (fun w => Try.isAgg58 w) (fun w => Try.sizeOf58 w) (fun x : { x // x ∈ l0 } => encEw x.1) (fun _ => rfl) (fun x v hv => by
        simp only [encEw, List.mem_cons, List.not_mem_nil, or_false] at hv
        rcases hv with rfl | rfl | rfl | rfl | rfl | rfl <;> rfl) (cfE (l := l0)) hO 35 #[] g 0 cap l0.attach.toArray w
      entersE (fun m os dk hdk x y => by
        simpa [cfE] using byOrder x.1 y.1 _) hH hglt (by have := hn.1; simpa using (by omega : l0.length < 4611686018427387904)) hT
    rw [hsz] at hs
    refine hs.mono ?_
    rintro e w' ⟨rfl, n, os, rfl⟩
    have e1 : ((l0.attach.toArray.toList.mergeSort fun x y => !(ltOf (cfE (l := l0))) y x)).map Subtype.val = l0.mergeSort leE := by
      rw [List.map_mergeSort (s := leE) (fun a _ b _ => by
        rw [hlt]
        unfold leE
        by_cases c : b.1.f1 < a.1.f1 ∨ b.1.f1 = a.1.f1 ∧ b.1.f0 < a.1.f0
        · rw [decide_eq_true c, decide_eq_false (by omega)]
          rfl
        · rw [decide_eq_false c, decide_eq_true (by omega)]
          rfl)]
      simp
    have hr := hres n os (l0.attach.toArray.toList.mergeSort fun x y => !(ltOf (cfE (l := l0))) y x) (by simp)
    rw [e1] at hr
    have hgr := SortB.grown_sorted (enc := fun x : { x // x ∈ l0 } => encEw x.1) (k := 6) (W := w) (g := g) (n := n) (os := os) (l0.attach.toArray.toList.mergeSort fun x y => !(ltOf (cfE (l := l0))) y x).toArray
    exact ⟨rfl, hr, pw_below_grown hB (some g) hB.size hgr (fun k hk => by obtain rfl := Option.some.inj hk; exact hgb), (Kept.refl w _).of_grown hgr (fun k hk => by obtain rfl := Option.some.inj hk; exact .inl hPg)⟩
end Go.Proofs.Ytjkhckbfkinheaa.GAa
