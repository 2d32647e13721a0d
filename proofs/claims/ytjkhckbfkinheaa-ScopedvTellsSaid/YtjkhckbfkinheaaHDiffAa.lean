/- delta.diff with nothing to come to: a range over a function whose iterator keeps its state in two captured variables. -/
import Derived.RangeFuncNested
import Derived.RangeFuncBound
import Derived.RangeFuncCalls
import Derived.RangeFuncLeaves
import Derived.Shelf.Abstract
import Derived.Shelf.RegionOpen
import Derived.WalkKit
import Derived.OwnWalkIn
import Derived.TacticsInMore
import Derived.LoopNIn
import Derived.LoopIn
import Derived.Maps.AppendAt
import Derived.Test.YtjkhckbfkinheaaSortB
import Derived.Test.YtjkhckbfkinheaaGAax10
set_option linter.unusedVariables false
set_option linter.unusedSimpArgs false
namespace Go.Proofs.Ytjkhckbfkinheaa.GAa
open Go Go.RowKit Go.Shelf Go.Proofs.YtjkhckbfkinheaaW.PrintWords Go.Proofs.YtjkhckbfkinheaaW.PrintLast Go.Proofs.YtjkhckbfkinheaaW.PrintMore
attribute [local go_sem] Oper.semAt_some

theorem pinfo : ∃ i, Try.prog.info? 56 = some i ∧ i.zero = some (.agg #[(.int .i64 0), (.int .i64 0), (.float .f64 0), (.float .f64 0), (.int .i64 0)]) ∧ i.size = 5 ∧ i.bytes = 40 := by
  obtain ⟨i, h1, h2, h3, h4⟩ := info_parts info56
  exact ⟨i, h1, h2, h3, h4⟩
theorem cut_one (A : Option Addr) (n c : Nat) (hn : 1 ≤ n) (W : World) : (Instr.slice 35 (.slice A n c) (some (.int .i64 1)) none none).run Try.prog W = .ok (.slice (if c = 1 then A else A.map (·.add (1 * 5))) (n - 1) (c - 1)) W := by
  obtain ⟨i, h1, h2, h3, h4⟩ := pinfo
  exact cut_from (P := Try.prog) 35 56 .i64 (by kernel_rfl) h1 5 h3 A n c 1 (by omega) (by omega) W

/-- How long the slice in a box is. -/
def leftIn (W : World) (B : Nat) : Nat := match W.cell? ⟨B, 0, none⟩ with | some (.slice _ m _) => m | _ => 0
theorem leftIn_eq {W : World} {B t m c : Nat} {A : Option Addr} (h : Boxed W B t (.slice A m c)) : leftIn W B = m := by
  unfold leftIn
  rw [h.cell]
set_option maxRecDepth 100000 in
set_option maxHeartbeats 4000000 in
/-- **The iterator of both(a, nil)**: it hands out each element's address, and nil. -/
theorem both1_in (n : Nat) (hn : 1 ≤ n) (l n₀ Ba Bb : Nat) (hn₀ : n₀ ≤ Ba) (hne : Ba ≠ Bb) (xs : List S56) (J : Nat → World → Prop) (A1 : Option Addr) (c1 : Nat)
    (hJset : ∀ i W v, J i W → J i (W.setCell ⟨Ba, 0, none⟩ v)) (hJdrew : ∀ i W m, J i W → J i (W.drewN m))
    (hY : ∀ i ad W, J i W → (hi : i < xs.length) → W.cell? ad = some (.int .i64 (xs[i]).f0) → W.cell? ⟨ad.block, ad.off + 1, none⟩ = some (.int .i64 (xs[i]).f1) → YieldAt Fence.wide (n - 1) Try.prog l #[.pointer (some ad), .pointer none] W fun e W' =>
      e = .returned (.bool true) ∧ J (i + 1) W' ∧ Below n₀ W W' ∧ W'.heap[Ba]? = W.heap[Ba]? ∧ W'.heap[Bb]? = W.heap[Bb]?)
    (W : World) (Aa : Option Addr) (ca : Nat) (hca : xs.length ≤ ca) (bA : Boxed W Ba 35 (.slice Aa xs.length ca)) (bB : Boxed W Bb 35 (.slice A1 0 c1))
    (hC : ∀ W', Below n₀ W W' → Kd.C k56 W' Aa xs.length xs) (h0 : J 0 W) :
    CallsIn Fence.wide n Try.prog 154 #[.func (.yield l) #[] #[], .pointer (some ⟨Ba, 0, none⟩), .pointer (some ⟨Bb, 0, none⟩)] W fun e W' => (∃ v, e = .returned v) ∧ J xs.length W' ∧ True := by
  refine callsIn_of_wp Try.func154 rfl trivial ?_
  simp only [Try.ntmps154, List.size_toArray, List.length_cons, List.length_nil, Nat.reduceAdd, Nat.reduceSub, Array.replicate_succ, Array.replicate_zero, List.push_toArray, List.append_toArray, List.nil_append, List.cons_append]
  have hmix : Try.prog.follows .mixedOrders = true := by kernel_rfl
  gi_wp2
  gi_loopw [4] (fun _ wr => ∃ (i : Nat) (Ai : Option Addr) (ci : Nat), i ≤ xs.length ∧ Boxed wr Ba 35 (.slice Ai (xs.drop i).length ci) ∧ (xs.drop i).length ≤ ci ∧ Boxed wr Bb 35 (.slice A1 0 c1) ∧ (∀ W', Below n₀ wr W' → Kd.C k56 W' Ai (xs.drop i).length (xs.drop i)) ∧ J i wr)
    (fun _ wr => leftIn wr Ba)
  case atStart => exact ⟨0, Aa, ca, Nat.zero_le _, bA, hca, bB, hC, h0⟩
  case round =>
    obtain ⟨i, Ai, ci, hi, hbA, hci, hbB, hCi, hJi⟩ := hrel
    have ha0 := hbA.cell
    have hb0 := hbB.cell
    have hfa := hbA.frozen
    rcases Nat.lt_or_ge i xs.length with hlt | hge
    · have hdl : 0 < (xs.drop i).length := by rw [List.length_drop]; omega
      obtain ⟨ad, rfl, g0, g1, _⟩ := at_T56 (hCi wr (Below.refl _ _)) 0 (by omega) (by omega)
      have hx : rd_T56 (xs.drop i) 0 = xs[i] := by simp [rd_T56, List.getD_eq_getElem?_getD, hlt]
      rw [hx] at g0 g1
      have hcut := cut_one (some ad) (xs.drop i).length ci (by omega)
      have hlen : (xs.drop i).length ≠ 0 := by omega
      generalize hN : (xs.drop i).length = N at *
      gi_wp2
      refine wpIn_wide.2 ?_
      go_quiet (fail)
      revert nq
      intro q1
      gi_wp2
      have hz : ¬ ((N : Int) = 0) := by omega
      have hz2 : ((N : Int) == 0) = false := by simp; omega
      have hz3 : 0 < (N : Int) := by omega
      refine wpIn_wide.2 ?_
      go_quiet (fail)
      have hall : ∀ q v, YieldAt Fence.wide (n - 1) Try.prog l #[.pointer (some ad), .pointer none] ((wr.drewN q).setCell ⟨Ba, 0, none⟩ v) fun e W' =>
          e = .returned (.bool true) ∧ J (i + 1) W' ∧ Below n₀ ((wr.drewN q).setCell ⟨Ba, 0, none⟩ v) W' ∧ W'.heap[Ba]? = ((wr.drewN q).setCell ⟨Ba, 0, none⟩ v).heap[Ba]? ∧ W'.heap[Bb]? = ((wr.drewN q).setCell ⟨Ba, 0, none⟩ v).heap[Bb]? := fun q v => by
        have hb2 : Below n₀ wr ((wr.drewN q).setCell ⟨Ba, 0, none⟩ v) := (⟨rfl, rfl, rfl, Nat.le_refl _, fun _ _ => rfl⟩ : Below n₀ wr (wr.drewN q)).setCell (p := ⟨Ba, 0, none⟩) hn₀ v
        obtain ⟨ad', he, k0, k1, _⟩ := at_T56 (hCi _ hb2) 0 (by omega) (by omega)
        injection he with he
        subst he
        have e0 : ad.add (Int.toNat 0 * 5) = ad := by simp [Addr.add]
        rw [hx, e0] at k0 k1
        exact hY i ad _ (hJset _ _ _ (hJdrew _ _ _ hJi)) hlt k0 k1
      have hdrop : ∀ W', Below n₀ wr W' → Kd.C k56 W' (if ci = 1 then some ad else Option.map (fun x => x.add (1 * 5)) (some ad)) (xs.drop (i + 1)).length (xs.drop (i + 1)) := fun W' hb => by
        have h1 := hCi W' hb
        rw [← hN] at h1 hci
        have h2 := Kd.C_drop (m := 1) (c := ci) h1 (by omega) hci
        rw [List.drop_drop] at h2
        exact h2
      have hN1 : (xs.drop (i + 1)).length = N - 1 := by rw [← hN, List.length_drop, List.length_drop]; omega
      rw [hN1] at hdrop
      clear hcut
      have hbox : ∀ q v W3, W3.heap[Ba]? = ((wr.drewN q).setCell ⟨Ba, 0, none⟩ v).heap[Ba]? → W3.heap[Bb]? = ((wr.drewN q).setCell ⟨Ba, 0, none⟩ v).heap[Bb]? → Boxed W3 Ba 35 v ∧ Boxed W3 Bb 35 (.slice A1 0 c1) := fun q v W3 h1 h2 =>
        ⟨h1.trans (Boxed.set v (show Boxed (wr.drewN q) Ba _ _ from hbA)), h2.trans (Boxed.other (show Boxed (wr.drewN q) Bb _ _ from hbB) (Ne.symm hne) v)⟩
      have hbel : ∀ q v W3, Below n₀ ((wr.drewN q).setCell ⟨Ba, 0, none⟩ v) W3 → Below n₀ wr W3 := fun q v W3 h =>
        ((⟨rfl, rfl, rfl, Nat.le_refl _, fun _ _ => rfl⟩ : Below n₀ wr (wr.drewN q)).setCell (p := ⟨Ba, 0, none⟩) hn₀ v).trans h
      gi_wp2
      · obtain ⟨fn, tmps, assign, body, hy, hR⟩ := hall (q1 + nq) (.slice (some ad) (N - 1) 0)
        rw [hy]
        gi_wp2
        refine hR.mono ?_
        rintro e W3 ⟨rfl, hJ3, hB3, hA3, hBb3⟩
        obtain ⟨b1, b2⟩ := hbox _ _ _ hA3 hBb3
        have b1' : W3.heap[Ba]? = some (.cells #[.slice (some ad) (N - 1) 0] 35 (0, 0)) := b1
        gi_wp2
        go_roundw
        case rel => exact ⟨i + 1, some ad, 0, by omega, by rw [hN1]; exact b1, by omega, b2, fun W' hb => by have h4 := hdrop W' ((hbel _ _ _ hB3).trans hb); rw [if_pos (by omega)] at h4; rw [hN1]; exact h4, hJ3⟩
        case measure => rw [leftIn_eq b1, leftIn_eq hbA]; omega
      · obtain ⟨fn, tmps, assign, body, hy, hR⟩ := hall (q1 + nq) (.slice (some ⟨ad.block, ad.off + 5, none⟩) (N - 1) (ci - 1))
        rw [hy]
        gi_wp2
        refine hR.mono ?_
        rintro e W3 ⟨rfl, hJ3, hB3, hA3, hBb3⟩
        obtain ⟨b1, b2⟩ := hbox _ _ _ hA3 hBb3
        have b1' : W3.heap[Ba]? = some (.cells #[.slice (some ⟨ad.block, ad.off + 5, none⟩) (N - 1) (ci - 1)] 35 (0, 0)) := b1
        have had : Option.map (fun x : Addr => x.add (1 * 5)) (some ad) = some ⟨ad.block, ad.off + 5, none⟩ := by simp [Addr.add]
        gi_wp2
        go_roundw
        case rel => exact ⟨i + 1, some ⟨ad.block, ad.off + 5, none⟩, ci - 1, by omega, by rw [hN1]; exact b1, by omega, b2, fun W' hb => by have := hdrop W' ((hbel _ _ _ hB3).trans hb); rw [if_neg (by omega), had] at this; rw [hN1]; exact this, hJ3⟩
        case measure => rw [leftIn_eq b1, leftIn_eq hbA]; omega
    · have hi' : i = xs.length := by omega
      subst hi'
      simp only [List.drop_length, List.length_nil] at hbA ha0 hci hCi
      gi_wp2
      go_end0
      exact ⟨⟨_, rfl⟩, hJi, trivial⟩

theorem Boxed.putO {W : World} {B t l : Nat} {v : Value} {o o' : Obj} (h : Boxed W B t v) (ho : W.heap[l]? = some o) (hc : o.isCells = false) : Boxed (W.putObj l o') B t v :=
  h.kept (grownBy_putObj' W l o') (fun e => by cases e; rw [show W.heap[B]? = _ from h] at ho; cases ho; cases hc)
theorem belowPut {n₀ l : Nat} {W : World} {o o' : Obj} (hl : n₀ ≤ l) (ho : W.heap[l]? = some o) : Below n₀ W (W.putObj l o') :=
  (Below.refl n₀ W).grown (grownBy_putObj' W l o') (by have := (Array.getElem?_eq_some_iff.1 ho).1; omega) (fun k e => by cases e; omega)
/-- What a round keeps of what lay: everything below the first of two boxes, and both. -/
def KeepBoxes (n₀ Ba Bb : Nat) (W W' : World) : Prop := Below n₀ W W' ∧ W'.heap[Ba]? = W.heap[Ba]? ∧ W'.heap[Bb]? = W.heap[Bb]?
theorem KeepBoxes.trans {n₀ Ba Bb : Nat} {A B C : World} (h : KeepBoxes n₀ Ba Bb A B) (k : KeepBoxes n₀ Ba Bb B C) : KeepBoxes n₀ Ba Bb A C := ⟨h.1.trans k.1, k.2.1.trans h.2.1, k.2.2.trans h.2.2⟩
theorem KeepBoxes.put {n₀ Ba Bb : Nat} (W : World) (l : Nat) (o : Obj) (h0 : n₀ ≤ l) (h1 : Ba < l) (h2 : Bb < l) (hl : l < W.heap.size) : KeepBoxes n₀ Ba Bb W (W.putObj l o) :=
  ⟨(Below.refl n₀ W).grown (grownBy_putObj' W l o) (by omega) (fun k e => by cases e; omega), World.putObj_heap_other (by omega), World.putObj_heap_other (by omega)⟩

/-- **A range over a function whose iterator keeps its state in two boxes, and whose body never leaves.** I: what holds when i rounds are over; X: what round i is handed. -/
theorem range_boxes {P : Program} {n : Nat} {g : Operand} {ps : Array Tmp} {assign body : Code} {Q : Exit → Act → World → Prop} {a : Act} {w : World}
    (h1 : 1 ≤ n) {gf : Nat} {lb : Array Value} (hg : a.eval g = .func (.func gf) #[] lb) (eg : ∀ args w, (callFunc gf args).run P w = .ok (.enter gf args) w)
    (n₀ Ba Bb N : Nat) (hn₀ : n₀ ≤ w.heap.size) (hBa : Ba < w.heap.size) (hBb : Bb < w.heap.size) (X : Nat → Array Value → World → Prop) (hX : ∀ i v W, X i v W → v.size = ps.size)
    (hXput : ∀ i v W l o o', X i v W → W.heap[l]? = some o → o.isCells = false → X i v (W.putObj l o'))
    (hseq : ∀ (l : Nat) (J : Nat → World → Prop) (W : World), Below w.heap.size w W → (∀ i W v, J i W → J i (W.setCell ⟨Ba, 0, none⟩ v)) → (∀ i W v, J i W → J i (W.setCell ⟨Bb, 0, none⟩ v)) → (∀ i W m, J i W → J i (W.drewN m)) →
      (∀ i v W, J i W → i < N → X i v W → YieldAt Fence.wide (n - 1 - 1) P l v W fun e W' => e = .returned (.bool true) ∧ J (i + 1) W' ∧ KeepBoxes n₀ Ba Bb W W') →
      J 0 W → CallsIn Fence.wide (n - 1) P gf (#[.func (.yield l) #[] #[]] ++ lb) W fun e W' => (∃ v, e = .returned v) ∧ J N W')
    (I : Nat → World → Prop) (hIput : ∀ i W l o o', I i W → w.heap.size ≤ l → W.heap[l]? = some o → o.isCells = false → I i (W.putObj l o')) (hIalloc : ∀ i W o, I i W → w.heap.size ≤ W.heap.size → I i (W.alloc o))
    (hIa : ∀ i W v, I i W → I i (W.setCell ⟨Ba, 0, none⟩ v)) (hIb : ∀ i W v, I i W → I i (W.setCell ⟨Bb, 0, none⟩ v)) (hId : ∀ i W m, I i W → I i (W.drewN m)) (h0 : I 0 w)
    (a₁ : Array Value → Act)
    (hassign : ∀ (l i : Nat) (v : Array Value) (W : World) (K : Act → World → Prop), X i v W → K (a₁ v) W →
      assign.wpIn (Fence.wide.inRound l) (n - 1 - 1) P (Exit.then K (fun _ _ _ => False)) { tmps := (ps.zip v).foldl (fun t (p, v) => t.setIfInBounds p v) a.tmps, defers := [] } W)
    (hbody : ∀ (l i : Nat) (v : Array Value) (W : World), I i W → i < N → X i v W → body.wpIn (Fence.wide.inRound l) (n - 1 - 1) P (Exit.then (fun _ W' => KeepsOthers W W' ∧ KeepBoxes n₀ Ba Bb W W' ∧ I (i + 1) W') (fun _ _ _ => False)) (a₁ v) W)
    (hdone : ∀ (D : Nat) (W : World), w.heap.size ≤ D → I N W → W.heap[D]? = some (.deferred (some [])) → Q .normal { a with defers := { target := .collected D, args := #[] } :: a.defers } W) :
    (Code.rangeFunc g ps assign body).wpIn Fence.wide n P Q a w := by
  refine wpIn_rangeFunc fun fn _ => ?_
  obtain ⟨rec, hrec⟩ : ∃ rec : LoopState → Option Code → Loop, rec = fun st pe => { state := st, pending := pe, fn, tmps := a.tmps, params := ps, assign, body, defers := w.heap.size } := ⟨_, rfl⟩
  obtain ⟨W1, hW1⟩ : ∃ W1, (w.alloc (.deferred (some []))).alloc (.loop (rec .ready none)) = W1 := ⟨_, rfl⟩
  have hL1 : W1.heap[w.heap.size + 1]? = some (.loop (rec .ready none)) := by
    rw [← hW1]
    have := World.alloc_heap_new (w.alloc (.deferred (some []))) (.loop (rec .ready none))
    rwa [World.size_alloc] at this
  have hD1 : W1.heap[w.heap.size]? = some (.deferred (some [])) := by
    rw [← hW1]
    exact (Below.heap_alloc _ _ _ (by simp)).trans (World.alloc_heap_new w _)
  have hI1 : I 0 W1 := by
    rw [← hW1]
    exact hIalloc _ _ _ (hIalloc _ _ _ h0 (Nat.le_refl _)) (by simp)
  have hb1 : Below w.heap.size w W1 := by
    rw [← hW1]
    exact ((Below.refl _ w).alloc (Nat.le_refl _) _).alloc (by simp) _
  refine ⟨w.heap.size + 1, [{ target := .collected w.heap.size, args := #[] }], W1, { target := .fn (.func gf) lb, args := #[.func (.yield (w.heap.size + 1)) #[] #[]] }, W1, gf, #[.func (.yield (w.heap.size + 1)) #[] #[]] ++ lb, W1, ?_, ?_, fun _ _ => trivial, ?_, fun _ => h1, ?_⟩
  · rw [← hW1, hrec]
    exact run_enterLoop_outer _ _ _ _ _
  · simp only [resolve, hg]
    simp [go_sem]
  · simp [invoke, go_sem, eg]
  refine (hseq (w.heap.size + 1) (fun i W => I i W ∧ W.heap[w.heap.size + 1]? = some (.loop (rec .ready none)) ∧ W.heap[w.heap.size]? = some (.deferred (some []))) W1 hb1
    (fun i W v h => ⟨hIa i W v h.1, (Below.heap_setCell _ _ _ _ (by simp; omega)).trans h.2.1, (Below.heap_setCell _ _ _ _ (by simp; omega)).trans h.2.2⟩)
    (fun i W v h => ⟨hIb i W v h.1, (Below.heap_setCell _ _ _ _ (by simp; omega)).trans h.2.1, (Below.heap_setCell _ _ _ _ (by simp; omega)).trans h.2.2⟩)
    (fun i W m h => ⟨hId i W m h.1, h.2⟩) ?_ ⟨hI1, hL1, hD1⟩).mono ?_
  · rintro i v W ⟨hi, hl, hd⟩ hlt hx
    have hlw : w.heap.size + 1 < W.heap.size := (Array.getElem?_eq_some_iff.1 hl).1
    have hy := run_yield (P := P) (args := v) hl (by rw [hrec]; exact hX i v W hx)
    rw [hrec] at hy
    refine ⟨fn, _, assign, body, hy, roundIn_of_wpIn trivial (hassign _ i v W _ hx ⟨_, run_beginRound hl (by rw [hrec]), ?_⟩)⟩
    have hl2 : (W.putObj (w.heap.size + 1) (.loop { rec .ready none with state := .busy })).heap[w.heap.size + 1]? = some (.loop { rec .ready none with state := .busy }) := World.putObj_heap_same hlw
    have hd2 : (W.putObj (w.heap.size + 1) (.loop { rec .ready none with state := .busy })).heap[w.heap.size]? = some (.deferred (some [])) := (World.putObj_heap_other (by omega)).trans hd
    refine wpIn_mono (hbody _ i v _ (hIput _ _ _ _ _ hi (by omega) hl rfl) hlt (hXput _ _ _ _ _ _ hx hl rfl)) ?_
    rintro e a3 W3 hp
    cases e with
    | normal =>
      obtain ⟨hk3, hkb, hi3⟩ := hp
      have hl3 := hk3.same _ _ hl2 rfl
      have hd3 := hk3.same _ _ hd2 rfl
      have hr := run_endRound (P := P) none hl3
      have hlw3 : w.heap.size + 1 < W3.heap.size := (Array.getElem?_eq_some_iff.1 hl3).1
      rw [hrec] at hr
      refine ⟨_, _, hr, rfl, ⟨hIput _ _ _ _ _ hi3 (by omega) hl3 rfl, ?_, (World.putObj_heap_other (by omega)).trans hd3⟩, ?_⟩
      · rw [hrec]
        exact World.putObj_heap_same hlw3
      · exact ((KeepBoxes.put W _ _ (by omega) (by omega) (by omega) hlw).trans hkb).trans (KeepBoxes.put W3 _ _ (by omega) (by omega) (by omega) hlw3)
    | ret => exact hp.elim
    | exit id => exact hp.elim
    | goto t => exact hp.elim
    | panic c => exact hp.elim
    | outgrown => exact hp.elim
  · rintro e W2 ⟨⟨v, rfl⟩, hi, hl, hd⟩
    have hend := run_endLoop (P := P) hl (by rw [hrec]; simp)
    rw [hrec] at hend
    exact ⟨none, _, hend, hdone _ _ (Nat.le_refl _) (hIput _ _ _ _ _ hi (by omega) hl rfl) ((World.putObj_heap_other (by omega)).trans hd)⟩

section
variable {P : Program} {ops : Array Oper} {Q : Exit → Act → World → Prop} {S : World → Prop} {ds : List Nat}
/-- An operation that is no defer statement runs in a round as outside. -/
theorem opIn_of {l n : Nat} {o : Oper} {a : Act} {w : World} {K : Act → World → Prop} (hd : ∀ c, o.op ≠ .defer c) (h : o.wp P a w K Q) : o.wpIn (Fence.wide.inRound l) n P a w K Q := by
  refine ⟨fun _ _ => trivial, ?_⟩
  rw [Oper.semAt_eq _ _ _ hd]
  unfold Oper.wp at h
  generalize (execOp a.eval o).run P w = r at h ⊢
  match r, h with
  | .ok (.value v) w', h => exact h
  | .ok .skip w', h => exact h
  | .ok (.defer d) w', h => exact h
  | .ok (.enter f args) w', h => exact ⟨fun h => (nomatch h), callsIn_wide.2 h⟩
  | .halt (.panic v) w', h => exact h
  | .ok (.row row args) w', h => exact ⟨fun h => (nomatch h), fun c cs _ => let ⟨v, w2, r, s⟩ := h c cs; ⟨v, w2, r, stepsIn_wide.2 s⟩⟩
theorem anyIn_of {l n : Nat} (hd : ∀ (i : Nat) (o : Oper), ops[i]? = some o → ∀ c, o.op ≠ Op.defer c) (hQ : ¬ LetsOut Q) (md : Region.Mode) : ∀ (fuel : Nat) (listed : Array Bool) (a : Act) (w : World), wpAny P md ops Q fuel listed a w → wpAnyIn (Fence.wide.inRound l) n P md ops Q fuel listed a w
  | 0, _, _, _, h => h
  | fuel + 1, listed, a, w, h => ⟨h.1, fun i hi => by
    have h2 := h.2 i hi
    unfold wpOp at h2
    unfold wpOpIn
    split at h2
    · rename_i e
      rw [e]
      exact anyIn_of hd hQ md fuel _ _ _ h2
    · rename_i o e
      rw [e]
      split at h2
      · rename_i hw
        simp only [hw, if_true]
        rcases h2 with h2 | h2
        · exact Oper.wpIn_mono (fun a' w' h3 => anyIn_of hd hQ md fuel _ _ _ h3) (opIn_of (hd i o e) h2)
        · exact absurd h2.2 hQ
      · rename_i hw
        simp only [hw, if_false]
        exact ⟨fun _ _ => trivial, anyIn_of hd hQ md fuel _ _ _ h2⟩⟩
def noDefer (ops : Array Oper) : Bool := ops.all fun o => match o.op with | .defer _ => false | _ => true
theorem noDefer_spec (h : noDefer ops = true) (i : Nat) (o : Oper) (hi : ops[i]? = some o) (c : Call) : o.op ≠ Op.defer c := fun e => by
  unfold noDefer at h
  rw [Array.all_eq_true] at h
  obtain ⟨hlt, rfl⟩ := Array.getElem?_eq_some_iff.1 hi
  have := h i hlt
  rw [e] at this
  cases this
theorem regionIn_last {id l n k : Nat} {a : Act} {w : World} (bs : Array Bool) (hm : P.follows .mixedOrders = true) (hd : noDefer ops = true) (hQ : ¬ LetsOut Q) (hk : ops.size = k) (hl : Array.replicate k false = bs) (hS : S w.drew)
    (h : S w.drew → wpAnyLast P .any ops Q S ds k bs a w.drew) : (Code.region id ops true).wpIn (Fence.wide.inRound l) n P Q a w := by
  subst hk
  subst hl
  exact wpIn_region_any hm (anyIn_of (noDefer_spec hd) hQ _ _ _ _ _ (wpAny_of_last _ _ _ _ (h hS)))
theorem yield_ {oi : Oper} {N : Option Tmp} {a : Act} {w : World} {K : Act → World → Prop} (v : Value) (w' : World) (hw : Region.wanted oi (yielded ops a.tmps) = true) (hN : oi.dst = N) (hrun : (execOp a.eval oi).run P w = .ok (.value v) w') (h : K (a.put N v) w') :
    if Region.wanted oi (yielded ops a.tmps) = true then Oper.wp P oi a w K Q else K (a.put N undef) w := by
  subst hN
  rw [if_pos hw]
  unfold Oper.wp
  rw [hrun]
  exact h
theorem skips_ {oi : Oper} {N : Option Tmp} {a : Act} {w : World} {K : Act → World → Prop} (w' : World) (hw : Region.wanted oi (yielded ops a.tmps) = true) (hN : oi.dst = N) (hrun : (execOp a.eval oi).run P w = .ok .skip w') (h : K (a.put N undef) w') :
    if Region.wanted oi (yielded ops a.tmps) = true then Oper.wp P oi a w K Q else K (a.put N undef) w := by
  subst hN
  rw [if_pos hw]
  unfold Oper.wp
  rw [hrun]
  exact h
end

theorem both_in (n : Nat) (A B : Option Addr) (la ca lb cb : Nat) (w : World) :
    CallsIn Fence.wide n Try.prog 138 #[.slice A la ca, .slice B lb cb] w fun e w' => e = .returned (.func (.func 154) #[] #[.pointer (some ⟨w.heap.size, 0, none⟩), .pointer (some ⟨w.heap.size + 1, 0, none⟩)]) ∧ w' = (w.alloc (.cells #[.slice A la ca] 35)).alloc (.cells #[.slice B lb cb] 35) := by
  refine callsIn_of_wp Try.func138 rfl trivial ?_
  simp only [Try.ntmps138, List.size_toArray, List.length_cons, List.length_nil, Nat.reduceAdd, Nat.reduceSub, Array.replicate_succ, Array.replicate_zero, List.push_toArray, List.append_toArray, List.nil_append, List.cons_append]
  gi_wp2
  go_ret
  exact ⟨rfl, rfl⟩

def encN (x : S56) : List Value := [.int .i64 x.f0, .int .i64 x.f1, .float .f64 x.f2, .float .f64 x.f3, .int .i64 x.f4]
/-- That nothing more is told of a destination. -/
def goneN (x : S56) : S56 := ⟨x.f0, x.f1, 9218868437227405312, 0, 0⟩
def delta_diff.f (l0 l1 : List S56) : Option (List S56) := if l1.length = 0 ∧ l0.length ≤ 1099511627776 then some (l0.map goneN) else none
theorem inf_is : ∃ k, math_Inf.f k 1 = some 9218868437227405312 := ⟨8, rfl⟩

set_option maxRecDepth 100000 in
set_option maxHeartbeats 4000000 in
theorem delta_diff.calls (A0 : Option Addr) (c0 : Nat) (l0 : List S56) (A1 : Option Addr) (c1 : Nat) (l1 r : List S56) (w : World) (hr0 : Kd.C k56 w A0 l0.length l0) (hc0 : l0.length ≤ c0) (hr1 : Kd.C k56 w A1 l1.length l1) (hc1 : l1.length ≤ c1) (h : delta_diff.f l0 l1 = some r) :
    Calls Try.prog 108 #[.slice A0 l0.length c0, .slice A1 l1.length c1] w fun e w' => ∃ v0_ : Value, e = .returned v0_ ∧ Kd.R k56 56 w' w.heap.size (fun _ => True) v0_ r ∧ Below w.heap.size w w' := by
  unfold delta_diff.f at h
  split at h
  case isFalse => cases h
  rename_i hl
  obtain ⟨hl1, hl0⟩ := hl
  obtain rfl := Option.some.inj h
  rw [hl1]
  clear hr1 hc1 h
  refine (callsIn_wide (n := 6)).1 ?_
  refine callsIn_of_wp_marks Try.func108 rfl trivial ?_
  simp only [Try.ntmps108, List.size_toArray, List.length_cons, List.length_nil, Nat.reduceAdd, Nat.reduceSub, Array.replicate_succ, Array.replicate_zero, List.push_toArray, List.append_toArray, List.nil_append, List.cons_append]
  gi_wp2_with (refine ⟨trivial, ?_⟩; gi_at_call 138; refine (both_in _ _ _ _ _ _ _ _).mono ?_; rintro e w' ⟨rfl, rfl⟩)
  generalize hW0 : (((w.alloc (Obj.cells #[Value.slice none 0 0] 35)).alloc (Obj.cells #[Value.slice A0 l0.length c0] 35)).alloc (Obj.cells #[Value.slice A1 0 c1] 35)) = W0
  have bO : Boxed W0 w.heap.size 35 (.slice none 0 0) := by
    rw [← hW0]
    exact ((Boxed.new w 35 _).alloc _).alloc _
  have bA : Boxed W0 (w.heap.size + 1) 35 (.slice A0 l0.length c0) := by
    rw [← hW0]
    have := Boxed.new (w.alloc (Obj.cells #[Value.slice none 0 0] 35)) 35 (.slice A0 l0.length c0)
    rw [World.size_alloc] at this
    exact this.alloc _
  have bB : Boxed W0 (w.heap.size + 1 + 1) 35 (.slice A1 0 c1) := by
    rw [← hW0]
    have := Boxed.new ((w.alloc (Obj.cells #[Value.slice none 0 0] 35)).alloc (Obj.cells #[Value.slice A0 l0.length c0] 35)) 35 (.slice A1 0 c1)
    rwa [World.size_alloc, World.size_alloc] at this
  have hB0 : Below w.heap.size w W0 := by
    rw [← hW0]
    exact (((Below.refl _ w).alloc (Nat.le_refl _) _).alloc (by simp) _).alloc (by simp; omega) _
  have hsz : W0.heap.size = w.heap.size + 3 := by rw [← hW0]; simp
  clear hW0
  refine range_boxes (n := 6) (by omega) (gf := 154) (lb := #[.pointer (some ⟨w.heap.size + 1, 0, none⟩), .pointer (some ⟨w.heap.size + 1 + 1, 0, none⟩)]) rfl (enters_of Try.func154 (by kernel_rfl) rfl)
    w.heap.size (w.heap.size + 1) (w.heap.size + 1 + 1) l0.length (by omega) (by omega) (by omega)
    (fun i v W => ∃ (hi : i < l0.length) (ad : Addr), v = #[.pointer (some ad), .pointer none] ∧ W.cell? ad = some (.int .i64 (l0[i]).f0) ∧ W.cell? ⟨ad.block, ad.off + 1, none⟩ = some (.int .i64 (l0[i]).f1))
    (by rintro i v W ⟨_, _, rfl, _⟩; rfl)
    (by rintro i v W l o o' ⟨hi, ad, rfl, g0, g1⟩ ho hc; exact ⟨hi, ad, rfl, cell_kept g0 (grownBy_putObj' W l o') (fun r e => by cases e; exact ⟨_, ho, hc⟩), cell_kept g1 (grownBy_putObj' W l o') (fun r e => by cases e; exact ⟨_, ho, hc⟩)⟩)
    ?seq
    (fun i W => (∃ v, Boxed W w.heap.size 35 v ∧ W.ownsRow w.heap.size 56 5 v i (((l0.take i).map goneN).flatMap encN)) ∧ (∃ u, Boxed W (w.heap.size + 1) 35 u) ∧ (∃ u, Boxed W (w.heap.size + 1 + 1) 35 u) ∧ Below w.heap.size w W)
    (by rintro i W l o o' ⟨⟨v, hv, hrow⟩, ⟨u1, h1⟩, ⟨u2, h2⟩, hB⟩ hl ho hc; exact ⟨⟨v, Boxed.putO hv ho hc, ownsRow_putObj hrow o' ho hc⟩, ⟨u1, Boxed.putO h1 ho hc⟩, ⟨u2, Boxed.putO h2 ho hc⟩, hB.trans (belowPut (by omega) ho)⟩)
    (by rintro i W o ⟨⟨v, hv, hrow⟩, ⟨u1, h1⟩, ⟨u2, h2⟩, hB⟩ hl; exact ⟨⟨v, hv.alloc _, hrow.alloc _⟩, ⟨u1, h1.alloc _⟩, ⟨u2, h2.alloc _⟩, hB.alloc (by omega) _⟩)
    (by rintro i W x ⟨⟨v, hv, hrow⟩, ⟨u1, h1⟩, ⟨u2, h2⟩, hB⟩; exact ⟨⟨v, hv.other (by omega) _, hrow.kept (grownBy_setCell' W _ x) (.inr (h1.not_row (by decide) hrow).symm)⟩, ⟨x, h1.set x⟩, ⟨u2, h2.other (by omega) _⟩, hB.setCell (p := ⟨w.heap.size + 1, 0, none⟩) (by simp) _⟩)
    (by rintro i W x ⟨⟨v, hv, hrow⟩, ⟨u1, h1⟩, ⟨u2, h2⟩, hB⟩; exact ⟨⟨v, hv.other (by omega) _, hrow.kept (grownBy_setCell' W _ x) (.inr (h2.not_row (by decide) hrow).symm)⟩, ⟨u1, h1.other (by omega) _⟩, ⟨x, h2.set x⟩, hB.setCell (p := ⟨w.heap.size + 1 + 1, 0, none⟩) (by simp; omega) _⟩)
    (by rintro i W m ⟨⟨v, hv, hrow⟩, ⟨u1, h1⟩, ⟨u2, h2⟩, hB⟩; exact ⟨⟨v, hv, hrow⟩, ⟨u1, h1⟩, ⟨u2, h2⟩, hB.os, hB.tape, hB.output, hB.size, hB.block⟩)
    ⟨⟨_, bO, World.ownsRow_nil _ _ _ _⟩, ⟨_, bA⟩, ⟨_, bB⟩, hB0⟩
    (fun v => { tmps := #[Value.slice A0 l0.length c0, Value.slice A1 0 c1, undef, undef, Value.slice none 0 0, Value.pointer (some { block := w.heap.size, off := 0 }), v[0]!, v[1]!, Value.slice A0 l0.length c0, Value.slice A1 0 c1, Value.func (Fn.func 154) #[] #[Value.pointer (some { block := w.heap.size + 1, off := 0 }), Value.pointer (some { block := w.heap.size + 1 + 1, off := 0 })],
          v[0]!, v[1]!, undef, undef, undef, undef, undef, undef, undef, undef, undef, undef, undef, undef, undef, undef, undef, undef, undef, undef, undef, undef, undef, undef, undef, undef, undef, undef, undef, undef, undef, undef, undef, undef, undef, undef, undef, undef], defers := [] })
    ?assign ?body ?done
  case seq =>
    intro l J W hW hJa hJb hJd hY hJ0
    exact (both1_in (6 - 1) (by omega) l w.heap.size (w.heap.size + 1) (w.heap.size + 1 + 1) (by omega) (by omega) l0 J A1 c1 hJa hJd
      (fun i ad W hj hi g0 g1 => hY i _ W hj hi ⟨hi, ad, rfl, g0, g1⟩) W A0 c0 hc0 (hW.block _ (by omega) |>.trans bA) (hW.block _ (by omega) |>.trans bB)
      (fun W' hb => Kd.C_below hr0 ((hB0.trans (hW.mono (by omega))).trans hb)) hJ0).mono (fun e W' h => ⟨h.1, h.2.1⟩)
  case assign =>
    rintro l i v W K ⟨hi, ad, rfl, g0, g1⟩ hK
    gi_wp2
    exact hK
  case body =>
    rintro l i v W ⟨⟨vv, hv, hrow⟩, ⟨u1, h1⟩, ⟨u2, h2⟩, hB⟩ hlt ⟨hi, ad, rfl, g0, g1⟩
    have hc := hv.cell
    have hd : 1 ≤ 6 - 1 - 1 := by omega
    have hmx : Try.prog.follows .mixedOrders = true := by kernel_rfl
    obtain ⟨kI, hI⟩ := inf_is
    gi_wp2
    refine regionIn_last (k := 14) (ds := [12, 13]) (S := fun w' => w'.cell? ⟨w.heap.size, 0, none⟩ = some vv ∧ w'.cell? ad = some (.int .i64 (l0[i]).f0) ∧ w'.cell? ⟨ad.block, ad.off + 1, none⟩ = some (.int .i64 (l0[i]).f1)) (bz 14 0) hmx (by kernel_rfl) (by rintro ⟨_, _, h⟩; exact h) rfl rfl ⟨hc, g0, g1⟩ (fun hH => ?_)
    refine take_ (i := 0) (N := some 16) (v := ?_) (a' := ?_) (bz 14 1) rfl rfl (by kernel_rfl) (fun _ _ _ h => h) (.inl ⟨rfl, ?_⟩) hH ?_ ?_; rotate_left; rintro w' ⟨s0, s1, s2⟩; go_simp; with_reducible rfl; rotate_left; simp only [Act.put, qa, qb, qc, i64_w, i32_w]; rfl
    refine pure_ (i := 1) (N := some 17) (v := ?_) (a' := ?_) (bz 14 3) rfl rfl (by kernel_rfl) (fun _ _ _ h => h) (.inl ⟨rfl, ?_⟩) ?_ ?_; rotate_left; intro w'; go_simp; with_reducible rfl; rotate_left; simp only [Act.put, qa, qb, qc, i64_w, i32_w]; rfl
    refine pure_ (i := 2) (N := some 18) (v := ?_) (a' := ?_) (bz 14 7) rfl rfl (by kernel_rfl) (fun _ _ _ h => h) (.inl ⟨rfl, ?_⟩) ?_ ?_; rotate_left; intro w'; go_simp; with_reducible rfl; rotate_left; simp only [Act.put, qa, qb, qc, i64_w, i32_w]; rfl
    refine pure_ (i := 3) (N := some 19) (v := ?_) (a' := ?_) (bz 14 15) rfl rfl (by kernel_rfl) (fun _ _ _ h => h) (.inl ⟨rfl, ?_⟩) ?_ ?_; rotate_left; intro w'; go_simp; with_reducible rfl; rotate_left; simp only [Act.put, qa, qb, qc, i64_w, i32_w]; rfl
    refine take_ (i := 4) (N := some 20) (v := ?_) (a' := ?_) (bz 14 31) rfl rfl (by kernel_rfl) (fun _ _ _ h => h) (.inl ⟨rfl, ?_⟩) hH ?_ ?_; rotate_left; rintro w' ⟨s0, s1, s2⟩; go_simp; with_reducible rfl; rotate_left; simp only [Act.put, qa, qb, qc, i64_w, i32_w]; rfl
    refine pure_ (i := 5) (N := some 21) (v := ?_) (a' := ?_) (bz 14 63) rfl rfl (by kernel_rfl) (fun _ _ _ h => h) (.inl ⟨rfl, ?_⟩) ?_ ?_; rotate_left; intro w'; go_simp; with_reducible rfl; rotate_left; simp only [Act.put, qa, qb, qc, i64_w, i32_w]; rfl
    refine pure_ (i := 6) (N := some 22) (v := ?_) (a' := ?_) (bz 14 127) rfl rfl (by kernel_rfl) (fun _ _ _ h => h) (.inl ⟨rfl, ?_⟩) ?_ ?_; rotate_left; intro w'; go_simp; with_reducible rfl; rotate_left; simp only [Act.put, qa, qb, qc, i64_w, i32_w]; rfl
    refine pure_ (i := 7) (N := some 23) (v := ?_) (a' := ?_) (bz 14 255) rfl rfl (by kernel_rfl) (fun _ _ _ h => h) (.inl ⟨rfl, ?_⟩) ?_ ?_; rotate_left; intro w'; go_simp; with_reducible rfl; rotate_left; simp only [Act.put, qa, qb, qc, i64_w, i32_w]; rfl
    refine take_ (i := 8) (N := some 24) (v := ?_) (a' := ?_) (bz 14 511) rfl rfl (by kernel_rfl) (fun _ _ _ h => h) (.inl ⟨rfl, ?_⟩) hH ?_ ?_; rotate_left; rintro w' ⟨s0, s1, s2⟩; go_simp; with_reducible rfl; rotate_left; simp only [Act.put, qa, qb, qc, i64_w, i32_w]; rfl
    refine one_ (i := 9) (N := some 25) (bz 14 1023) rfl rfl (by kernel_rfl) (by decide) (fun K hK => ?_)
    refine goes_ Try.func40 (by kernel_rfl) rfl #[.int .i64 1] (by rfl) rfl rfl (by (try simp only [List.map_toArray, List.map_cons, List.map_nil]); first | done | rfl) ?_
    refine (math_Inf.calls kI 1 _ _ hI).mono ?_
    rintro e w' ⟨rfl, ⟨m, rfl⟩⟩
    obtain ⟨W2, hW2⟩ : ∃ W2, W.drew.drewN m = W2 := ⟨_, rfl⟩
    have hv2 : Boxed W2 w.heap.size 35 vv := by
      rw [← hW2]
      exact hv
    have hrow2 : W2.ownsRow w.heap.size 56 5 vv i (((l0.take i).map goneN).flatMap encN) := by
      rw [← hW2]
      exact hrow
    have hB2 : Below w.heap.size W W2 := by
      rw [← hW2]
      exact ⟨rfl, rfl, rfl, Nat.le_refl _, fun _ _ => rfl⟩
    have hk2 : KeepsOthers W W2 := by
      rw [← hW2]
      exact ⟨Nat.le_refl _, fun _ _ h _ => h⟩
    have hS2 : W2.heap = W.heap := by rw [← hW2]; rfl
    have hs0 := hB.size
    have g02 : W2.cell? ad = some (.int .i64 (l0[i]).f0) := by rw [← hW2]; exact g0
    have g12 : W2.cell? ⟨ad.block, ad.off + 1, none⟩ = some (.int .i64 (l0[i]).f1) := by rw [← hW2]; exact g1
    refine ⟨_, rfl, ?_⟩
    rw [hW2]
    refine hK.out _ _ ⟨hv2.cell, g02, g12⟩ (fun hH => ?_)
    clear hK K
    refine norm_ (a' := ?_) ?_ ?_; rotate_left; show Act.put _ (some 25) _ = _; simp only [Act.put, qa, qb, qc, i64_w, i32_w]; rfl
    refine pure_ (i := 10) (N := some 26) (v := ?_) (a' := ?_) (bz 14 2047) rfl rfl (by kernel_rfl) (fun _ _ _ h => h) (.inl ⟨rfl, ?_⟩) ?_ ?_; rotate_left; intro w'; go_simp; with_reducible rfl; rotate_left; simp only [Act.put, qa, qb, qc, i64_w, i32_w]; rfl
    obtain ⟨T, hT⟩ : ∃ T, Obj.cells #[.int .i64 (l0[i]).f0, .int .i64 (l0[i]).f1, .float .f64 9218868437227405312, .float .f64 0, .int .i64 0] 56 = T := ⟨_, rfl⟩
    refine one_ (i := 11) (N := some 27) (bz 14 4095) rfl rfl (by kernel_rfl) (by decide) (fun K hK => ?_)
    refine yield_ (.slice (some ⟨W2.heap.size, 0, none⟩) 1 1) (W2.alloc T) rfl rfl ?_ ?_
    · rw [← hT]
      go_simp
    refine hK.out _ _ ⟨(hv2.alloc T).cell, cell_kept g02 (World.grownBy_alloc W2 T none) (fun r e => by cases e), cell_kept g12 (World.grownBy_alloc W2 T none) (fun r e => by cases e)⟩ (fun hH => ?_)
    clear hK K
    refine norm_ (a' := ?_) ?_ ?_; rotate_left; show Act.put _ (some 27) _ = _; simp only [Act.put, qa, qb, qc, i64_w, i32_w]; rfl
    obtain ⟨ti, e1, e2, e3, e4⟩ := pinfo
    have hT2 : (W2.alloc T).heap[W2.heap.size]? = some (.cells #[.int .i64 (l0[i]).f0, .int .i64 (l0[i]).f1, .float .f64 9218868437227405312, .float .f64 0, .int .i64 0] 56 (0, 0)) := by
      rw [← hT]
      exact World.alloc_heap_new _ _
    have hnews : ∀ j u, (encN (goneN (l0[i])))[j]? = some u → (W2.alloc T).cell? ((⟨W2.heap.size, 0, none⟩ : Addr).add j) = some u := fun j u hj => by
      have hadd : (⟨W2.heap.size, 0, none⟩ : Addr).add j = ⟨W2.heap.size, j, none⟩ := by
        unfold Addr.add
        split
        · rename_i h; rw [h]
        · simp
      rw [hadd, blk_cell hT2 j]
      simpa [encN, goneN] using hj
    obtain ⟨v', w1, hrun, hown', hgrow, _⟩ := run_append_own (P := Try.prog) (W2.alloc T) w.heap.size 35 35 56 ti _ 5 40 Try.underlying35 e1 e2 e3 e4 rfl (by decide) vv i _ (hrow2.alloc T) ⟨W2.heap.size, 0, none⟩ 1 1 (encN (goneN (l0[i]))) rfl hnews (by simp [encN, goneN, Value.oneCell']) (by simp only [maxLen]; omega) (by omega) (by have := congrArg Array.size hS2; simp; omega)
    obtain ⟨g', cap', rfl⟩ := ownsRow_succ hown'
    obtain ⟨x1, x2, x3, x4, x5⟩ := hv2.appended (by decide) hrow2 (by rw [hS2]; omega) (Nat.le_refl _) hown' hgrow
    have x1c := x1.cell
    have x1f := x1.frozen
    refine last_ (i := 12) (N := some 28) (bz 14 8191) rfl rfl (by kernel_rfl) (by decide) (fun K hK => ?_)
    refine yield_ (.slice (some ⟨g', 0, none⟩) (i + 1) cap') w1 rfl rfl ?_ ?_
    · unfold execOp
      simp [resolve, invoke, builtin, Act.eval, hrun, Result.andThen]
    refine hK.out _ _ ?_
    clear hK K
    refine norm_ (a' := ?_) ?_ ?_; rotate_left; show Act.put _ (some 28) _ = _; simp only [Act.put, qa, qb, qc, i64_w, i32_w]; rfl
    refine last_ (i := 13) (N := none) (bz 14 16383) rfl rfl (by kernel_rfl) (by decide) (fun K hK => ?_)
    refine skips_ (w1.setCell ⟨w.heap.size, 0, none⟩ (.slice (some ⟨g', 0, none⟩) (i + 1) cap')) rfl rfl ?_ ?_
    · go_simp
    refine hK.out _ _ ?_
    clear hK K
    refine done_ (by kernel_rfl) ?_
    gi_wp2
    have htake : (((l0.take (i + 1)).map goneN).flatMap encN) = (((l0.take i).map goneN).flatMap encN) ++ encN (goneN (l0[i])) := by
      rw [List.take_add_one, List.getElem?_eq_getElem hi]
      simp only [Option.toList_some, List.map_append, List.flatMap_append, List.map_cons, List.map_nil, List.flatMap_cons, List.flatMap_nil, List.append_nil]
    have hA2 : Boxed W2 (w.heap.size + 1) 35 u1 := by
      rw [← hW2]
      exact h1
    have hC2 : Boxed W2 (w.heap.size + 1 + 1) 35 u2 := by
      rw [← hW2]
      exact h2
    have hA3 := Boxed.other ((hA2.alloc T).kept hgrow (hA2.not_row (by decide) hrow2)) (show w.heap.size + 1 ≠ w.heap.size by omega) (.slice (some ⟨g', 0, none⟩) (i + 1) cap')
    have hC3 := Boxed.other ((hC2.alloc T).kept hgrow (hC2.not_row (by decide) hrow2)) (show w.heap.size + 1 + 1 ≠ w.heap.size by omega) (.slice (some ⟨g', 0, none⟩) (i + 1) cap')
    exact ⟨hk2.trans x4, ⟨hB2.trans x5, Eq.trans hA3 (Eq.symm h1), Eq.trans hC3 (Eq.symm h2)⟩, ⟨_, x2, by rw [htake]; exact x3⟩, ⟨u1, hA3⟩, ⟨u2, hC3⟩, hB.trans (hB2.trans x5)⟩
  case done =>
    rintro D W hD ⟨⟨v, hv, hrow⟩, _, _, hB⟩ hK
    have hc := hv.cell
    gi_wp2
    refine ⟨by simp, .inl ⟨_, _, rfl, run_takeDeferred hK, ?_⟩⟩
    refine ⟨_, results_tmp rfl _ _ _, v, rfl, ?_, hB.trans (belowPut (by omega) hK)⟩
    have hrow' := ownsRow_putObj hrow (.deferred none) hK rfl
    rw [List.take_length] at hrow'
    have hreps := (Go.Proofs.YtjkhckbfkinheaaW.SortB.reps_flat (R := k56.M (W.putObj D (Obj.deferred none)) w.heap.size (fun k => True ∧ some k ≠ v.ownBlock)) id encN 5 (fun _ => rfl) (fun x cs => ⟨fun h => k56_openM h, fun h => by subst h; exact k56_mkM _ _ _ x⟩) (l0.map goneN) _).2 rfl
    rw [List.map_id] at hreps
    exact ⟨fun _ _ => trivial, _, by rw [List.length_map]; exact hrow', hreps⟩
end Go.Proofs.Ytjkhckbfkinheaa.GAa
